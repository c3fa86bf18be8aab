/-
  The law BodiesJoins holds (part 8 of 9).
-/
import Derived.Test.YtlobmefcflhmaaaGreatDoorYj7
import Derived.Test.YtlobmefcflhmaaaGreatDoorRows
import Derived.ProofKit
import Derived.OpenShut
import Derived.Deep.DeepHandedRow
import Derived.Lib.LaidTab
import Derived.Shelf.Vars
import Derived.ChangeSame
import Derived.WalkKit
import Derived.SevenTiedAt
import Derived.Deep.Slices
import Derived.ReadAgain
import Derived.Test.YtlobmefcflhmaaaGreatDoorProg
import Derived.Shelf.Strings.Builder1
import Derived.Shelf.Strings.Builder2
import Derived.Shelf.Strings.OnBuilder
import Derived.Shelf.Strings.Trim
import Derived.Shelf.Small.Utf8
import Derived.Shelf.Small.Strs
import Derived.Shelf.Small.Wraps
import Derived.Shelf.Strings.BuilderF
import Derived.Shelf.Strings.BuilderK
import Derived.Shelf.Utf8.RuneCount
import Derived.Shelf.Strings.Builder2Cap
import Derived.Shelf.Strconv.Itoa0
import Derived.Shelf.Strconv.Itoa1
import Derived.Shelf.LaysM
import Derived.Shelf.Strconv.Itoa2
import Derived.Shelf.Strconv.Itoa3
import Derived.Shelf.Strings.Search1
import Derived.Shelf.Strings.Search2
import Derived.Shelf.Strings.Search3
import Derived.Shelf.Strings.Cut
import Derived.Shelf.Strings.Count
import Derived.Shelf.Strings.Shaped
import Derived.Shelf.Strings.LastIndex
import Derived.Shelf.Strings.Prefix
import Derived.Shelf.Strings.Split
import Derived.Shelf.Strings.SplitShaped
import Derived.Shelf.Unicode.Decode
import Derived.Shelf.Strings.Runes
import Derived.Shelf.Strings.RuneCount
import Derived.Shelf.Strings.IndexAny
import Derived.Shelf.Strings.AsciiSet
import Derived.Shelf.Strings.IndexAnyAll
import Derived.Shelf.Strings.Explode
import Derived.Shelf.Unicode.DecodeSlow
import Derived.Shelf.Unicode.DecodeAny
import Derived.Shelf.Unicode.DecodeLast
import Derived.Shelf.Strings.BuilderCap
import Derived.Shelf.Bytes.SlIndexSmall
import Derived.Shelf.Bytes.SlIndexAt
import Derived.Shelf.Bytes.SlSearch0
import Derived.Shelf.Bytes.SlSearch1
import Derived.Shelf.Bytes.SlSearch2
import Derived.Shelf.Bytes.SlIndexWhole
import Derived.Ground.SlbCloneProg
import Derived.Shelf.Bytes.SlClone
import Derived.Shelf.Bytes.SlSmallAll
import Derived.Shelf.Bytes.SlEqualAll
import Derived.Ground.SlbtProg
import Derived.Shelf.Bytes.SlCut
import Derived.Ground.PaProg
import Derived.Shelf.Path.Small
import Derived.Shelf.Bytes.Small
import Derived.Shelf.Bytes.IndexByte
import Derived.Shelf.Strings.SlTrimAscii
open Bool renaming false → ν, true → μ
open Go renaming Addr → Γ, IntKind → Ε, Program → Β, TypeId → ω, Value → ξ, World → ο
open Go.Shelf renaming Ren → Κ
open Go.Utf8 renaming encode → ψ
open Go.Value renaming bool → υ, func → Θ, int → Δ, pointer → φ, slice → π
open Int renaming toNat → Ι
open List renaming flatMap → Η, length → γ
open Option renaming none → ι, some → θ
set_option linter.unusedVariables false
set_option linter.unusedSimpArgs false
set_option maxRecDepth 20000
namespace Go.Proofs
open Go.Wk Go.Px Go.RowKit
theorem lenOf{s:ByteArray}(h:s.size<=maxLen):γ s.data.toList<=9223372036854775807:=Ja (by rw[Array.length_toList];exact h) (show maxLen<=9223372036854775807 by decide)
theorem Nj{P:Β}{w:ο}:∀{l:δ (String×DataW Unit)} {c:δ MemPlace},DataW.LaidVars P w l c->∀(i:Nat) {n:String} {d:DataW Unit},l[i]? =θ (n,d)->
  ∃g t cs a p,P.globalNamed n=θ g/\(P.globals[g]?).map (·.type)=θ t/\w.var? P n=θ cs/\DataW.trod (λ_=>()) P w 0 (λ_=>μ) ν a t cs.toList=θ (d,p)
 |[],_,_,i,n,d,b=>by simp at b
 |(n',d')::l,c,h,0,n,d,b=>by obtain⟨g,t,cs,a,p,q,m,k,j,f,_,_⟩:=h;simp only[List.getElem?_cons_zero,bG,cO]at b;obtain⟨rfl,rfl⟩:=b;exact⟨g,t,cs,a,p,m,k,j,f⟩
 |(n',d')::l,c,h,i+1,n,d,b=>by obtain⟨g,t,cs,a,p,q,_,_,_,_,e,_⟩:=h;exact Nj e i aC2
variable {P:Β}{w:ο}{g:Nat}{a:Array ξ}
theorem dh{n:String}(c:P.globalNamed n=θ g)(h:w.var? P n=θ a):Vr w g a.toList:=by
 simp only[World.var?,c,cL]at h;split at h
 ·rename_i b t f e;cases h;exact⟨t,f,by rw[e]⟩
 ·cases h
theorem chunks{a:Type}{f:a->δ ξ}{sz:Nat}:∀(zs:δ a) (cs:δ ξ),γ cs=γ zs*sz->(∀(i:Nat) (z:a),zs[i]? =θ z->(cs.drop (i*sz)).take sz=f z)->cs=zs.flatMap f
 |[],cs,b,_=>by simpa using b
 |z::zs,cs,b,h=>by have c:=h 0 z rfl;simp only[Nat.zero_mul,Rh]at c;have e:=chunks (f:=f) (sz:=sz) zs (cs.drop sz) (by rw[IW,b,dI,dA];omega) (λi z' d=>by have:=h (i+1) z' aD3;rw[List.drop_drop,Nat.add_comm,<-dA];exact this);rw[List.flatMap_cons,<-c,<-e,XS]
variable {e:ω}{cs:δ ξ}{p:δ MemPlace}{d:Type}
theorem Qn{n sz:Nat}{a:ω}{dz:d->DataW Unit}{f:d->δ ξ}(zs:δ d)
  (v:P.underlying e=θ (.array n a)) (m:P.cellsOf a=sz) (l:P.cellsOf e=n*sz) (s:γ zs=n)
  (k:∀g c z p,DataW.trod (λ_=>()) P w 0 (λ_=>μ) ν g a c=θ (dz z,p)->c=f z)
  (h:DataW.trod (λ_=>()) P w 0 (λ_=>μ) ν g e cs=θ (.agg (zs.map dz),p)):cs=zs.flatMap f:=by
 cases g with
 |zero=>simp[DataW.trod]at h
 |succ g=>
  simp only[DataW.trod,v,m,l]at h;split at h
  ·rename_i y;obtain⟨r,x,hx⟩:=bR.1 h;have t:r.map (·.1)=zs.map dz:=by have:=bF Prod.fst hx;simpa using this
   refine chunks zs cs (by rw[y,s]) λi z u=> ?_;have j:i<n:=by rw[<-s];exact(aF.1 u).1
   obtain⟨b,B,A⟩:=Lib.mapM_at x i i (by simp[j]);have o:b.1=dz z:=by
    have q:(r.map (·.1))[i]? =θ b.1:=by simp[B]
    rw[t]at q;simp only[aY,u,Option.map_some,bG]at q;exact q.symm
   exact k g _ z b.2 (by rw[A,<-o])
  ·cases h
theorem Yn{p:δ MemPlace}(b:P.underlying e=θ .string)(z:δ ζ)
  (h:DataW.trod (λ_=>()) P w 0 (λ_=>μ) ν g e cs=θ (.lit (.string z),p)):cs=eS z:=by
 obtain⟨s,rfl,hx,_⟩:=DataW.trod_string b h;simp only[cO,DataW.lit.injEq,Lit.string.injEq]at hx;obtain⟨rfl,_⟩:=hx;rfl
variable {k:Ε}
theorem kd{p:δ MemPlace}(b:P.underlying e=θ (.int k))(z:Int)
  (h:DataW.trod (λ_=>()) P w 0 (λ_=>μ) ν g e cs=θ (.lit (.int k z),p)):cs=[.int k z]:=by
 obtain⟨n,rfl,hx,_⟩:=DataW.trod_int b h;simp only[cO,DataW.lit.injEq,Lit.int.injEq]at hx;obtain⟨⟨_,rfl⟩,_⟩:=hx;rfl
theorem L6{a b:ω}{f0 f1:Field}{p:δ MemPlace}(A:P.underlying e=θ (.struct #[f0,f1]))(D:P.underlying a=θ .string)(C:P.underlying b=θ (.int k))
  (n:(f0.type,f0.offset,f1.type,f1.offset)=(a,0,b,1)) (l:P.cellsOf a=1) (j:P.cellsOf b=1) (B:P.cellsOf e=2) (z:δ ζ×Int)
  (h:DataW.trod (λ_=>()) P w 0 (λ_=>μ) ν g e cs=θ (.agg [.lit (.string z.1),.lit (.int k z.2)],p)):cs=[str z.1,.int k z.2]:=by
 obtain⟨q,o⟩:=z;simp only[cO]at n;obtain⟨t0,x,t1,t⟩:=n;cases g with
 |zero=>simp[DataW.trod]at h
 |succ g=>
  simp only[DataW.trod,A,B]at h;split at h
  ·rename_i y;obtain⟨G,m,hx⟩:=bR.1 h;simp only[List.mapM_cons,List.mapM_nil,Option.bind_eq_bind,Option.bind_eq_some_iff,Option.pure_def,bG,t0,t1,x,t,l,j,Rh]at m;obtain⟨s,i,I,⟨r,c,H,rfl,rfl⟩,rfl⟩:=m;simp only[gP,gH,cO,DataW.agg.injEq,oH,and_true]at hx;obtain⟨⟨F,E⟩,_⟩:=hx;have f:=Yn D q (p:=s.2) (by rw[i,<-F]);have d:=kd C o (p:=r.2) (by rw[c,<-E])
   match cs,y,f,d with
   |[u,v],_,f,d=>simp only[dY,List.take_zero,Hu,Rh,eS,oH,and_true]at f d;rw[f,d]
  ·cases h
theorem yz{t:ω}{zero:Array ξ}(h:w.ShapedOpen P)(b:g<P.globals.size)
  (c:((begin P (λ_ _=>0) default).world.heap[g]?).bind Obj.row? =θ (zero,t)) (d:zero.size=1)
  (p:P.buildable t=μ) (o:P.cellTypes P.depth t=θ [t]) (f:P.underlying t=θ (.int k)):∃m,Vr w g [.int k m]:=by
 obtain⟨m,j⟩:=cell_of_shapedOpen_int h b c d p o f;obtain⟨cs,a,s,_⟩:=h.1 g zero t b c;refine⟨m,t,(0,0), ?_⟩;rw[a];have r:cs.size=1:=aA0
 have q:cs[0]? =θ (.int k m):=by
  have:w.cell? ⟨g,0,ι⟩=cs[0]? :=by simp[World.cell?,a]
  rw[<-this];exact j
 have e:cs=[Δ k m].toArray:=by
  apply bx
  ·simp[r]
  ·intro i n l;have:i=0:=aA0;subst this;simpa [n] using q
 rw[e]
theorem R1(h:w.ShapedOpen P)(b:g<P.globals.size)(d:(((begin P (λ_ _=>0) default).world.heap[g]?).bind Obj.row?).isSome=μ):g+1<=w.heap.size:=by obtain⟨⟨zero,t⟩,c⟩:=CH.1 d;obtain⟨cs,a,_⟩:=h.1 g zero t b c;exact(cF.1 a).1
theorem ys{l:δ (String×DataW Unit)}(h:laidMetH P l w)(b:(l.filter λx=>x.2.handleName?.isSome)=[]):∃a,DataW.LaidVars P w l a:=by unfold laidMetH at h;rw[b]at h;obtain⟨a,c,_⟩:=h;exact⟨a,c⟩
theorem postOf{enc:ω×ξ->d}{f:Func}{s:ChangeSpec}{H fresh c:η}{m:ο}{v:ξ}{l gs:δ (DataW d)}{pa pv:δ MemPlace}
  (n:DataW.Whole enc P f.params.toList s.vars H w a.toList l gs p)
  (k:∀(b:Nat) (g:Nat->η) (r:η),DataW.TrodAll enc P m b g r f.resultTypes.toList (v.resultList f.resultTypes.size) (s.fn d (l++gs)).results [])
  (j:∀g:Nat->η,(∀W∈p,g W.block=μ)->DataW.TrodAll enc P m 0 g μ f.params.toList a.toList (s.fn d (l++gs)).args pa)
  (i:∀g:Nat->η,(∀W∈p,g W.block=μ)->DataW.TrodVars enc P m g s.vars (s.fn d (l++gs)).vars pv)
  (q:w.keptBut m (λW=>W∈p/\(W∈([]:δ MemPlace)\/W∈pa\/W∈pv))):s.post enc P f H fresh c ν w a v m:=by
 have e:∀W∈p,(λb=>decide (b<w.heap.size)) W.block=μ:=λW o=>by simpa using n.lt W o
 exact⟨l,gs,p,[],pa,pv,n,k _ _ _,j _ e,i _ e,q,λh=>by cases h⟩
end Go.Proofs
set_option maxRecDepth 100000
namespace Go.Proofs
open Go.Wk Go.Px Go.RowKit
variable {W:ο}
theorem glOf(u:laidMetH Tryz.prog YtlobmefcflhmaaaGreatDoor.Rows.bodiesJoinsRow.laid W)(l:W.ShapedOpen Tryz.prog)(r:9<=W.heap.size):Gl W:=by
 obtain⟨v,h⟩:=ys u aK;have v0:Vr W 0 (Η eS bh):=by obtain⟨g,t,cs,c,p,b,j,i,d⟩:=Nj h 5 rfl;obtain rfl := aP ((show Tryz.prog.globalNamed "dialtone/header.specials" = θ 0 by kernel_rfl).symm.trans b);obtain rfl:=aP ((show(Tryz.prog.globals[0]?).map (·.type)=θ 102 by kernel_rfl).symm.trans j);have e:=Qn (dz:=λs=>.lit (.string s)) (f:=eS) bh Tryz.underlying102 (show Tryz.prog.cellsOf 9=1 by kernel_rfl) aK rfl (λ_ _ z _ h=>Yn Tryz.underlying9 z h) d;have:=dh b i;rw[e]at this;exact this
 have o:Vr W 3 (Η Fc vI):=by obtain⟨g,t,cs,c,p,b,j,i,d⟩:=Nj h 6 rfl;obtain rfl := aP ((show Tryz.prog.globalNamed "dialtone/header.kinds" = θ 3 by kernel_rfl).symm.trans b);obtain rfl:=aP ((show(Tryz.prog.globals[3]?).map (·.type)=θ 181 by kernel_rfl).symm.trans j);have e:=Qn (dz:=λz=>.agg [.lit (.string z.1),.lit (.int .i64 z.2)]) (f:=Fc) vI Tryz.underlying181 (show Tryz.prog.cellsOf 180=2 by kernel_rfl) aK rfl (λ_ _ z _ h=>L6 Tryz.underlying180 Tryz.underlying9 Tryz.underlying142 rfl aK aK aK z h) d;have:=dh b i;rw[e]at this;exact this
 have n:Vr W 8 (Η eS be):=by obtain⟨g,t,cs,c,p,b,j,i,d⟩:=Nj h 4 rfl;obtain rfl := aP ((show Tryz.prog.globalNamed "dialtone/address.classes" = θ 8 by kernel_rfl).symm.trans b);obtain rfl:=aP ((show(Tryz.prog.globals[8]?).map (·.type)=θ 259 by kernel_rfl).symm.trans j);have e:=Qn (dz:=λs=>.lit (.string s)) (f:=eS) be Tryz.underlying259 (show Tryz.prog.cellsOf 9=1 by kernel_rfl) aK rfl (λ_ _ z _ h=>Yn Tryz.underlying9 z h) d;have:=dh b i;rw[e]at this;exact this
 have q:Vr W 2 (Lib.pow10Tab.map λz=>Δ .u64 z):=by obtain⟨g,t,cs,c,p,b,j,i,d⟩:=Nj h 2 rfl;obtain rfl := aP ((show Tryz.prog.globalNamed "internal/strconv.uint64pow10" = θ 2 by kernel_rfl).symm.trans b);obtain rfl:=aP ((show(Tryz.prog.globals[2]?).map (·.type)=θ 172 by kernel_rfl).symm.trans j);have e:=Lib.cells_of_tab (zs:=Lib.pow10Tab) (k:=.u64) Tryz.underlying172 Tryz.underlying132 aK aK d;have:=dh b i;rw[e]at this;exact this
 have v1:∃m,Vr W 1 [.int .i64 m]:=yz (zero:= #[.int .i64 0]) (t:=3) l (bY aK) aK rfl aK aK Tryz.underlying3;exact {gs:=r,specials:=v0,kinds:=o,classes:=n,pow10:=q,maxlen:=v1}
def VR(g:Nat)(o:Obj):Obj:=
 match o with
 |.cells c t a=>.cells (match g with
  |6=>(([0,1,28,2,29,14,24,3,30,22,20,15,25,17,4,8,31,27,13,23,21,19,16,7,26,12,18,6,11,5,10,9]:δ Int).map (Δ .u8)).toArray
  |7=>(([0,1,56,2,57,49,28,3,61,58,42,50,38,29,17,4,62,47,59,36,45,43,51,22,53,39,33,30,24,18,12,5,63,55,48,27,60,41,37,16,46,35,44,21,52,32,23,11,54,26,40,15,34,20,31,10,25,14,19,9,13,8,7,6]:δ Int).map (Δ .u8)).toArray
  |2=>(([1,10,100,1000,10000,100000,1000000,10000000,100000000,1000000000,10000000000,100000000000,1000000000000,10000000000000,100000000000000,1000000000000000,10000000000000000,100000000000000000,1000000000000000000,10000000000000000000]:δ Int).map (Δ .u64)).toArray
  |5=>(([128,191,160,191,128,159,144,191,128,143,0,0,0,0,0,0,0,0,0,0,0,0,0,0,0,0,0,0,0,0,0,0]:δ Int).map (Δ .u8)).toArray
  |8=> #[str [38,61,43,36,44,59,63,47],str [91,93,47,58,38,43,36],str [91,93,47,63,58,43,36]]
  |0=> #[str [67,97,108,108,45,73,68],str [67,83,101,113],str [77,73,77,69,45,86,101,114,115,105,111,110],str [77,105,110,45,83,69],str [82,65,99,107],str [82,83,101,113],str [87,87,87,45,65,117,116,104,101,110,116,105,99,97,116,101]]
  |3=> #[str [70,114,111,109],.int .i64 1,str [84,111],.int .i64 1,str [67,111,110,116,97,99,116],.int .i64 1,str [82,111,117,116,101],.int .i64 1,str [82,101,99,111,114,100,45,82,111,117,116,101],.int .i64 1,str [80,97,116,104],.int .i64 1,str [83,101,114,118,105,99,101,45,82,111,117,116,101],.int .i64 1,str [82,101,102,101,114,45,84,111],.int .i64 1,str [82,101,102,101,114,114,101,100,45,66,121],.int .i64 1,str [82,101,112,108,121,45,84,111],.int .i64 1,str [86,105,97],.int .i64 2,str [67,83,101,113],.int .i64 3,str [82,65,99,107],.int .i64 4,str [67,111,110,116,101,110,116,45,76,101,110,103,116,104],.int .i64 5,str [69,120,112,105,114,101,115],.int .i64 5,str [77,97,120,45,70,111,114,119,97,114,100,115],.int .i64 5,str [77,105,110,45,69,120,112,105,114,101,115],.int .i64 5,str [82,83,101,113],.int .i64 5,str [67,111,110,116,101,110,116,45,68,105,115,112,111,115,105,116,105,111,110],.int .i64 6,str [67,111,110,116,101,110,116,45,84,121,112,101],.int .i64 6,str [69,118,101,110,116],.int .i64 6,str [77,105,110,45,83,69],.int .i64 6,str [83,101,115,115,105,111,110,45,69,120,112,105,114,101,115],.int .i64 6,str [83,117,98,115,99,114,105,112,116,105,111,110,45,83,116,97,116,101],.int .i64 6,str [65,99,99,101,112,116],.int .i64 7,str [65,108,108,111,119],.int .i64 7,str [65,108,108,111,119,45,69,118,101,110,116,115],.int .i64 7,str [80,114,111,120,121,45,82,101,113,117,105,114,101],.int .i64 7,str [82,101,113,117,105,114,101],.int .i64 7,str [83,117,112,112,111,114,116,101,100],.int .i64 7,str [85,110,115,117,112,112,111,114,116,101,100],.int .i64 7]
  |4=>(Go.Pinned.utf8FirstZ.map λ(z:Nat)=>Δ .u8 (z:Int)).toArray
  |_=>c) t a
 |o=>o
noncomputable def Ea(a:Os):ο:={World.holding Tryz.prog a ⟨#[], #[],[]⟩with heap:=(World.holding Tryz.prog a ⟨#[], #[],[]⟩).heap.mapIdx VR}
theorem own:ownKnob Tryz.prog.godebug=ι:=by kernel_rfl
open YtlobmefcflhmaaaGreatDoor.Rows (uptoBulk uptoBulkAll)
theorem KH{a:ο}(h:Below W.heap.size W a){p:MemPlace}(c:p.block<W.heap.size):W.sameAt a p:=by
 cases p with
 |cell b off=>show a.cell? _=W.cell? _;unfold World.cell?;rw[h.block b c]
 |map b=>exact h.block b c
theorem HX{H:Type}{enc:ω×ξ->H}{P:Β}{W g:ο}{c:Nat->η}:∀{b:δ ω} {vs:δ ξ} {f:δ (DataW H)} {a:δ MemPlace},DataW.TrodAll enc P W 0 c μ b vs f a->(∀p∈a,W.sameAt g p)->DataW.TrodAll enc P g 0 c μ b vs f a
 |[],[],[],_,h,_=>h
 |_::_,_::_,_::_,_,⟨p,q,⟨n,j⟩,i,e⟩,d=>⟨p,q,⟨n,DataW.trod_carry n _ _ _ j λx hx=>d x (by rw[e];exact List.mem_append_left _ hx)⟩,HX i λx hx=>d x (by rw[e];exact List.mem_append_right _ hx),e⟩
theorem Xg{H:Type}{enc:ω×ξ->H}{P:Β}{W j:ο}{b:δ ω}{vs:δ ξ}{i:δ (DataW H)}{a:δ MemPlace}(n:laidOutB P=μ)(m:mapsRowed P=μ)
  (o:((List.range P.types.size).all λt=>match P.underlying t with|some (.slice e)=>decide (0<P.cellsOf e)|_=>μ)=μ) (c:(b.all λt=>decide (t<P.types.size))=μ)
  (h:DataW.TrodAll enc P W 0 (λ_=>μ) μ b vs i a) (q:Below W.heap.size W j) (f:∀p∈a,p.block<W.heap.size) (g:Nat->η) (d:∀p∈a,g p.block=μ):DataW.TrodAll enc P j 0 g μ b vs i a:=by
 refine HX (DataW.TrodAll.respare (kids_rows n m) (slices_full_of P o) (λt k=> ?_) h d) λp l=>KH q (f p l);have:=aT.1 c t k;simpa using this
def Dec(P:Β)(w:ο){H:Type}(enc:ω×ξ->H){c:Type}(t:ω)(f:c->δ ξ)(a:c->Prop)(sz:c->Nat):Prop:=
 ∀base d e b cs x,DataW.trod enc P w base d e b t cs=θ x->∃z,cs=f z/\a z/\sz z<=uptoBulk x.1
section
variable {P:Β}{w:ο}{H:Type}{enc:ω×ξ->H}{t:ω}
theorem xT(b:P.underlying t=θ .string):Dec P w enc t eS (λs=>γ s<=9223372036854775807) (λs=>γ s):=by intro base d e a cs x h;obtain⟨s,rfl,hx,c⟩:=DataW.trod_string b h;refine⟨s.data.toList,rfl,lenOf c, ?_⟩;rw[hx];simp[uptoBulk]
variable {b:Type}
theorem MM{n:Nat}{D:Nat->DataW H}{sz:b->Nat}:∀(zs:δ b),γ zs=n->(∀i (h:i<γ zs),sz zs[i]<=uptoBulk (D i))->(zs.map sz).sum<=uptoBulkAll ((List.range n).map D):=by
 intro zs;induction zs generalizing n D with
 |nil=>intro a _;subst a;simp
 |cons z zs d=>intro a h;subst a;have c:=h 0 aA3;have:=d (n:=γ zs) (D:=λi=>D (i+1)) rfl (λi e=>by have:=h (i+1) aA2;simpa using this);rw[dI,List.range_succ_eq_map,gP,gP,yX,uptoBulkAll,lK];simp only[List.getElem_cons_zero]at c;exact Nat.add_le_add c this
variable {a n:Nat}{cs:δ ξ}
theorem XC{f:Γ}(h:w.cells? a f n=θ cs):γ cs=n/\∀j v,cs[j]? =θ v->w.cell? (f.add j)=θ v:=by obtain⟨e,d,c⟩:=World.cells?_some h;exact⟨d,λj v b=>(c j (by have:=(aF.1 b).1;omega)).trans b⟩
variable {e:ω}{J:Nat->η}{S:η}{x:DataW H×δ MemPlace}
theorem Fg{f:b->δ ξ}{c:b->Prop}{sz:b->Nat}(L:P.underlying t=θ (.slice e))(R:Dec P w enc e f c sz)
  (h:DataW.trod enc P w a J S n t cs=θ x):∃g Z cap,∃zs:δ b,cs=[.slice g Z cap]/\Z=γ zs/\Z<=cap/\Rd w g (zs.flatMap f)/\(∀z∈zs,c z)/\(zs.map sz).sum<=uptoBulk x.1:=by
 rcases Deep.open_slice L h with⟨rfl,rfl⟩|⟨g,len,cap,m,Z,D,Y,rfl,X,O,V,B,rfl,hx⟩
 ·exact⟨ι,0,0,[],rfl,rfl,qG _,λj v q=>by simp at q,λz u=>by simp at u,Nat.zero_le _⟩
 ·have N:len<=m:=by rw[B];split<;>omega
  have key:∀k,k<=len->∃zs:δ b,γ zs=k/\(∀z∈zs,c z)/\(∀i (r:i<γ zs),sz zs[i]<=uptoBulk (D i))/\γ (zs.flatMap f)=k*P.cellsOf e/\∀j v,(zs.flatMap f)[j]? =θ v->w.cell? (g.add j)=θ v:=by
   intro k;induction k with
   |zero=>intro _;exact⟨[],rfl,λz u=>by simp at u,λi r=>by simp at r,aA3,λj v q=>by simp at q⟩
   |succ k K=>
    intro W;obtain⟨zs,d,I,G,s,F⟩:=K aA0;obtain⟨U,T,A⟩:=hx k aA0;obtain⟨z,rfl,Q,M⟩:=R _ _ _ _ _ _ A;obtain⟨C,E⟩:=XC T;refine⟨zs++[z],by simp[d],λy l=> ?_,λi r=> ?_, ?_,λj v q=> ?_⟩
    ·rcases aV.1 l with l|l
     ·exact I y l
     ·rw[aG.1 l];exact Q
    ·by_cases p:i<γ zs
     ·rw[List.getElem_append_left p];exact G i p
     ·have:i=k:=by simp at r;omega
      subst this;simp only[d.symm,List.getElem_concat_length];rw[d];exact M
    ·simp[s,C,dA]
    ·rw[List.flatMap_append,iX]at q;by_cases o:j<γ (zs.flatMap f)
     ·rw[aJ o]at q;exact F j v q
     ·rw[aO aA0,s]at q;have:=E _ _ q;rw[s]at o;have e:(g.add (k*P.cellsOf e)).add (j-k*P.cellsOf e)=g.add j:=by rw[Go.Wk.add_add];congr 1;omega
      rw[e]at this;exact this
  obtain⟨zs,d,I,G,s,F⟩:=key len (qG _);refine⟨θ g,len,cap,zs,rfl,d.symm,O,λj v q=>⟨g,rfl,F j v q⟩,I, ?_⟩;have:=MM (sz:=sz) zs d G;simp only[uptoBulk];omega
theorem lv(b:P.underlying t=θ (.int .u8)):Dec P w enc t eB (λ_=>True) (λ_=>1):=by
 intro base d e a cs x h;obtain⟨n,rfl,hx,c⟩:=DataW.trod_int b h;have f:0<=n/\n<=255:=by simpa [Lit.wf,show IntKind.u8.min=0 by decide,show IntKind.u8.max=255 by decide] using c
 refine⟨UInt8.ofNat n.toNat, ?_,trivial, ?_⟩
 ·have:((UInt8.ofNat n.toNat).toNat)=n:=by rw[iT];omega
  simp only[eB,bt,this]
 ·rw[hx];simp[uptoBulk]
theorem OJ{b:Type}:∀l:δ b,(l.map λ_=>1).sum=γ l
 |[]=>rfl
 |a::l=>by rw[gP,yX,OJ l,dI];omega
theorem XA(f:P.underlying t=θ (.slice e))(g:P.underlying e=θ (.int .u8))
  (h:DataW.trod enc P w a J S n t cs=θ x):∃b i cap,∃zs:δ ζ,cs=[.slice b i cap]/\i=γ zs/\i<=cap/\Rd w b (zs.flatMap eB)/\(∀z∈zs,True)/\γ zs<=uptoBulk x.1:=by
 obtain⟨b,i,cap,zs,o,m,l,k,j,c⟩:=Fg f (lv g) h;rw[OJ]at c;exact⟨b,i,cap,zs,o,m,l,k,j,c⟩
def ry:TypeDesc->η
 |.struct _=>ν
 |.array _ _=>ν
 |_=>μ
theorem Vn{v x:ξ}{ty:TypeDesc}(b:P.underlying t=θ ty)(d:Value.okWide P w .any a t v)(c:ry ty=μ)(e:v.cells.toList=[x]):v=x:=by
 cases v with
 |agg cs=>unfold Value.okWide Cell.okWide Cell.ok at d;rw[b]at d;cases ty<;>first|(simp[ry]at c;done)|simp at d
 |_=>simpa [Value.cells] using e
end
open Go.Wk Go.Px Go.RowKit
open YtlobmefcflhmaaaGreatDoor.Rows (uptoBulk uptoBulkAll)
theorem HQ{P:Β}{w:ο}{H:Type}{enc:ω×ξ->H}{t e:ω}(g:P.underlying t=θ (.slice e)){base:Nat}{f:Nat->η}{i:η}{c:Nat}{a:ε Γ}{n cap:Nat}{x:DataW H×δ MemPlace}
  (h:DataW.trod enc P w base f i c t [.slice a n cap]=θ x):a=ι->cap=0:=by
 intro j;rcases Deep.open_slice g h with⟨b,_⟩|⟨a',len,d,m,n',D,k,b,_⟩
 ·simp at b;exact b.2.2
 ·simp at b;rw[j]at b;cases b.1
def gOf(zs:δ (oG×(PA×PA))):Nat->PA×PA:=λi=>(zs[i]?.map (·.2)).getD ((ι,ι,0),(ι,ι,0))
theorem gz_of(zs:δ (oG×(PA×PA))):gz (gOf zs) (zs.map (·.1))=zs:=by
 apply cD;intro j;rw[Hf,aY];cases h:zs[j]? with
 |none=>rfl
 |some z=>simp[gOf,h]
end Go.Proofs
set_option maxRecDepth 20000
namespace Go.Proofs
open Go.Wk Go.Px Go.RowKit
open YtlobmefcflhmaaaGreatDoor.Rows (uptoBulk uptoBulkAll)
variable {W:ο}{H:Type}{a:ω×ξ->H}
theorem dec_gh:Dec Tryz.prog W a 49 qU (λz=>γ z.1<=9223372036854775807/\γ z.2<=9223372036854775807) (λz=>γ z.1+γ z.2):=by
 intro base t w f cs x h;obtain⟨l,n,_,rfl,d,y,e⟩:=DataW.trod_struct Tryz.underlying49 h;rw[show Tryz.prog.cellsOf 49=2 by kernel_rfl]at d
 match cs,d with
 |[q,p],_=>
 match l,y with
 |[s,r],_=>
 obtain⟨k,i,o,v⟩:=xT Tryz.underlying9 _ _ _ _ _ _ (e 0 _ rfl);obtain⟨j,g,m,u⟩:=xT Tryz.underlying9 _ _ _ _ _ _ (e 1 _ rfl);have c:[q]=_:=i;have b:[p]=_:=g;clear i g;refine⟨(k,j), ?_,⟨o,m⟩, ?_⟩
 ·simp only[eS,oH,and_true]at c b;subst c b;rfl
 ·simp only[gP,gH,uptoBulk,uptoBulkAll]at*;omega
def S7(W:ο)(z:oG×(PA×PA)):Prop:=
 (Rd W z.2.1.2.1 (z.1.1.flatMap qU)/\γ z.1.1<=z.2.1.2.2/\(z.2.1.2.1=ι->z.2.1.2.2=0))/\(Rd W z.2.2.2.1 (z.1.2.flatMap eB)/\γ z.1.2<=z.2.2.2.2/\(z.2.2.2.1=ι->z.2.2.2.2=0))
theorem lx:Dec Tryz.prog W a 42 eY (S7 W) (λz=>(z.1.1.map λh=>γ h.1+γ h.2).sum+γ z.1.2):=by
 intro base F J p cs x h;obtain⟨u,n,_,rfl,m,O,o⟩:=DataW.trod_struct Tryz.underlying42 h;rw[show Tryz.prog.cellsOf 42=2 by kernel_rfl]at m
 match cs,m with
 |[A,y],_=>
 match u,O with
 |[E,D],_=>
 have t0:=o 0 _ rfl;have t1:=o 1 _ rfl;obtain⟨C,I,c,t,r,e,g,j,L,N⟩:=Fg Tryz.underlying40 dec_gh t0;obtain⟨B,G,b,s,q,d,f,i,K,M⟩:=XA Tryz.underlying22 Tryz.underlying5 t1;have w:=HQ Tryz.underlying40 (r▸t0);have v:=HQ Tryz.underlying22 (q▸t1);have l:[A]=_:=r;have k:[y]=_:=q;subst e d;refine⟨((t,s),((ι,C,c),(ι,B,b))), ?_,⟨⟨j,g,w⟩,⟨i,f,v⟩⟩, ?_⟩
 ·simp only[oH,and_true]at l k;subst l k;rfl
 ·simp only[gP,gH,uptoBulk,uptoBulkAll]at*;omega
theorem zb(zs:δ (oG×(PA×PA)))(c:∀z∈zs,S7 W z)(i:Int)(b:0<=i/\i<(γ (zs.map (·.1)))):S7 W (el (zs.map (·.1)) i,gOf zs (Ι i)):=by
 rw[List.length_map]at b;have a:i.toNat<γ zs:=aA0;have e:el (zs.map (·.1)) i=zs[i.toNat].1:=by simp[el,a]
 have d:gOf zs i.toNat=zs[i.toNat].2:=by simp[gOf,a]
 rw[e,d];exact c _ (lL a)
theorem AI:∀(l:δ Nat) n,n∈l->n<=l.sum
 |a::l,n,h=>by
  rw[yX];rcases aQ.1 h with rfl|h
  ·omega
  ·have:=AI l n h;omega
theorem M8(zs:δ (oG×(PA×PA)))(c:(zs.map λz=>(z.1.1.map λh=>γ h.1+γ h.2).sum+γ z.1.2).sum<=1048576):∀x∈zs.map (·.1),∀h∈x.1,γ h.1<=4194304:=by intro x hx h b;obtain⟨z,a,rfl⟩:=dB.1 hx;have e:=AI _ _ (dB.2 ⟨z,a,rfl⟩:_∈zs.map λz=>(z.1.1.map λh=>γ h.1+γ h.2).sum+γ z.1.2);have d:=AI _ _ (dB.2 ⟨h,b,rfl⟩:_∈z.1.1.map λh=>γ h.1+γ h.2);omega
open Go.Shelf
open Go.Lib renaming cut → eF, hasPrefix → oI, index → cE, indexAny → Cr, itoa → gM, join → cY, trimPrefix → iD
open _root_.Array renaming replicate → IY
def Tryz.Gz:Κ:=⟨λ|169=>91|n=>n,λ|70=>110|9=>9|0=>0|72=>112|37=>22|127=>138|3=>3|5=>5|n=>n,λ|n=>n⟩
theorem Tryz.iy:Go.Proofs.Lays.n169 Tryz.prog Tryz.Gz:=CN
theorem Tryz.Cm:Builder.Extra Tryz.prog Tryz.Gz:=CN
def Tryz.Ha:Κ:=⟨λ|156=>62|165=>89|166=>90|169=>91|240=>117|241=>118|276=>153|277=>154|n=>n,λ|31=>89|9=>9|3=>3|4=>4|0=>0|20=>20|72=>112|76=>116|70=>110|37=>22|75=>115|127=>138|164=>176|5=>5|80=>118|n=>n,λ|n=>n⟩
theorem Tryz.QK:Go.Proofs.Lays.n156 Tryz.prog Tryz.Ha:=CN
theorem Tryz.mB:Builder.Extra Tryz.prog Tryz.Ha:=CN
open Go.RowKit in
theorem Tryz.strings_Join_none (a : ε Γ) (c : Nat) (sep : ByteArray) (w : ο) :
    Calls Tryz.prog 62 #[.slice a 0 c, .string sep] w λe w' => e = .returned (.string ⟨#[]⟩) /\ w' = w := Any.strings_Join_none Tryz.QK Tryz.mB a c sep w
open Go.RowKit in
theorem Tryz.strings_Join (g o c : Nat) (b : δ ByteArray) (sep : ByteArray) (w : ο) (a : ∀ (j : Nat) x, b[j]? = θ x -> w.cell? ⟨g, o + j, ι⟩ = θ (.string x)) (h : g < w.heap.size) (i : γ b <= 140737488355328) (f : γ b <= c) (d : γ (cY (b.map (·.data.toList)) sep.data.toList) <= 140737488355328) :
    Calls Tryz.prog 62 #[.slice (θ ⟨g, o, ι⟩) (γ b) c, .string sep] w λe w' => e = .returned (.string ⟨(cY (b.map (·.data.toList)) sep.data.toList).toArray⟩) /\ Below w.heap.size w w' := Any.strings_Join Tryz.QK Tryz.mB g o c b sep w a h i f d
def Tryz.FF:Κ:=⟨λ|161=>272|231=>92|227=>94|233=>95|235=>97|228=>119|197=>120|151=>121|260=>155|152=>156|137=>171|119=>190|224=>78|225=>85|217=>84|266=>115|n=>n,λ|9=>9|4=>4|3=>3|5=>5|117=>122|116=>121|0=>0|124=>125|105=>139|21=>21|119=>198|46=>106|139=>201|138=>200|n=>n,λ|3=>4|4=>5|n=>n⟩
theorem Tryz.ja:Go.Proofs.Lays.n161 Tryz.prog Tryz.FF:=CN
def Tryz.FE:Κ:=⟨λ|162=>64|232=>93|227=>94|234=>96|236=>98|228=>119|271=>122|151=>121|120=>157|197=>120|152=>156|260=>155|137=>171|119=>190|224=>78|225=>85|217=>84|266=>115|n=>n,λ|9=>9|4=>4|3=>3|5=>5|117=>122|116=>121|0=>0|124=>125|21=>21|105=>139|46=>106|119=>198|139=>201|138=>200|n=>n,λ|3=>4|4=>5|n=>n⟩
theorem Tryz.iz:Go.Proofs.Lays.n162 Tryz.prog Tryz.FE:=CN
def Tryz.FG:Κ:=⟨λ|160=>63|232=>93|231=>92|227=>94|234=>96|233=>95|236=>98|235=>97|228=>119|271=>122|151=>121|197=>120|120=>157|152=>156|260=>155|137=>171|119=>190|224=>78|225=>85|217=>84|266=>115|n=>n,λ|9=>9|4=>4|3=>3|5=>5|117=>122|116=>121|0=>0|124=>125|21=>21|105=>139|46=>106|119=>198|139=>201|138=>200|n=>n,λ|3=>4|4=>5|n=>n⟩
theorem Tryz.jb:Go.Proofs.Lays.n160 Tryz.prog Tryz.FG:=CN
def Tryz.FN:Κ:=⟨λ|137=>171|217=>84|266=>115|n=>n,λ|9=>9|5=>5|3=>3|n=>n,λ|n=>n⟩
theorem Tryz.ji:Go.Proofs.Lays.n137 Tryz.prog Tryz.FN:=CN
open Go.RowKit in
theorem Tryz.strings_IndexByte (s : ByteArray) (c : Int) (w : ο) :
    Calls Tryz.prog 171 #[.string s, .int .u8 c] w λe w' => e = .returned (.int .i64 (Lib.indexByte s.data.toList c.toNat.toUInt8)) /\ w' = w := Any.strings_IndexByte Tryz.ji s c w
def Tryz.FO:Κ:=⟨λ|103=>33|210=>55|206=>58|n=>n,λ|9=>9|4=>4|24=>59|3=>3|n=>n,λ|n=>n⟩
theorem Tryz.jk:Go.Proofs.Lays.n103 Tryz.prog Tryz.FO:=CN
open Go.RowKit in
theorem Tryz.strings_CutPrefix (s p : ByteArray) (w : ο) :
    Calls Tryz.prog 33 #[.string s, .string p] w λe w' => e = .returned (.tuple #[.string ⟨(iD s.data.toList p.data.toList).toArray⟩, .bool (oI s.data.toList p.data.toList)]) /\ w' = w := Any.strings_CutPrefix Tryz.jk s p w
def Tryz.AJ:Κ:=⟨λ|171=>27|243=>51|246=>82|283=>111|284=>112|285=>113|286=>114|129=>149|317=>148|318=>150|319=>151|320=>152|337=>188|338=>189|n=>n,λ|3=>3|9=>9|2=>2|4=>4|171=>131|0=>0|53=>132|37=>22|5=>5|173=>135|212=>172|51=>128|20=>20|213=>173|46=>106|232=>235|233=>236|n=>n,λ|17=>2|18=>6|19=>7|n=>n⟩
theorem Tryz.O1:Go.Proofs.LaysM.n171 Tryz.prog Tryz.AJ:=CN
open Go.RowKit Go.Sort Go.Lib in
theorem Tryz.strconv_Itoa (n : Int) (d : -9223372036854775808 <= n) (c : n <= 9223372036854775807) (w : ο) (a : Lib.TabIs Tryz.prog w "internal/strconv.uint64pow10" .u64 Lib.pow10Tab) :
    Calls Tryz.prog 27 #[.int .i64 n] w λe w' => e = .returned (.string ⟨(gM n).toArray⟩) /\ ∃ k b, w' = grow (w.drewN k) b := Any.strconv_Itoa Tryz.O1 n d c w a
def Tryz.FM:Κ:=⟨λ|143=>31|219=>53|217=>84|225=>85|224=>78|267=>86|266=>115|314=>116|n=>n,λ|9=>9|3=>3|4=>4|5=>5|46=>106|146=>129|51=>128|n=>n,λ|1=>1|n=>n⟩
theorem Tryz.jh:Go.Proofs.Lays.n143 Tryz.prog Tryz.FM:=CN
open Go.RowKit Go.Lib in
theorem Tryz.strings_Index (s sub : ByteArray) (m : Int) (w : ο) (a : s.size < 4294967281) (b : w.cell? ⟨1, 0, ι⟩ = θ (.int .i64 m)) :
    Calls Tryz.prog 31 #[.string s, .string sub] w λe w' => e = .returned (.int .i64 (cE s.data.toList sub.data.toList)) /\ w' = w := Any.strings_Index Tryz.jh s sub m w a b
def Tryz.FL:Κ:=⟨λ|144=>194|143=>31|219=>53|217=>84|225=>85|224=>78|267=>86|266=>115|314=>116|n=>n,λ|9=>9|4=>4|3=>3|5=>5|46=>106|146=>129|51=>128|n=>n,λ|1=>1|n=>n⟩
theorem Tryz.jg:Go.Proofs.Lays.n144 Tryz.prog Tryz.FL:=CN
open Go.RowKit Go.Lib in
theorem Tryz.strings_Contains (s sub : ByteArray) (m : Int) (w : ο) (a : s.size < 4294967281) (b : w.cell? ⟨1, 0, ι⟩ = θ (.int .i64 m)) :
    Calls Tryz.prog 194 #[.string s, .string sub] w λe w' => e = .returned (.bool (Lib.contains s.data.toList sub.data.toList)) /\ w' = w := Any.strings_Contains Tryz.jg s sub m w a b
def Tryz.FK:Κ:=⟨λ|145=>36|220=>59|219=>53|217=>84|225=>85|224=>78|267=>86|266=>115|314=>116|n=>n,λ|9=>9|4=>4|59=>62|3=>3|5=>5|46=>106|146=>129|51=>128|n=>n,λ|1=>1|n=>n⟩
theorem Tryz.jf:Go.Proofs.Lays.n145 Tryz.prog Tryz.FK:=CN
open Go.RowKit Go.Lib in
theorem Tryz.strings_Cut (s sep : ByteArray) (m : Int) (w : ο) (a : s.size < 4294967281) (b : w.cell? ⟨1, 0, ι⟩ = θ (.int .i64 m)) :
    Calls Tryz.prog 36 #[.string s, .string sep] w λe w' => e = .returned (.tuple #[.string ⟨(eF s.data.toList sep.data.toList).1.toArray⟩, .string ⟨(eF s.data.toList sep.data.toList).2.1.toArray⟩, .bool (eF s.data.toList sep.data.toList).2.2]) /\ ∃ n, w' = w.drewN n := Any.strings_Cut Tryz.jf s sep m w a b
def Tryz.FI:Κ:=⟨λ|149=>207|222=>248|n=>n,λ|9=>9|5=>5|3=>3|4=>4|n=>n,λ|n=>n⟩
theorem Tryz.jc:Go.Proofs.Lays.n149 Tryz.prog Tryz.FI:=CN
open Go.RowKit Go.Lib in
theorem Tryz.strings_LastIndexByte (s : ByteArray) (c : Int) (a : s.size < 4611686018427387904) (w : ο) :
    Calls Tryz.prog 207 #[.string s, .int .u8 c] w λe w' => e = .returned (.int .i64 (Lib.lastIndexByte s c)) /\ w' = w := Any.strings_LastIndexByte Tryz.jc s c a w
def Tryz.FP:Κ:=⟨λ|101=>286|208=>298|206=>58|n=>n,λ|9=>9|4=>4|3=>3|n=>n,λ|n=>n⟩
theorem Tryz.jl:Go.Proofs.Lays.n101 Tryz.prog Tryz.FP:=CN
open Go.RowKit Go.Lib in
theorem Tryz.strings_TrimPrefix (s p : ByteArray) (w : ο) :
    Calls Tryz.prog 286 #[.string s, .string p] w λe w' => e = .returned (.string ⟨(iD s.data.toList p.data.toList).toArray⟩) /\ w' = w := Any.strings_TrimPrefix Tryz.jl s p w
def Tryz.FJ:Κ:=⟨λ|146=>250|221=>273|268=>288|138=>289|143=>31|195=>300|197=>120|218=>301|219=>53|260=>155|217=>84|225=>85|224=>78|267=>86|266=>115|314=>116|n=>n,λ|9=>9|31=>89|3=>3|4=>4|0=>0|105=>139|21=>21|5=>5|46=>106|119=>198|139=>201|138=>200|146=>129|51=>128|n=>n,λ|1=>1|3=>4|4=>5|n=>n⟩
theorem Tryz.jd:Go.Proofs.Lays.n146 Tryz.prog Tryz.FJ:=CN
open Go.RowKit Go.Lib in
theorem Tryz.strings_Split (s sep : ByteArray) (m : Int) (w : ο) (a : s.size < 4294967281) (b : w.cell? ⟨1, 0, ι⟩ = θ (.int .i64 m)) (c : 1 <= sep.size) :
    Calls Tryz.prog 250 #[.string s, .string sep] w λe w' =>
      e = .returned (.slice (θ ⟨w.heap.size, 0, ι⟩) (Lib.countB s sep + 1) (Lib.countB s sep + 1)) /\ w' = w.alloc (.cells ((Lib.splitB sep 0 (Lib.countB s sep) s).map Value.string).toArray 9) := Any.strings_Split Tryz.jd aK s sep m w a b c
def Tryz.FH:Κ:=⟨λ|153=>162|152=>156|226=>206|227=>94|228=>119|137=>171|119=>190|224=>78|225=>85|217=>84|266=>115|n=>n,λ|9=>9|3=>3|4=>4|5=>5|21=>21|117=>122|116=>121|0=>0|46=>106|124=>125|n=>n,λ|n=>n⟩
theorem Tryz.Jt:Go.Proofs.Lays.n153 Tryz.prog Tryz.FH:=CN
open Go.RowKit Go.Lib in
theorem Tryz.strings_IndexAny_none (s a : ByteArray) (w : ο) (b : a.size = 0) :
    Calls Tryz.prog 162 #[.string s, .string a] w λe w' => e = .returned (.int .i64 (Cr s.data.toList a.data.toList)) /\ w' = w := Any.strings_IndexAny_none Tryz.Jt s a w b
open Go.RowKit Go.Lib in
theorem Tryz.strings_IndexAny_one (s a : ByteArray) (w : ο) (d : a.size = 1) (c : ∀ (j : Nat) b, a.data.toList[j]? = θ b -> b.toNat < 128) :
    Calls Tryz.prog 162 #[.string s, .string a] w λe w' => e = .returned (.int .i64 (Cr s.data.toList a.data.toList)) /\ w' = w := Any.strings_IndexAny_one Tryz.Jt s a w d c
open Go.RowKit Go.Lib in
theorem Tryz.strings_IndexAny_long (d : ∀ w, (zeroValue 121).run Tryz.prog w = .ok (.agg (IY 256 (.bool ν))) w) (s a : ByteArray) (w : ο) (i : 2 <= a.size) (h : 8 < s.size) (g : s.size < 4294967281) (f : a.size < 4294967281) (c : ∀ (j : Nat) b, a.data.toList[j]? = θ b -> b.toNat < 128) :
    Calls Tryz.prog 162 #[.string s, .string a] w λe w' => e = .returned (.int .i64 (Cr s.data.toList a.data.toList)) /\ w' = ((w.alloc (.cells (Lib.setCells a.data.toList) 121)).alloc (.cells (Lib.setCells a.data.toList) 121)) := Any.strings_IndexAny_long Tryz.Jt d aK s a w i h g f c
open Go.RowKit Go.Lib in
theorem Tryz.strings_IndexAny_laid (s a : ByteArray) (w : ο) (g : s.size < 4294967281) (c : a.size < 4294967281) (d : ∀ (j : Nat) b, s.data.toList[j]? = θ b -> b.toNat < 128) (f : ∀ (j : Nat) b, a.data.toList[j]? = θ b -> b.toNat < 128) :
    Calls Tryz.prog 162 #[.string s, .string a] w λe w' => e = .returned (.int .i64 (Cr s.data.toList a.data.toList)) /\ Below w.heap.size w w' := Any.strings_IndexAny_laid Tryz.Jt aK s a w g c d f
def Tryz.FD:Κ:=⟨λ|185=>48|187=>76|115=>47|253=>77|224=>78|254=>79|255=>104|291=>105|n=>n,λ|37=>22|3=>3|4=>4|0=>0|5=>5|46=>106|9=>9|146=>129|51=>128|n=>n,λ|1=>1|n=>n⟩
theorem Tryz.QJ:Go.Proofs.Lays.n185 Tryz.prog Tryz.FD:=CN
open Go.Proofs Go.RowKit Go.Lib in
theorem Tryz.bytes_Index_at (o l : Γ) (n j k p : Nat) (b a : δ Int) (m : Int) (w : ο) (hx : γ b = n) (r : γ a = k) (f : ∀ x ∈ b, 0 <= x /\ x < 256) (d : ∀ y ∈ a, 0 <= y /\ y < 256) (h : ∀ i, i < n -> w.cell? (o.add i) = θ (.int .u8 (b.getD i 0))) (g : ∀ i, i < k -> w.cell? (l.add i) = θ (.int .u8 (a.getD i 0))) (c : n <= j) (s : n < 4294967281) (u : k <= 9223372036854775807) (t : w.cell? ⟨1, 0, ι⟩ = θ (.int .i64 m)) :
    Calls Tryz.prog 48 #[.slice (θ o) n j, .slice (θ l) k p] w λe w' => e = .returned (.int .i64 (cE (Lib.bytesOf b) (Lib.bytesOf a))) /\ ∃ q, w' = w.drewN q := Any.bytes_Index_at Tryz.QJ o l n j k p b a m w hx r f d h g c s u t
open Go.Proofs Go.RowKit Go.Lib in
theorem Tryz.bytes_Index_nil (a : ε Γ) (k c : Nat) (w : ο) (f : k <= 9223372036854775807) (g : k = 1 -> ∃ d b cv, a = θ ⟨d, b, ι⟩ /\ w.cell? ⟨d, b, ι⟩ = θ (.int .u8 cv)) :
    Calls Tryz.prog 48 #[.slice ι 0 0, .slice a k c] w λe w' => e = .returned (.int .i64 (if k = 0 then 0 else -1)) /\ w' = w := Any.bytes_Index_nil Tryz.QJ a k c w f g
open Go.Wk Go.Px
open Go.Value renaming slice → Vs, int → Vi, bool → Vb, pointer → Vp
open Go.Lib renaming cut → eF, hasPrefix → oI, index → cE, indexAny → Cr, itoa → gM, join → cY, trimLeftS → Ge, trimPrefix → iD
open List renaming flatMap → gY
theorem oT(s:δ ζ)(c:ζ)(w:ο):CR Tryz.prog 171 [str s,bt c] w λv w'=>v=.int .i64 (dN (·==c) s)/\Hp w [] [] w':=by have h:=Tryz.strings_IndexByte ⟨s.toArray⟩ c.toNat w;rw[show((c.toNat:Int).toNat.toUInt8)=c by simp]at h;rw[<-vY];exact av h
theorem Dg(s:δ ζ)(c:ζ)(w:ο)(a:γ s<=1000000000):CR Tryz.prog 207 [str s,bt c] w λv w'=>v=.int .i64 (kS (·==c) s)/\Hp w [] [] w':=by have h:=Tryz.strings_LastIndexByte ⟨s.toArray⟩ (c.toNat:Int) aC7 w;rw[xJ]at h;exact av h
theorem DC(s t:δ ζ)(w:ο)(c:γ s<=1000000000)(b:Gl w):CR Tryz.prog 194 [str s,str t] w λv w'=>v=.bool (Lib.contains s t)/\Hp w [] [] w':=by obtain⟨m,a⟩:=b.cell;exact av (Tryz.strings_Contains _ _ m w aC7 a)
theorem Lp(s t:δ ζ)(w:ο)(c:γ s<=1000000000)(b:Gl w):CR Tryz.prog 31 [str s,str t] w λv w'=>v=.int .i64 (cE s t)/\Hp w [] [] w':=by obtain⟨m,a⟩:=b.cell;exact av (Tryz.strings_Index _ _ m w aC7 a)
theorem E1(s t:δ ζ)(w:ο)(c:γ s<=1000000000)(b:Gl w):CR Tryz.prog 36 [str s,str t] w λv w'=>v=.tuple #[str (eF s t).1,str (eF s t).2.1,.bool (eF s t).2.2]/\Hp w [] [] w':=by obtain⟨m,a⟩:=b.cell;exact RQ (Tryz.strings_Cut _ _ m w aC7 a)
theorem zM(s t:δ ζ)(w:ο):CR Tryz.prog 33 [str s,str t] w λv w'=>v=.tuple #[str (iD s t),.bool (oI s t)]/\Hp w [] [] w':=by exact av (Tryz.strings_CutPrefix _ _ w)
theorem Sj(s t:δ ζ)(w:ο):CR Tryz.prog 286 [str s,str t] w λv w'=>v=str (iD s t)/\Hp w [] [] w':=by exact av (Tryz.strings_TrimPrefix _ _ w)
theorem OP(s t:δ ζ)(w:ο)(c:γ s<=1000000000)(a:γ t<=1000/\t.all (λb=>decide (b.toNat<128))=μ):CR Tryz.prog 63 [str s,str t] w λv w'=>v=str (Lib.trimS s t)/\Hp w [] [] w':=by exact tA (Any.strings_Trim_laid Tryz.jb aK _ _ w (by show γ s<=_;omega) aD6 (ascii_of_all a.2))
theorem DB(s t:δ ζ)(w:ο)(c:γ s<=1000000000)(a:γ t<=1000/\t.all (λb=>decide (b.toNat<128))=μ):CR Tryz.prog 272 [str s,str t] w λv w'=>v=str (Ge s t)/\Hp w [] [] w':=by exact tA (Any.strings_TrimLeft_laid Tryz.ja aK _ _ w aD6 (ascii_of_all a.2))
theorem Yu(s t:δ ζ)(w:ο)(c:γ s<=1000000000)(a:γ t<=1000/\t.all (λb=>decide (b.toNat<128))=μ):CR Tryz.prog 64 [str s,str t] w λv w'=>v=str (Lib.trimRightS s t)/\Hp w [] [] w':=by exact tA (Any.strings_TrimRight_laid Tryz.iz aK _ _ w (by show γ s<=_;omega) aD6 (ascii_of_all a.2))
theorem OQ(i:Int)(w:ο)(a:bK i)(g:Gl w):CR Tryz.prog 27 [.int .i64 i] w λv w'=>v=str (gM i)/\Hp w [] [] w':=by
 obtain⟨t,f,e⟩:=g.pow10;have d : Lib.TabIs Tryz.prog w "internal/strconv.uint64pow10" .u64 Lib.pow10Tab := by unfold Lib.TabIs World.var?;rw[show Tryz.prog.globalNamed "internal/strconv.uint64pow10" = θ 2 by kernel_rfl];simp[e]
 have h:=Tryz.strconv_Itoa i a.1 a.2 w d;exact Calls.mono h λ_ _ ⟨e,k,b,c⟩=>⟨_,e,rfl,c▸kj k b⟩
theorem E0(s:δ ζ)(c:ζ)(w:ο)(i:γ s<=1000000000)(f:Gl w):CR Tryz.prog 250 [str s,str [c]] w λv w'=>∃o a cap,v=.slice a (γ (cH c s)) cap/\Hp w [] [bN eS 9 1 o a cap (cH c s)] w':=by
 obtain⟨m,d⟩:=f.cell;have h:=Tryz.strings_Split ⟨s.toArray⟩ ⟨#[c]⟩ m w aC7 d (by show 1<=1;omega);rw[TM,Sh]at h;refine Calls.mono h ?_;rintro _ _ ⟨rfl,rfl⟩;have g:=(Hp.refl w).alloc ((cH c s).map str) 9;have:=(my c s).1
 have e:(cH c s).flatMap eS=(cH c s).map str:=by
  generalize cH c s=l;induction l with
  |nil=>rfl
  |cons x l b=>rw[Kh,b];rfl
 exact⟨_,rfl,θ w.heap.size,_,_,rfl,g.IC 0 1 (γ (cH c s)) (cH c s) rfl sY e rfl (by simp[maxLen];omega)⟩
theorem flatS(l:δ (δ ζ)):l.flatMap eS=l.map str:=by
 induction l with
 |nil=>rfl
 |cons x l a=>rw[Kh,a];rfl
theorem Yv(t:δ ζ)(w:ο)(a:ε Γ)(n cap:Nat)(d:δ (δ ζ))(q:n=γ d)(c:Rd w a (d.flatMap eS))(g:n<=cap)(u:γ d<=1000000000/\γ (cY d t)<=100000000000):CR Tryz.prog 62 [.slice a n cap,str t] w λv w'=>v=str (cY d t)/\Hp w [] [] w':=by
 subst q;rw[flatS]at c;cases d with
 |nil=>exact av (Tryz.strings_Join_none a cap ⟨t.toArray⟩ w)
 |cons x r=>
  obtain⟨p,rfl,i⟩:=c 0 (str x) aA3;have b:=Bv i;rw[bjx]at b;have f:p.spot=ι:=by have:=fs i;simpa [Addr.add] using this
  obtain⟨k,o,s⟩:=p;simp only at f b;subst f;have e:((x::r).map λl=>(⟨l.toArray⟩:ByteArray)).map (·.data.toList)=x::r:=by rw[lK];exact List.map_id _
  have h:=Tryz.strings_Join k o cap ((x::r).map λl=>(⟨l.toArray⟩:ByteArray)) ⟨t.toArray⟩ w (λj y m=>by have:=F1 ⟨k,o,ι⟩ (x::r) c j y m;cases j<;>simpa [Addr.add] using this) b (by rw[Gf];omega) (by rw[Gf];exact g) (by rw[e];show(cY (x::r) t).length<=_;omega);rw[e,Gf]at h;exact tA h
theorem TV(f d:Γ)(n g k u:Nat)(s t:δ ζ)(w:ο)(j:γ s=n)(o:γ t=k)(F:Rd w (θ f) (s.map bt))(E:Rd w (θ d) (t.map bt))(B:n<=g)(H:n<=1000000000)(G:k<=1000000000)(D:Gl w):CR Tryz.prog 48 [.slice (θ f) n g,.slice (θ d) k u] w λv w'=>v=.int .i64 (cE s t)/\Hp w [] [] w':=by
 obtain⟨m,A⟩:=D.cell;have cell:∀a (l:δ ζ) (N:Nat),γ l=N->Rd w (θ a) (l.map bt)->∀i,i<N->w.cell? (a.add i)=θ (.int .u8 ((l.map λb=>b.toNat).getD i 0)):=by intro a l N r C i q;obtain⟨p,z,e⟩:=C i (bt (l[i]' aA0)) (by simp[r,q]);cases z;rw[e];simp[bt,r,q]
 have c:∀(l:δ ζ),∀x∈(l.map λb=>(b.toNat:Int)),0<=x/\x<256:=by intro l x hx;obtain⟨b,_,rfl⟩:=dB.1 hx;exact⟨aA0,by have:=b.toNat_lt;omega⟩
 have y:∀(l:δ ζ),Lib.bytesOf (l.map λb=>(b.toNat:Int))=l:=by
  intro l;unfold Lib.bytesOf;rw[lK]
  conv=>rhs;rw[<-List.map_id l]
  refine bz λb _=> ?_;simp
 have h:=Tryz.bytes_Index_at f d n g k u (s.map λb=>(b.toNat:Int)) (t.map λb=>(b.toNat:Int)) m w (by simp[j]) (by simp[o]) (c s) (c t) (cell f s n j F) (cell d t k o E) B aA0 aA0 A;rw[y,y]at h;exact RQ h
theorem KE(a:ε Γ)(k c:Nat)(w:ο)(d:2<=k)(b:k<=1000000000):CR Tryz.prog 48 [.slice ι 0 0,.slice a k c] w λv w'=>v=.int .i64 (-1)/\Hp w [] [] w':=by have h:=Tryz.bytes_Index_nil a k c w aA0 (λe=>by omega);rw[aA aA0]at h;exact av h
theorem yv(t:δ ζ)(h:2<=γ t):cE [] t= -1:=by
 match t,h with
 |a::b::t,_=>rfl
theorem OO(a h:ε Γ)(n d k g:Nat)(s t:δ ζ)(w:ο)(i:n=γ s)(e:k=γ t)(j:Rd w a (s.flatMap eB))(c:Rd w h (t.flatMap eB))(q:n<=d)(m:a=ι->d=0)(o:γ s<=1000000000/\2<=γ t/\γ t<=1000000000)(r:Gl w):CR Tryz.prog 48 [.slice a n d,.slice h k g] w λv w'=>v=.int .i64 (cE s t)/\Hp w [] [] w':=by
 rw[lV]at j c;obtain⟨u,f,l⟩:=o;cases a with
 |none=>obtain rfl:=m rfl;obtain rfl:n=0:=aA0;obtain rfl:s=[]:=Je i.symm;rw[yv t f];exact KE h k g w aA0 aA0
 |some a=>
  match t,f,c,e,l with
  |b::t,f,c,e,l=>obtain⟨p,rfl,_⟩:=c 0 _ rfl;exact TV a p n d k g s _ w i.symm e.symm j c q aA0 aA0 r
theorem Gq(s t:δ ζ)(w:ο)(h:γ s<=1000000000/\γ t<=1000/\t.all (λb=>decide (b.toNat<128))=μ/\(8<γ s\/γ t<=1\/s.all (λb=>decide (b.toNat<128))=μ)):CR Tryz.prog 162 [str s,str t] w λv w'=>v=.int .i64 (Cr s t)/\Hp w [] [] w':=by
 obtain⟨j,i,c,a⟩:=h;by_cases g:γ t=0
 ·exact av (Tryz.strings_IndexAny_none _ _ w g)
 by_cases d:γ t=1
 ·exact av (Tryz.strings_IndexAny_one _ _ w d (ascii_of_all c))
 rcases a with a|a|a
 ·have e:∀w,(zeroValue 121).run Tryz.prog w=.ok (.agg (IY 256 (.bool ν))) w:=(zero_of_info (n:=256) aK).1;have h:=Tryz.strings_IndexAny_long e ⟨s.toArray⟩ ⟨t.toArray⟩ w (by show 2<=γ t;omega) (by show 8<γ s;omega) aC7 aD6 (ascii_of_all c);refine Calls.mono h ?_;rintro _ _ ⟨rfl,rfl⟩;exact⟨_,rfl,rfl,Hp.Ag ⟨rfl,rfl,rfl,by simp;omega,λk f=>by rw[RowKit.Below.heap_alloc _ _ k aA2,RowKit.Below.heap_alloc _ _ k f]⟩⟩
 ·omega
 ·exact tA (Tryz.strings_IndexAny_laid _ _ w aC7 aD6 (ascii_of_all a) (ascii_of_all c))
theorem KG(l:δ ζ)(w:ο)(a:ε Γ)(n cap:Nat)(q:n=γ l)(e:Rd w a (l.flatMap eB))(s:(0+γ l)*1<=140737488355328):CR Tryz.prog 44 [.slice a n cap] w λv w'=>∃o a' cap',v=.slice a' (γ l) cap'/\Hp w [] [bN eB 5 1 o a' cap' l] w':=by
 subst q;have f:=Hp.refl w;refine enter Tryz.func44 rfl rfl (CQ rfl) ?_;refine BS ?_;refine MQ ?_;refine mQ (Vs ι 0 0) aK ?_;refine jT ?_;refine JG ?_;refine BS ?_;refine BS ?_;refine MQ ?_;refine jM (Vs a (γ l) cap) aK ?_;refine ZX a (γ l) cap 5 Tryz.underlying22 aK aK ?_;refine jT ?_;refine JG ?_;refine tI (b:=a.isNone) aK (λh=> ?_) (λh=> ?_)
 ·have t:a=ι:=by cases a with|none=>rfl|some p=>cases h
  subst t;have r:l=[]:=by
   cases l with
   |nil=>rfl
   |cons x l=>
    have g:=qY.flat Io (x::l);have y:γ (gY eB (x::l))=0:=by
     cases k:gY eB _ with
     |nil=>rfl
     |cons u D=>obtain⟨p,m,_⟩:=e 0 u (by rw[k];rfl);cases m
    rw[y]at g;simp at g
  subst r;refine BS ?_;refine MQ ?_;refine mQ (Vs ι 0 0) aK ?_;refine jT ?_;refine JG ?_;refine Xe ?_;refine DG ?_;refine pV (Vs ι 0 0) rfl aK ?_;exact⟨ι,ι,0,rfl,Hp.eX f eB 5 1 ι⟩
 ·refine Qg ?_;refine JG ?_;refine BS ?_;refine MQ ?_;refine lH f [] 5 (λb=>(Vs (θ ⟨b,0,ι⟩) 0 0)) rfl rfl aK ?_;intro E C i;have A:=i.IC 0 1 0 [] rfl Io rfl rfl aA1;refine jM (Vs a (γ l) cap) aK ?_;refine SK A 0 _ _ a 0 cap 5 1 1 _ l Io rfl Tryz.underlying22 aB1 aA1 aA1 aK aK (e.hp i) s ?_;intro j d c B z;refine mQ (Vs d (γ l) c) aK ?_;refine jT ?_;refine JG ?_;refine Xe ?_;refine pV (Vs d (γ l) c) rfl aK ?_;exact⟨j,d,c,rfl,z⟩
theorem DD(l:LQ)(w:ο)(a:ε Γ)(n cap:Nat)(q:n=γ l)(e:Rd w a (l.flatMap dZ))(s:(0+γ l)*40<=140737488355328):CR Tryz.prog 202 [.slice a n cap] w λv w'=>∃o a' cap',v=.slice a' (γ l) cap'/\Hp w [] [bN dZ 193 3 o a' cap' l] w':=by
 subst q;have f:=Hp.refl w;refine enter Tryz.func202 rfl rfl (CQ rfl) ?_;refine BS ?_;refine MQ ?_;refine mQ (Vs ι 0 0) aK ?_;refine jT ?_;refine JG ?_;refine BS ?_;refine BS ?_;refine MQ ?_;refine jM (Vs a (γ l) cap) aK ?_;refine ZX a (γ l) cap 193 Tryz.underlying144 aK aK ?_;refine jT ?_;refine JG ?_;refine tI (b:=a.isNone) aK (λh=> ?_) (λh=> ?_)
 ·have t:a=ι:=by cases a with|none=>rfl|some p=>cases h
  subst t;have r:l=[]:=by
   cases l with
   |nil=>rfl
   |cons x l=>
    have g:=qY.flat IN (x::l);have y:γ (gY dZ (x::l))=0:=by
     cases k:gY dZ _ with
     |nil=>rfl
     |cons u D=>obtain⟨p,m,_⟩:=e 0 u (by rw[k];rfl);cases m
    rw[y]at g;simp at g
  subst r;refine BS ?_;refine MQ ?_;refine mQ (Vs ι 0 0) aK ?_;refine jT ?_;refine JG ?_;refine Xe ?_;refine DG ?_;refine pV (Vs ι 0 0) rfl aK ?_;exact⟨ι,ι,0,rfl,Hp.eX f dZ 193 3 ι⟩
 ·refine Qg ?_;refine JG ?_;refine BS ?_;refine MQ ?_;refine lH f [] 193 (λb=>(Vs (θ ⟨b,0,ι⟩) 0 0)) rfl rfl aK ?_;intro E C i;have A:=i.IC 0 3 0 [] rfl IN rfl rfl aA1;refine jM (Vs a (γ l) cap) aK ?_;refine SK A 0 _ _ a 0 cap 193 3 40 _ l IN rfl Tryz.underlying144 aB1 aA1 aA1 aK aK (e.hp i) s ?_;intro j d c B z;refine mQ (Vs d (γ l) c) aK ?_;refine jT ?_;refine JG ?_;refine Xe ?_;refine pV (Vs d (γ l) c) rfl aK ?_;exact⟨j,d,c,rfl,z⟩
theorem Yt(b:Nat)(z:η)(s:ξ)(w:ο)(d:Hp w (eK [bA b [Vp (bif z then θ ⟨b,0,ι⟩else ι),s] 112]) [bA b [Vp (bif z then θ ⟨b,0,ι⟩else ι),s] 112] w):CR Tryz.prog 117 [Vp (θ ⟨b,0,ι⟩)] w λv w'=>v=.tuple #[]/\Hp w (eK [bA b [Vp (bif z then θ ⟨b,0,ι⟩else ι),s] 112]) [bA b [Vp (θ ⟨b,0,ι⟩),s] 112] w':=by
 cases z with
 |false=>have a:=d;refine enter Tryz.func117 rfl rfl (CQ rfl) ?_;refine BS ?_;refine MQ ?_;refine jM (Vp (θ ⟨b,0,ι⟩)) aK ?_;refine fE (v:=(Vp (θ ⟨b,0,ι⟩))) (w':=w) rfl rfl aK ?_;refine fE (v:=(Vp (θ ⟨b,0,ι⟩))) (w':=w) rfl rfl aK ?_;refine nX a 0 b 0 _ 112 _ rfl rfl aK aK ?_;refine A0 ι Tryz.underlying110 aK aK ?_;refine jT ?_;refine JG ?_;refine tG aK ?_;refine MQ ?_;refine jM (Vp (θ ⟨b,0,ι⟩)) aK ?_;refine jM (Vp (θ ⟨b,0,ι⟩)) aK ?_;refine cg a 0 b 0 112 _ rfl Tryz.underlying110 Tryz.underlying176 aK aA3 aK ?_;refine cm a 153 (Vp (θ ⟨b,0,ι⟩)) aK aK Tryz.func153 aK aK aK aK ?_;intro c e;refine cj e 0 b 0 112 _ rfl Tryz.underlying176 Tryz.underlying110 aK aK aK ?_;refine fE (v:=(Vp (θ ⟨b,0,ι⟩))) (w':=c) rfl rfl aK ?_;refine fE (v:=(Vp (θ ⟨b,0,ι⟩))) (w':=c) rfl rfl aK ?_;refine lO e 0 b 0 _ 112 (Vp (θ _)) [bA b [(Vp (θ ⟨b,0,ι⟩)),s] 112] rfl (SS (yQ _) (CQ rfl)) aK aK rfl aK rfl ?_;intro g f;refine jT ?_;refine uD rfl ?_;exact⟨rfl,f.kp⟩
 |true=>have a:=d;refine enter Tryz.func117 rfl rfl (CQ rfl) ?_;refine BS ?_;refine MQ ?_;refine jM (Vp (θ ⟨b,0,ι⟩)) aK ?_;refine fE (v:=(Vp (θ ⟨b,0,ι⟩))) (w':=w) rfl rfl aK ?_;refine fE (v:=(Vp (θ ⟨b,0,ι⟩))) (w':=w) rfl rfl aK ?_;refine nX a 0 b 0 _ 112 _ rfl rfl aK aK ?_;refine A0 (θ ⟨b,0,ι⟩) Tryz.underlying110 aK aK ?_;refine jT ?_;refine JG ?_;refine mr aK ?_;refine BS ?_;refine MQ ?_;refine jM (Vp (θ ⟨b,0,ι⟩)) aK ?_;refine fE (v:=(Vp (θ ⟨b,0,ι⟩))) (w':=w) rfl rfl aK ?_;refine fE (v:=(Vp (θ ⟨b,0,ι⟩))) (w':=w) rfl rfl aK ?_;refine nX a 0 b 0 _ 112 _ rfl rfl aK aK ?_;refine jM (Vp (θ ⟨b,0,ι⟩)) aK ?_;refine ch ⟨b,0,ι⟩ Tryz.underlying110 aK aK aK ?_;refine jT ?_;refine JG ?_;refine mr aK ?_;refine Qg ?_;refine uD rfl ?_;exact⟨rfl,a.kp⟩
open Go.Shelf Go.RowKit Go.Wk
variable {P:Β}{ρ:Ren}
set_option maxHeartbeats 1000000 in
set_option maxRecDepth 100000 in
theorem ml(L:Lays.n169 P ρ)(X:Builder.Extra P ρ)(b g cap:Nat)(p:ξ)(a:Array ξ)(l:δ ζ)(w:ο)(k:w.heap[b]? =θ (.cells #[p,.slice (θ ⟨g,0,ι⟩) (γ l) cap] (ρ.t 72) (0,0)))
  (G:w.heap[g]? =θ (.cells a (ρ.t 5) (0,0))) (E:γ l<=cap) (i:cap<=maxLen) (H:a.size=cap) (c:∀j x,l[j]? =θ x->w.cell? ((⟨g,0,ι⟩:Γ).add j)=θ (.int .u8 x.toNat)) (q:l≠[]):
  Calls P (ρ.f 169) #[.pointer (θ ⟨b,0,ι⟩)] w λe w'=>e=.returned (.string ⟨l.toArray⟩)/\w'=w.drew.freeze ⟨g,0,ι⟩ (γ l):=by
 have F:γ l≠0:=aE6;have Z:w.drew.cell? ⟨b,1,ι⟩=θ (.slice (θ ⟨g,0,ι⟩) (γ l) cap):=by have:w.drew.heap[b]? =θ (.cells #[p,.slice (θ ⟨g,0,ι⟩) (γ l) cap] (ρ.t 72) (0,0)):=k;rw[Lib.cell_of_heap this];rfl
 have J:(Builtin.unsafeSliceData_ #[(ρ.t 37)] (ρ.t 127) #[.slice (θ ⟨g,0,ι⟩) (γ l) cap]).run P w.drew=.ok (.pointer (θ ⟨g,0,ι⟩)) w.drew:=
  Lib.run_unsafeSliceData_row _ _ _ _ _ _ aA0
 have I:(Builtin.unsafeString_ #[(ρ.t 127),(ρ.t 3)] (ρ.t 9) #[.pointer (θ ⟨g,0,ι⟩),.int .i64 (γ l)]).run P w.drew=.ok (.string ⟨l.toArray⟩) (w.drew.freeze ⟨g,0,ι⟩ (γ l)):=by refine Lib.run_unsafeString_row w.drew (ρ.t 127) (ρ.t 3) (ρ.t 9) (ρ.t 5) L.t127 X.cellsByte g a.size (by have h:w.drew.heap[g]? =θ (.cells a (ρ.t 5) (0,0)):=G;simp[World.shape?,h]) l q aA0 (by unfold maxLen at i;omega) ?_;intro j x hx;exact c j x hx
 have d:=L.mixed;have t72:=L.t72;have K:=L.a72;have s:=L.z72;have y:=L.v72;have B:=run_underlying L.t72;have t70:=L.t70;have M:=L.a70;have u:=L.z70;have z:=L.v70;have C:=run_underlying L.t70;have t37:=L.t37;have N:=L.a37;have v:=L.z37;have A:=L.v37;have D:=run_underlying L.t37;have t127:=L.t127;have r:=L.a127;have m:=L.z127;have n:=L.v127;have o:=run_underlying L.t127;have t3:=L.t3;have a3:=L.a3;have R:=L.z3;have U:=L.v3;have Y:=run_underlying L.t3;have t9:=L.t9;have a9:=L.a9;have O:=L.z9;have S:=L.v9;have V:=run_underlying L.t9;have t5:=X.t5;have a5:=X.a5;have Q:=X.z5;have T:=X.v5;have W:=run_underlying X.t5
 go_enter L.f169,Body.n169_ntmps ρ
 go_wp2
 go_region_o
 all_goals (go_wp2;go_ret;exact⟨rfl,rfl⟩)
theorem bs_any(z:Lays.n169 P ρ)(X:Builder.Extra P ρ){w:ο}{S:δ Nat}{L:δ cB}(F:Hp w S L w)(b:Nat)(p:ξ)(o:ε Nat)(a:ε Γ)(cap:Nat)(l:aC)(m:Nat)(i:w.heap[b]? =θ (.cells #[p,.slice a (γ l) cap] (ρ.t 72) (0,0)))(B:L[m]? =θ (bN eB (ρ.t 5) 1 o a cap l)):
  CR P (ρ.f 169) [φ (θ ⟨b,0,ι⟩)] w λv w'=>v=str l/\Hp w S (L.set m Go.Oe.dM) w':=by
 have d:∀w',Below w.heap.size w w'->Hp w S (L.set m Go.Oe.dM) w':=by intro w' J;have G:=F.call (Hp.Ag J);exact G.change m _ Go.Oe.dM B rfl rfl rfl (dO _) (λ_ _ _=>rfl) trivial (λ_ i=>by cases i)
 obtain⟨G,N⟩:=F.res _ (aI B);rcases G with⟨rfl,rfl,rfl,rfl⟩|⟨g,h,C,rfl,q,E,D,I,A⟩
 ·refine Calls.mono (Any.Builder_String_nil z X w.heap.size b p w i) ?_;rintro _ w' ⟨rfl,n⟩;exact⟨_,rfl,rfl,d w' n⟩
 ·have C:o=θ g:=C;subst C;have c:w.heap[g]? =θ (.cells h (ρ.t 5) (0,0)):=q;clear q;cases l with
  |nil=>
   by_cases s:cap=0
   ·subst s;refine Calls.mono (Any.Builder_String_noroom z X w.heap.size b g p h w (dO _) i c) ?_;rintro _ w' ⟨rfl,n⟩;exact⟨_,rfl,rfl,d w' n⟩
   ·refine Calls.mono (Any.Builder_String_room z X w.heap.size b g cap p w s i) ?_;rintro _ w' ⟨rfl,n⟩;exact⟨_,rfl,rfl,d w' n⟩
  |cons x r=>
   refine Calls.mono (ml z X b g cap p h (x::r) w i c E D aA0 (λj y H=> ?_) aA3) ?_
   ·have u:(h.toList.take (γ (x::r)*1))[j]? =θ (bt y):=by rw[A,lV,aY,H];rfl
    rw[bQ]at u;split at u
    ·have K:h[j]? =θ (bt y):=by simpa using u
     cases j<;>simp[World.cell?,Addr.add,c,K,bt]
    ·cases u
   ·rintro _ w' ⟨rfl,rfl⟩;refine⟨_,rfl,rfl, ?_⟩;refine F.RL.change m _ Go.Oe.dM B ?_ ?_ ?_ ?_ (λj M k=> ?_) trivial (λ_ i=>by cases i);all_goals (try(unfold World.freeze;rw[aA aA3];rfl))
    ·unfold World.freeze;rw[aA aA3];simp
    ·unfold World.freeze;rw[aA aA3];simp only[jR];have k:g≠j:=λe=>k (by show θ j=θ g;rw[e]);rw[aA k];rfl
open Go.Oe in
theorem T9 (O : Lays.n169 P ρ) (X : Builder.Extra P ρ) {Q : Gc} {H : Nat} (g : Unit × aC -> δ PD) : Xv P Q (ρ.f 169) ⟨[.p' (ρ.t 72) (.pr .z' (.l' (ρ.t 5) H .c'))], [.r' .s'], λx => .gs (g x) x.2⟩ := by
  intro w S i L C x y V s d p J;obtain ⟨_, rfl⟩ := J;have d : Mt w S i [.bl (ρ.t 72) [.z' 0 1, .l' 2], .dd 0, .rw (ρ.t 5) H .c' x.2] L := d;have p : [θ (iS (i 0).b 0)] = C.map θ := p;obtain rfl : C = [iS (i 0).b 0] := by
    match C, p with
    | [u], h => simp at h; rw[h]
  obtain ⟨_, U, F, B, rfl, j⟩ := d.2 0 _ rfl;obtain ⟨_, T, M, _⟩ := d.2 1 _ rfl;obtain ⟨l, I, E, q⟩ := d.2 2 _ rfl;have q : I = bN (Ty.c').enc (ρ.t 5) (Ty.c').sz (i 2).o (i 2).a (i 2).cap x.2 := q;subst q;have l : γ x.2 = (i 2).ln := l;have G := s.dV 0 F;have D : B = [.pointer (bif (i 1).z then θ ⟨(i 0).b, 0, ι⟩ else ι), .slice (i 2).a (γ x.2) (i 2).cap] := by
    have n := j.2 0 _ rfl rfl;have m := j.2 1 _ rfl rfl;have A : γ B = 2 := j.1;rw[l]
    match B, A, n, m with
    | [a, c], _, n, m =>have n : a = _ := aP n;have m : c = _ := aP m;rw[n, m]; rfl
  rw[D] at G;refine Calls.mono (bs_any O X s (i 0).b _ (i 2).o (i 2).a (i 2).cap x.2 2 G E) ?_;rintro e R ⟨v, N, rfl, K⟩;refine ⟨_, N, i, _, λ_ _ => rfl, K, ?_, rfl⟩;show Mt w S i [.bl (ρ.t 72) [.z' 0 1, .l' 2], .dd 0, .dd (γ x.2)] (L.set 2 dM);refine ⟨by rw[jJ]; exact d.1, λid o k => ?_⟩
  match id, k with
  | 0, k =>obtain ⟨n, r, m, A⟩ := d.2 0 o k;exact ⟨n, r, by rw[Co aA1]; exact m, A⟩
  | 1, k =>obtain ⟨n, r, m, A⟩ := d.2 1 o k;exact ⟨n, r, by rw[Co aA1]; exact m, A⟩
  | 2, k =>cases k;exact ⟨l, dM, by rw[bE (by rw[d.1]; exact yQ 2)], trivial⟩
  | id + 3, k => simp at k
open Go.Oe in
theorem lh {W : Gc} {k T e D : Nat} (h : ∀ (b : Nat) (z : η) (s : ξ) (w : ο), Hp w (eK [bA b [φ (bif z then θ ⟨b, 0, ι⟩ else ι), s] T]) [bA b [φ (bif z then θ ⟨b, 0, ι⟩ else ι), s] T] w ->
    CR P k [φ (θ ⟨b, 0, ι⟩)] w λv w' => v = .tuple #[] /\ Hp w (eK [bA b [φ (bif z then θ ⟨b, 0, ι⟩ else ι), s] T]) [bA b [φ (θ ⟨b, 0, ι⟩), s] T] w') :
    Xv P W k ⟨[.p' T (.pr .z' (.l' e D .c'))], [.o' 0 T (.pr .z' (.l' e D .c'))], λx => .gs [] x⟩ := by
  intro w S d L F x y hG C f m Q;obtain ⟨_, rfl⟩ := Q;have f : Mt w S d [.bl T [.z' 0 1, .l' 2], .dd 0, .rw e D .c' x.2] L := f;have m : [θ (iS (d 0).b 0)] = F.map θ := m;obtain rfl : F = [iS (d 0).b 0] := by
    match F, m with
    | [u], h => simp at h; rw[h]
  obtain ⟨_, Y, A, E, rfl, l⟩ := f.2 0 _ rfl;obtain ⟨B, O, K, p⟩ := f.2 2 _ rfl;have p : O = bN (Ty.c').enc e (Ty.c').sz (d 2).o (d 2).a (d 2).cap x.2 := p;subst p;have J : E = [.pointer (bif (d 1).z then θ ⟨(d 0).b, 0, ι⟩ else ι), .slice (d 2).a (d 2).ln (d 2).cap] := by
    have r := l.2 0 _ rfl rfl;have q := l.2 1 _ rfl rfl;have N : γ E = 2 := l.1
    match E, N, r, q with
    | [a, c], _, r, q =>have r : a = _ := aP r;have q : c = _ := aP q;rw[r, q]; rfl
  rw[J] at A;obtain ⟨t, L', rfl⟩ : ∃ t, L = [bA (d 0).b [.pointer (bif (d 1).z then θ ⟨(d 0).b, 0, ι⟩ else ι), .slice (d 2).a (d 2).ln (d 2).cap] T, t, bN (Ty.c').enc e (Ty.c').sz (d 2).o (d 2).a (d 2).cap x.2] := by
    have N : γ L = 3 := f.1
    match L, N, A, K with
    | [a, b, c], _, r, q =>cases r; cases q;exact ⟨b, rfl⟩
  have U := Hp.hand (L1 := [bA (d 0).b [.pointer (bif (d 1).z then θ ⟨(d 0).b, 0, ι⟩ else ι), .slice (d 2).a (d 2).ln (d 2).cap] T]) (L2 := [t, bN (Ty.c').enc e (Ty.c').sz (d 2).o (d 2).a (d 2).cap x.2]) C;refine Calls.mono (h (d 0).b (d 1).z (.slice (d 2).a (d 2).ln (d 2).cap) w U) ?_;rintro e2 X ⟨v, V, rfl, R⟩;have I := Hp.eG (L1 := [bA (d 0).b [.pointer (bif (d 1).z then θ ⟨(d 0).b, 0, ι⟩ else ι), .slice (d 2).a (d 2).ln (d 2).cap] T]) (L2 := [t, bN (Ty.c').enc e (Ty.c').sz (d 2).o (d 2).a (d 2).cap x.2]) C R;let G : Nat -> Ad := λid => if id < 3 then d id else if id = 3 then ⟨ι, ι, 0, μ, 0⟩ else d 2;have H := (uL (uL I)).perm ((ai (l₁ := [dM, dM]) (l₂ := [bA (d 0).b [φ (θ ⟨(d 0).b, 0, ι⟩), .slice (d 2).a (d 2).ln (d 2).cap] T, t])).append_right [bN (Ty.c').enc e (Ty.c').sz (d 2).o (d 2).a (d 2).cap x.2]);refine ⟨_, V, G, _, λi M => (by have M : i < 3 := M; simp only[G]; rw[aB M]), H, ?_, rfl⟩;show Mt w S G [.bl T [.z' 0 3, .l' 4], .dd 0, .dd (γ x.2), .dd 0, .rw e D .c' x.2] [_, _, _, _, _];refine ⟨rfl, λid o g => ?_⟩
  match id, g with
  | 0, g =>
    cases g;refine ⟨(f.2 0 _ rfl).1, _, rfl, _, rfl, rfl, λj c n Z => ?_⟩
    match j, n with
    | 0, n => cases n; rfl
    | 1, n => cases n; rfl
    | j + 2, n => simp at n
  | 1, g =>cases g;exact ⟨(f.2 1 _ rfl).1, _, rfl, trivial⟩
  | 2, g =>cases g;exact ⟨B, _, rfl, trivial⟩
  | 3, g =>cases g;exact ⟨rfl, _, rfl, trivial⟩
  | 4, g =>cases g;exact ⟨B, _, rfl, rfl⟩
  | id + 5, g => simp at g
end Go.Proofs
set_option maxHeartbeats 1000000
namespace Go.Proofs
open Go.Wk Go.Px
open Go.Value renaming slice → Vs, int → Vi, bool → Vb, pointer → Vp
open Int renaming toNat → bH
open List renaming drop → cC
open Tryz
abbrev rE:=[(45:ζ),(45:ζ),(98:ζ)]
abbrev Zz1:=[(45:ζ),(45:ζ),(98:ζ),(13:ζ),(10:ζ),(99:ζ),(58:ζ),(32:ζ),(116:ζ),(101:ζ),(120:ζ),(116:ζ),(47:ζ),(112:ζ),(108:ζ),(97:ζ),(105:ζ),(110:ζ),(13:ζ),(10:ζ),(13:ζ),(10:ζ),(104:ζ),(105:ζ),(13:ζ),(10:ζ),(45:ζ),(45:ζ),(98:ζ),(45:ζ),(45:ζ)]
abbrev pf(v0:LQ) v1:=[(str ((el v0 v1).1)),(str ((el v0 v1).2.1)),(υ ((el v0 v1).2.2))]
abbrev Zz3:aC:=[45,45,98,13,10,99,58,32,116,101,120,116,47,112,108,97,105,110,13,10,13,10,104,105,13,10,45,45,98,45,45]
abbrev NC:=[(Vs ι 0 0),(Vs ι 0 0)]
abbrev YJ:=[(13:ζ),(10:ζ)]
abbrev Zz6:aC:=[101,67,111,110,116,101,110,116,45,69,110,99,111,100,105,110,103]
abbrev Zz7:aC:=[120,83,101,115,115,105,111,110,45,69,120,112,105,114,101,115]
abbrev Zz8:aC:=[108,67,111,110,116,101,110,116,45,76,101,110,103,116,104]
abbrev Zz9 v0 v1 c b v4 a:=[bA v0 [(str v1)] 9,bA c [(str b)] 9,bA v4 [(Δ .i64 a)] 3]
abbrev Zz10:aC:=[117,65,108,108,111,119,45,69,118,101,110,116,115]
abbrev Qw v0 v1 b a:=[bA v0 [(π v1 b a)] 144]
abbrev Zz12:aC:=[99,67,111,110,116,101,110,116,45,84,121,112,101]
abbrev Zz13:aC:=[98,82,101,102,101,114,114,101,100,45,66,121]
abbrev Zz14:aC:=[87,87,87,45,65,117,116,104,101,110,116,105,99,97,116,101]
abbrev Zz15:aC:=[107,83,117,112,112,111,114,116,101,100]
abbrev ND v0 v1 a:=[(Vi .i64 v0),(Vi .i64 v1),(Vb a)]
abbrev Zz17:aC:=[114,82,101,102,101,114,45,84,111]
abbrev Zz18:=[ν,ν,ν,ν,ν,ν,ν,ν,ν,ν,ν,ν,ν,ν,ν,ν]
abbrev Zz19:aC:=[77,73,77,69,45,86,101,114,115,105,111,110]
abbrev Zz20:aC:=[109,67,111,110,116,97,99,116]
abbrev Zz21:aC:=[115,83,117,98,106,101,99,116]
abbrev Zz22:=[(Zz13),(Zz12),(Zz6),[102,70,114,111,109],[105,67,97,108,108,45,73,68],(Zz15),(Zz8),(Zz20),[111,69,118,101,110,116],(Zz17),(Zz21),[116,84,111],(Zz10),[118,86,105,97],(Zz7)]
theorem CS(c:ζ):IntKind.wrap .i32 ((c.toNat:Nat):Int)=(c.toNat:Int):=by revert c;exact fM _ aA5
theorem V1:Wk.Enters prog 156:=⟨f156,_,func156,rfl,aK⟩
theorem V0:Wk.Enters prog 171:=⟨f171,_,func171,rfl,aK⟩
theorem ent190:Wk.Enters prog 190:=⟨f190,_,func190,rfl,aK⟩
theorem ent206:Wk.Enters prog 206:=⟨f206,_,func206,rfl,aK⟩
variable {fu:Nat}{g:Int}{w:ο}{r:η}
theorem bhi(a:agn fu g=θ r)(o:Gl w):CR prog 190 [(Vi .i32 g)] w λv w'=>v=(Vb r)/\Hp w [] [] w':=by have e:=Hp.refl w;refine enter func190 rfl rfl lT ?_;unfold agn at a;refine sr (wp 1 (nq (cs (ce (bi a λh c a=>jF e [0,2,3] [(3,(Vb h))] ?_ ?_)))));refine cr (wp 2 (wd c (λj c=> ?_) (λj c=> ?_)));refine wp 4 (wl (ql ?_));obtain rfl:=oi c;exact je e.kp;refine wp 4 (wl (ql ?_));obtain rfl:=oi c;exact je e.kp;intro n G d;refine cb a (λi a=> ?_) (λi a=> ?_);refine sr (wp 1 (nq (ct (lD (st ?_)))));obtain rfl:=oi a;exact rv d.kp;refine bi a λm b a=>jF d [2,10] [(10,(Vb m))] ?_ ?_;refine cr (wp 2 (wd b (λl b=> ?_) (λl b=> ?_)));refine wp 4 (wl (ql ?_));obtain rfl:=oi b;exact je d.kp;refine wp 4 (wl (ql ?_));obtain rfl:=oi b;exact je d.kp;intro p G f;refine cb a (λk a=> ?_) (λk a=> ?_);refine sr (wp 1 (nq (ct (lD (st ?_)))));obtain rfl:=oi a;exact rv f.kp;refine ck (bn (qn (sr (wp 1 (nq (ct ?_))))));obtain rfl:=oi a;exact rv f.kp
variable {a:aC}
theorem bdr{r:Int}(e:ue fu a g=θ r)(J:Gl w):CR prog 156 [(str a),(Vi .i32 g)] w λv w'=>v=(Vi .i64 r)/\Hp w [] [] w':=by
 have q:=Hp.refl w;refine enter func156 rfl rfl lT ?_;unfold ue at e;refine sr (wp 1 (nq (ce (bi e λI m e=>jF q [0,1,4,160] [(160,(Vb I))] ?_ ?_))));refine cr (wp 2 (wd m (λL m=> ?_) (λL m=> ?_)));refine wp 4 (wl (ql ?_));obtain rfl:=oi m;exact je q.kp;refine wp 4 (wl (ql ?_));obtain rfl:=oi m;exact je q.kp;intro H G l;refine cb e (λK e=> ?_) (λK e=> ?_);refine sr (wp 2 (vc .i32 g underlying21 underlying5 aK (wK 171 #[] [(str a),(bt (XU g))] _ V0 aK aK (oT a _ H) ?_)));rintro _ g0 ⟨rfl,F⟩;have Z:=l.call F;clear F;refine wp 1 (nq (ct (lD ?_)));obtain rfl:=oi e;exact rv Z.kp;refine sr (wp 3 (nq (cd e (λY e=> ?_) (λY e=> ?_))));refine bi e λE X e=>HS l E [4] (λW=>[]) ?_ ?_;refine sr (wp 1 (NZ l a underlying9 aK λp g1 d0=>nq (ce (CM (σ:=Nat×Nat) [4,175] (λ⟨k,a0⟩=>[]) (λ⟨k,a0⟩ w'=>Hp w [] [TT p a a0] w'/\ahf fu a k a0=θ E) (λ⟨k,a0⟩=>k) (fu,0) (by exact⟨d0.kp,X⟩) ?_))));rintro⟨_|k,a0⟩ g2 G ⟨u,f⟩
 ·exact yS f
 rw[aon,ago]at f;refine sr ?_;by_cases o:a0<γ a;replace f:=QS o f;refine Yb u 0 p a a0 rfl aK (λ_ d1 n=> ?_) (λt=>absurd o t);replace n:Hp w [] [TT p a _] d1:=n;refine wp 1 (nq (cs (tG aK (ck (qn (ce (sr ?_)))))));refine wp 4 (nq (sr (wp 2 (nq (cd f (λd2 f=> ?_) (λd2 f=> ?_))))));refine sr (wp 2 (nq (ct (lD (vG (lD (vG ?_)))))));obtain rfl:=oi f;refine lD ?_;obtain rfl:=oi e;exact rv n.kp;refine ck (bn (ql ?_));exact⟨(k,a0+(Utf8.decode ⟨List.toArray a⟩ a0).2),_,rfl,by kernel_rfl,⟨n.kp,f⟩,yQ _⟩;replace f:=QT o f;refine Yb u 0 p a a0 rfl aK (λt=>absurd t o) (λ_=> ?_);refine wp 1 (nq (cs (mr aK (wI (vH (wJ (wH (ql ?_))))))));obtain rfl:=oi f;exact jw rfl u.kp;rintro W g3 G d3 rfl;refine sr (wp 1 (nq (ct (lD ?_))));obtain rfl:=oi e;exact rv d3.kp;refine sr (wp 1 (bi e λg4 d4 e=>wc ent190 l (bhi d4 (J.jD l)) λg5 D=>wp 2 (nq (cb e (λd5 e=> ?_) (λd5 e=> ?_)))));refine sr (wp 1 (nq (ct (lD ?_))));obtain rfl:=oi e;exact rv D.kp;refine BQ (sr (wp 1 (SY .i32 .i32 g underlying21 underlying9 aK (wp 1 (nq (sr ?_))))));refine wp 2 (gi e λd6 e=>tW _ _ aK aK d6 (wp 1 (nq (sr (wp 2 (wl ?_))))));refine qn (sr (wp 1 (nq (cs (ce (LC (λC _=>ahe fu a g C) () D e [0,4,7,8,9] (λ(_:Unit)=>[]) (λ_=>rfl) ?_))))));rintro C _ g6 G s i;rw[axm,ajj]at i;refine cs (sr (wp 4 (nq (cd i (λd7 i=> ?_) (λd7 i=> ?_)))));refine ck (qn (ce (BQ (bi i λd8 b i=>HS s d8 [0,4,7,8,9] (λj=>[(9,(Vi .i64 j))]) ?_ ?_))));refine cs (gi b λd9 b=>gi b λV b=>cdr 6 s (IE (yD (nC (Fv (yD (Fv (IE (nC (Fv ax))))))))) λg7 B=>rp 4 [0,1] (rt 2 (bt _) rfl rfl (nY rfl (by intro w d;exact(oN a .i64 _ underlying9 aK aK d9))) (rp 1 [3,4] (rt 5 (bt _) rfl rfl (nY rfl (by intro w d;exact(oN _ .i64 _ underlying9 aK aK V))) (kF aK (Cy (at_ a ((γ ((ψ g).data.toList):Int)-1)) (at_ ((ψ g).data.toList) ((γ ((ψ g).data.toList):Int)-1)) aK aK ?_))))));refine nq (cn b (λU b=> ?_) (λU b=> ?_));refine cs (gi b λT b=>gi b λS b=>gi b λR b=>cdr 7 B (IE (yD (nC (Fv (yD (Fv (IE (nC (Fv ax))))))))) λQ P=>rp 5 [0,1] (rt 2 (Vi .i64 _) rfl rfl (nY rfl (by intro w d;exact(Jg _ _ aK aK T))) (rt 3 (str _) rfl rfl (nY rfl (by intro w d;exact(oM a .i64 _ underlying9 aK aK S))) (rp 1 [4,5] (rt 6 (bt _) rfl rfl (nY rfl (by intro w d;exact(oN _ .i64 _ underlying9 aK aK R))) ?_)))));refine kF aK (wK 171 #[] [(str (cC (bH (((γ ((ψ g).data.toList):Int)-1)+1)) a)),(bt (at_ ((ψ g).data.toList) ((γ ((ψ g).data.toList):Int)-1)))] _ V0 aK aK (oT _ (at_ ((ψ g).data.toList) _) Q) ?_);rintro _ g8 ⟨rfl,A⟩;have z:=P.call A;clear A;refine wp 1 (nq (cs (sr (wp 2 (nq (cd b (λO b=> ?_) (λO b=> ?_)))))));refine sr (wp 1 (nq (ct (st (vG ?_)))));obtain rfl:=oi b;refine Vw (lD (vG (lD (st (Vw (lD ?_))))));obtain rfl:=oi i;exact rv z.kp;refine ck (qn (cr (wp 2 (gi b λN b=>rA _ _ aK aK N (gi b λM b=>rA _ _ aK aK M (wp 1 (wl ?_)))))));refine ql ?_;obtain rfl:=oi b;exact jw rfl z.kp;refine ck (ql ?_);obtain rfl:=oi b;exact jw rfl B.kp;rintro j g9 G f0 rfl;refine cs (sr (wp 1 (nq (ce (LC (λy h=>akl fu a g j y h) 1 f0 i [0,4,7,8,9,12] (λh=>[(12,(Vi .i64 h))]) (λ_=>rfl) ?_)))));rintro y h h0 G x c;rw[biy,apy]at c;refine cs (sr (wp 4 (nq (cd c (λf1 c=> ?_) (λf1 c=> ?_)))));refine ck (qn (cs (ce (cs (gi c λf2 c=>gi c λf3 c=>gi c λf4 c=>gi c λf5 c=>cdr 10 x (IE (Fv (IE (yD (Fv (IE (nC (Fv (yD (Fv (IE (nC (Fv ax))))))))))))) λh1 f6=> ?_)))));refine rp 7 [0,1,2] (rt 3 (Vi .i64 _) rfl rfl (nY rfl (by intro w d;exact(oL j h aK aK f2))) (rt 4 (bt _) rfl rfl (nY rfl (by intro w d;exact(oN a .i64 _ underlying9 aK aK f3))) (rp 2 [5,6,7] (rt 8 (Vi .i64 _) rfl rfl (nY rfl (by intro w d;exact(oL _ h aK aK f4))) (rt 9 (bt _) rfl rfl (nY rfl (by intro w d;exact(oN _ .i64 _ underlying9 aK aK f5))) (kF aK (Cy (at_ a (j-h)) (at_ ((ψ g).data.toList) (((γ ((ψ g).data.toList):Int)-1)-h)) aK aK (nq (cn c (λf7 c=> ?_) (λf7 c=> ?_))))))))));exact yS c;exact ck (bn (qn (cr (wp 1 (gi c λf8 c=>rA h _ aK aK f8 (wp 1 (wl (ql (QI _ f6.kp c)))))))));refine wI (vH (wJ (wH (qn (cs (sr (wp 2 (gi c λf9 c=> ?_))))))));refine tW j _ aK aK f9 (wp 1 (nq (ct (st (Vw (lD (vG (lD ?_))))))));refine st (Vw (lD ?_));obtain rfl:=oi c;exact rv x.kp;refine wI (vH (wJ (wH (qn (cs (sr (wp 1 (wl ?_))))))));refine qn (ct (st (Vw (lD ?_))));obtain rfl:=oi i;exact rv s.kp
theorem bef(a:ahd fu g=θ r)(d:Gl w):CR prog 206 [(Vi .i64 g)] w λv w'=>v=(Vb r)/\Hp w [] [] w':=by have c:=Hp.refl w;refine enter func206 rfl rfl lT ?_;unfold ahd at a;refine sr (wp 1 (nq (sr (wp 3 (nq ?_)))));refine ct ?_;obtain rfl:=oi a;exact rv c.kp
theorem tO{h:aC}(r:atr fu a h=θ g)(l:Gl w):CR prog 162 [(str a),(str h)] w λv w'=>v=(Vi .i64 g)/\Hp w [] [] w':=by
 have d:=Hp.refl w;refine enter func162 rfl rfl lT ?_;unfold atr at r;refine sr (wp 1 (nq (cs (sr (wp 2 (wl ?_))))));refine qn (cd r (λy r=> ?_) (λy r=> ?_));refine sr (wp 1 (nq (ct (st ?_))));obtain rfl:=oi r;exact rv d.kp;refine ck (qn (cs (sr (wp 3 (nq (cd r (λx r=> ?_) (λx r=> ?_)))))));refine sr (wp 1 (gi r λz r=>na h .i64 0 underlying9 aK aK z (OC .i32 .u8 ((at_ h 0).toNat:Int) underlying5 underlying21 aK (CS _) (wp 1 (nq (bi r λt Q r=>jF d [0,1,4,5] [(5,(Vi .i32 t))] ?_ ?_))))));refine sr (wp 2 (nq (cd Q (λu Q=> ?_) (λu Q=> ?_))));refine cr (wp 1 (wl (ql ?_)));obtain rfl:=oi Q;exact je d.kp;refine ck (ql ?_);obtain rfl:=oi Q;exact je d.kp;intro P G s;refine sr (wp 2 (bi r λO M r=>wc V1 s (bdr M (l.jD s)) λN L=>wp 1 (nq (ct (st ?_)))));obtain rfl:=oi r;exact rv L.kp;refine ck (qn (bi r λd0 e r=>jF d [0,1,4] [] ?_ ?_));refine sr (wp 2 (bi e λd1 K e=>wc ent206 d (bef K (l.jD d)) λd2 J=>nq (cb e (λI e=> ?_) (λI e=> ?_))));exact yS e;refine ck (ql ?_);obtain rfl:=oi e;exact je J.kp;intro d3 G q;refine bi r λp H r=>HS q p [4] (λF=>[]) ?_ ?_;refine sr (wp 1 (NZ q a underlying9 aK λk d4 E=>nq (ce (CM (σ:=Nat×Nat) [1,4,45] (λ⟨f,c⟩=>[]) (λ⟨f,c⟩ w'=>Hp w [] [TT k a c] w'/\aib fu a h f c=θ p) (λ⟨f,c⟩=>f) (fu,0) (by exact⟨E.kp,H⟩) ?_))));rintro⟨_|f,c⟩ d5 G ⟨n,b⟩
 ·exact yS b
 rw[ajk,aff]at b;refine sr ?_;by_cases j:c<γ a;replace b:=QS j b;refine Yb n 0 k a c rfl aK (λ_ D i=> ?_) (λm=>absurd j m);replace i:Hp w [] [TT k a _] D:=i;refine wp 1 (nq (cs (tG aK (ck (qn (ce (sr ?_)))))));refine wp 4 (nq (sr (wp 2 (bi b λd6 C b=>wc V1 i (bdr C (l.jD i)) λd7 o=>wp 1 (wl ?_)))));refine qn (cd b (λB b=> ?_) (λB b=> ?_));refine sr (wp 2 (nq (ct (lD (vG (lD (vG ?_)))))));obtain rfl:=oi b;obtain rfl:=oi r;exact rv o.kp;refine ck (bn (ql ?_));exact⟨(f,c+(Utf8.decode ⟨List.toArray a⟩ c).2),_,rfl,by kernel_rfl,⟨o.kp,b⟩,yQ _⟩;replace b:=QT j b;refine Yb n 0 k a c rfl aK (λm=>absurd m j) (λ_=> ?_);refine wp 1 (nq (cs (mr aK (wI (vH (wJ (wH (ql ?_))))))));obtain rfl:=oi b;exact jw rfl n.kp;rintro F d8 G A rfl;refine sr (wp 1 (nq (ct ?_)));obtain rfl:=oi r;exact rv A.kp
end Go.Proofs
namespace Go.Wk
open Go.Px
theorem Z7{t:aC}(h:t.all (λb=>decide (b.toNat<128))=μ)(k:Nat)(a:k<γ t):(at_ t (k:Int)).toNat<128:=by
 have c:at_ t (k:Int)∈t:=by simp only[at_,tR,bJ,aN a,IS];exact lL a
 exact bY (aT.1 h _ c)
theorem rr(a:Int)(b: -1000000<=a)(h:a<=1000000):bK a:=⟨aA0,aA0⟩
theorem ze(t:aC)(h:t.all (λb=>decide (b.toNat<128))=μ)(n:Nat):∀(k a:Nat),k+n=γ t->n<a->ahf 2000 t a k=θ (.inl ()):=by
 induction n with
 |zero=>intro k a e f;obtain⟨a,rfl⟩:=bV a;rw[aon,ago,aA aA0]
 |succ n d=>intro k a e f;obtain⟨a,rfl⟩:=bV a;have i:=Z7 h k aA0;have g:=Wz t k aA0 i;have c:Utf8.decode ⟨List.toArray t⟩ k=((at_ t (k:Int)).toNat,1):=g;rw[aon,ago,aB aA0,c,aA (by simp only;omega)];exact d (k+1) a aA0 aA0
theorem P1(p:ζ->η):∀l:aC,(∀c∈l,p c=ν)->dN p l= -1
 |[],_=>rfl
 |c::l,h=>by unfold dN;rw[h c aA3,aA aA1,P1 p l (λx hx=>h x (kY _ hx)),aB rfl]
theorem ki(t:aC)(A:γ t<=1000)(o:t.all (λb=>decide (b.toNat<128))=μ)(r:Int)(v:128<=r):ue 2000 t r=θ (-1):=by
 have w:decide (r<128)=ν:=aE aA0;unfold ue;rw[aB aA0,w,cL,aH];by_cases p:r=65533
 ·rw[aB p,ze t o (γ t) 0 2000 aA0 aA0];rfl
 rw[aA p];have u:∃b,agn 2000 r=θ b:=by
  unfold agn;rw[aB aA0,cL];cases decide (r<55296)with
  |true=>exact⟨_,rfl⟩
  |false=>
   rw[aH];by_cases h:57343<r
   ·rw[aB h,cL];cases decide (r<=1114111)<;>exact⟨_,rfl⟩
   ·rw[aA h];exact⟨_,rfl⟩
 obtain⟨b,y⟩:=u;rw[y,cL];cases b with
 |false=>rfl
 |true=>
  obtain⟨D,C,s⟩:=WT r v;have q:(ψ r).data.toList=Tj r:=rfl;rw[Bool.not_true,aH,q];have g:bK ((γ (Tj r):Int)-1):=rr _ aA0 aA0;rw[aS g];show ahe 2000 t r (1999+1)=_;rw[axm,ajj,q];generalize a:at_ (Tj r) ((γ (Tj r):Int)-1)=last at s;generalize B:(γ (Tj r):Int)-1=m at a s⊢;by_cases d:m<(γ t:Int)
  ·obtain⟨k,rfl⟩:∃k:Nat,m=(k:Int):=⟨m.toNat,aA0⟩;have z:=Z7 o k aA0;have i:¬at_ t (k:Int)=last:=λe=>by rw[e]at z;omega
   have f:∀l:aC,(∀c∈l,c∈t)->dN (·==last) l= -1:=λl x=>P1 _ l λc n=>by
    have j:=bY (aT.1 o c (x c n));have:¬c=last:=λe=>by rw[e]at j;omega
    simpa using this
   rw[aB d,aS aA0,aS aA0,aA i,aS (rr _ aA0 aA0),aS aA0,aS aA0,f _ (λc n=>List.mem_of_mem_drop n),aB aA1,cL,Sum.elim_inr]
  ·rw[aA d]
theorem B3:∀c:ζ,XU (c.toNat:Int)=c:=fM _ aA5
theorem zd(t:aC)(c:ζ)(b:c.toNat<128):ue 2000 t (c.toNat:Int)=θ (dN (·==c) t):=by have a:decide ((c.toNat:Int)<128)=μ:=aD aA0;unfold ue;rw[aB aA0,a,cL,aM,B3]
theorem QQ(c:ζ):∀t:aC,(0<=dN (·==c) t)↔t.contains c=μ
 |[]=>by simp[dN]
 |b::t=>by
  have a:=QQ c t;have i:=sQ (·==c) t;unfold dN;by_cases h:b=c
  ·rw[aB aA8];simp[h]
  ·have g:¬c=b:=λe=>h e.symm;rw[aA aA8,List.contains_cons];have d:(c==b)=ν:=aE1;rw[d,Bool.false_or,<-a];split
   ·rename_i f;rw[f]
   ·omega
theorem FX(p:ζ->η):∀a l:aC,(∀c∈a,p c=ν)->dN p (a++l)=if dN p l= -1 then-1 else dN p l+(γ a:Int)
 |[],l,_=>by
  rw[List.nil_append,List.length_nil];split
  ·assumption
  ·omega
 |c::a,l,h=>by
  have d:=FX p a l (λx hx=>h x (kY _ hx));have e:=sQ p l;rw[IX,dN,h c aA3,aA aA1,d];by_cases b:dN p l= -1
  ·rw[aB b,aB b,aB rfl]
  ·rw[aA b,aA b,aA aA0,dI];omega
theorem ia_lp(s t:aC)(y:γ t<=1000)(x:t.all (λb=>decide (b.toNat<128))=μ)(n:Nat):∀(k f:Nat),γ s-k<=n->n<f->k<=γ s->
  aib 2000 s t f k=θ (if dN (t.contains ·) (s.drop k)= -1 then .inl ()else .inr ((k:Int)+dN (t.contains ·) (s.drop k))):=by
 induction n with
 |zero=>intro k f A D z;obtain⟨f,rfl⟩:=bV f;rw[ajk,aff,aA aA0,NJ aA0];rfl
 |succ n w=>
  intro k f A D z;obtain⟨f,rfl⟩:=bV f;by_cases a:k<γ s
  ·rw[ajk,aff,aB a];have G:=sQ (t.contains ·) (s.drop (k+1));by_cases d:(at_ s (k:Int)).toNat<128
   ·have u:Utf8.decode ⟨List.toArray s⟩ k=((at_ s (k:Int)).toNat,1):=Wz s k a d;rw[u];simp only;rw[zd t _ d,cL,Iq s k a,dN];have l:=QQ (at_ s (k:Int)) t;by_cases m:t.contains (at_ s (k:Int))=μ
    ·rw[aB (l.2 m),aB m,aA aA1];simp
    ·rw[aA (λh=>m (l.1 h)),aA m,w (k+1) f aA0 aA0 aA0];by_cases i:dN (t.contains ·) (s.drop (k+1))= -1
     ·rw[aB i,aB i,aB rfl]
     ·rw[aA i,aA i,aA aA0];congr 2;omega
   ·obtain⟨d1,d2,d3,d4⟩:=W2 s k a d;have e:(⟨s.toArray⟩:ByteArray)=⟨List.toArray s⟩:=rfl;rw[ki t y x _ aA0,cL,aA aA1];generalize(Utf8.decode ⟨s.toArray⟩ k).2=wd at d2 d3 d4⊢
    rw[w (k+wd) f aA0 aA0 aA0];have g:s.drop k=(s.drop k).take wd++s.drop (k+wd):=by
     have r:s.drop (k+wd)=(s.drop k).drop wd:=by rw[List.drop_drop]
     rw[r,XS]
    have q:∀c∈(s.drop k).take wd,t.contains c=ν:=by
     intro c m;obtain⟨j,B,rfl⟩:=List.getElem_of_mem m;rw[cM,IW]at B;have E:=d4 (k+j) aA0 aA0;rw[List.getElem_take,List.getElem_drop];have F:at_ s ((k+j:Nat):Int)=s[k+j]' aA0:=by unfold at_;rw[tR];simp[show k+j<γ s by omega]
     rw[F]at E;cases v:t.contains (s[k+j]' aA0)with
     |false=>rfl
     |true=>have:=bY (aT.1 x _ (List.contains_iff_mem.1 v));omega
    have p:dN (t.contains ·) (s.drop k)=if dN (t.contains ·) (s.drop (k+wd))= -1 then-1 else dN (t.contains ·) (s.drop (k+wd))+(γ ((s.drop k).take wd):Int):=by
     conv=>lhs;rw[g]
     exact FX _ _ _ q
    rw[p];have o:γ ((s.drop k).take wd)=wd:=by rw[cM,IW];omega
    have C:=sQ (t.contains ·) (s.drop (k+wd));rw[o];by_cases i:dN (t.contains ·) (s.drop (k+wd))= -1
    ·rw[aB i,aB i,aB rfl]
    ·rw[aA i,aA i,aA aA0];congr 2;omega
  ·rw[ajk,aff,aA a,NJ aA0];rfl
theorem Q4(s t:aC)(i:γ s<=8)(d:2<=γ t)(f:γ t<=1000)(g:t.all (λb=>decide (b.toNat<128))=μ):atr 2000 s t=θ (Lib.indexAny s t):=by
 have a:¬t=[]:=λe=>by rw[e]at d;simp at d
 have h:=sQ (t.contains ·) s;unfold atr ahd;rw[aA a,aA aA0,cL,aE aA0,aH,cL,ia_lp s t f g (γ s) 0 2000 aA0 aA0 aA0,Rh,azk,cL];by_cases c:dN (t.contains ·) s= -1
 ·rw[aB c,c];rfl
 ·rw[aA c,Sum.elim_inr];congr 1;omega
end Go.Wk
namespace Go.Proofs
open Go.Wk Go.Px
theorem Yw(s t:δ ζ)(w:ο)(h:γ s<=1000000000/\γ t<=1000/\t.all (λb=>decide (b.toNat<128))=μ)(f:Gl w):CR Tryz.prog 162 [str s,str t] w λv w'=>v=.int .i64 (Lib.indexAny s t)/\Hp w [] [] w':=by
 obtain⟨d,c,a⟩:=h;by_cases g:8<γ s
 ·exact Gq s t w ⟨d,c,a,.inl g⟩
 by_cases e:γ t<=1
 ·exact Gq s t w ⟨d,c,a,.inr (.inl e)⟩
 exact tO (Q4 s t aA0 aA0 c a) f
open Go.Wk Go.Px Go.Oe
abbrev lC:Ty:=.pr .s' (.pr .s' .b')
abbrev dJ:Ty:=.l' 193 40 lC
noncomputable section
noncomputable def gT:δ (Nat×Ob):=[(0,.ro .s' bh),(3,.ro (.pr .s' (.i' .i64)) vI),(8,.ro .s' be)]
noncomputable def glo:Gc where
 gs:=gT
 p w S:=Gl w/\∀b∈S,9<=b
 st h a j:=⟨a.1.hp h a.2,λb i=>(j b i).elim (λk=>Ja a.1.gs k) (a.2 b)⟩
 rd:=by
  intro w S g t l a c;have d:∀g,g<9->g∉S:=λg f e=>Nat.lt_irrefl _ (cQ f (a.2 g e));unfold gT at c;cases c with
  |head=>exact⟨a.1.specials.rd,d _ aA1⟩
  |tail _ c=>
  cases c with
  |head=>exact⟨a.1.kinds.rd,d _ aA1⟩
  |tail _ c=>
  cases c with
  |head=>exact⟨a.1.classes.rd,d _ aA1⟩
  |tail _ c=>
  cases c
noncomputable def oE(t:Nat):ε (Nat×Nat×Ty):=bif Nat.beq t 22 then θ (5,1,.c')else bif Nat.beq t 40 then θ (49,32,.pr .s' .s')else bif Nat.beq t 64 then θ (68,24,.pr (.i' .i64) .s')else bif Nat.beq t 89 then θ (9,16,.s')else bif Nat.beq t 144 then θ (193,40,.pr .s' (.pr .s' .b'))else ι
theorem oEh:∀t e b τ,oE t=θ (e,b,τ)->Tryz.prog.underlying t=θ (.slice e)/\TI Tryz.prog e τ.sz b/\τ.flat=μ/\0<b:=by
 intro t e b τ h;unfold oE at h;cases g:Nat.beq t 22 with
 |true=>rw[g]at h;cases h;rw[fN g];exact⟨Tryz.underlying22,by unfold TI;kernel_rfl,rfl,aA1⟩
 |false=>
 rw[g]at h;simp only[aH]at h;cases f:Nat.beq t 40 with
 |true=>rw[f]at h;cases h;rw[fN f];exact⟨Tryz.underlying40,by unfold TI;kernel_rfl,rfl,aA1⟩
 |false=>
 rw[f]at h;simp only[aH]at h;cases d:Nat.beq t 64 with
 |true=>rw[d]at h;cases h;rw[fN d];exact⟨Tryz.underlying64,by unfold TI;kernel_rfl,rfl,aA1⟩
 |false=>
 rw[d]at h;simp only[aH]at h;cases c:Nat.beq t 89 with
 |true=>rw[c]at h;cases h;rw[fN c];exact⟨Tryz.underlying89,by unfold TI;kernel_rfl,rfl,aA1⟩
 |false=>
 rw[c]at h;simp only[aH]at h;cases a:Nat.beq t 144 with
 |true=>rw[a]at h;cases h;rw[fN a];exact⟨Tryz.underlying144,by unfold TI;kernel_rfl,rfl,aA1⟩
 |false=>
 rw[a]at h;simp only[aH]at h;cases h
theorem gTt:∀q∈glo.gs,∃t l,q.2=.ro t l:=by
 intro q a;have a:q∈gT:=a;unfold gT at a;cases a with
 |head=>exact⟨_,_,rfl⟩
 |tail _ a=>
 cases a with
 |head=>exact⟨_,_,rfl⟩
 |tail _ a=>
 cases a with
 |head=>exact⟨_,_,rfl⟩
 |tail _ a=>
 cases a
noncomputable def CK:Sea:=⟨Tryz.prog,glo,oE,oEh,gTt⟩
variable {k:Nat}{fn:Func}
noncomputable def kl(a : CK.P.funcs[k]? = θ fn)(c : yW)(ok : Xv CK.P CK.GS k c)(b : fn.body = θ (fn.body.getD .skip) := by rfl)(nm : (fn.name == "runtime.NumGoroutine") = ν := by kernel_rfl) : CK.K := ⟨k, c, ⟨fn, _, a, b, nm⟩, ok⟩
noncomputable def kf(fu : Nat)(d : CK.P.funcs[k]? = θ fn)(l : δ CK.K)(a : δ Ty)(r : δ Rk)(g : (gE a).T -> ε (hC r).T)(sc : Sc)(e : fn.body = θ (fn.body.getD .skip) := by rfl)(nm : (fn.name == "runtime.NumGoroutine") = ν := by rfl)(c : Nat.ble a.length fn.ntmps = μ := by rfl)(b : ∀ x, denF (CK.cx fu fn.ntmps l a) (CK.GS.gs.map (·.2)) (fn.body.getD .skip) fn.results.toList sc a r x = g x := by intro x; kernel_rfl) : CK.K := CK.fn fu k d e nm l a r g sc c b
noncomputable def azy:=kl Tryz.func27 ⟨[.i' .i64],[.r' (.s')],λx=>.gs [⟨bK x,inferInstance⟩] (Lib.itoa x)⟩ (SD (λx=>[.int .i64 x]) (λy=>str y) λw S x y b a=>by obtain⟨⟨c,_⟩,rfl⟩:=a;exact OQ x w c b.1)
noncomputable def Eb:=kl Tryz.func31 ⟨[.s',.s'],[.r' (.i' .i64)],λx=>.gs [⟨γ x.1<=1000000000,inferInstance⟩] (Lib.index x.1 x.2)⟩ (SD (λx=>[str x.1,str x.2]) (λy=>.int .i64 y) λw S x y b a=>by obtain⟨⟨c,_⟩,rfl⟩:=a;exact Lp x.1 x.2 w c b.1)
noncomputable def bek:=kl Tryz.func33 ⟨[.s',.s'],[.r' (.s'),.r' (.b')],λx=>.gs [] (Lib.trimPrefix x.1 x.2,Lib.hasPrefix x.1 x.2)⟩ (SD (λx=>[str x.1,str x.2]) (λy=>.tuple #[str y.1,.bool y.2]) λw S x y b a=>by obtain⟨_,rfl⟩:=a;exact zM x.1 x.2 w)
noncomputable def biq:=kl Tryz.func36 ⟨[.s',.s'],[.r' (.s'),.r' (.s'),.r' (.b')],λx=>.gs [⟨γ x.1<=1000000000,inferInstance⟩] ((Lib.cut x.1 x.2).1,(Lib.cut x.1 x.2).2.1,(Lib.cut x.1 x.2).2.2)⟩ (SD (λx=>[str x.1,str x.2]) (λy=>.tuple #[str y.1,str y.2.1,.bool y.2.2]) λw S x y b a=>by obtain⟨⟨c,_⟩,rfl⟩:=a;exact E1 x.1 x.2 w c b.1)
noncomputable def LH:=kl Tryz.func44 ⟨[.r' .c'],[.r' (.l' 5 1 .c')],λx=>.gs [⟨(0+γ x)*1<=140737488355328,inferInstance⟩] x⟩ (uP (e:=5) (b:=1) (t:=.c') (λx=>x) (λy=>y) λw S x y a n cap i c d f h=>by obtain⟨⟨g,_⟩,rfl⟩:=c;exact KG x w a n cap d f g)
noncomputable def bfx:=kl Tryz.func62 ⟨[.r' .s',.s'],[.r' .s'],λx=>.gs [⟨γ x.1<=1000000000/\γ (Lib.join x.1 x.2)<=100000000000,inferInstance⟩] (Lib.join x.1 x.2)⟩ (T8 (t:=.s') (λx=>x.1) (λx=>[str x.2]) (λy=>str y) λw S x y a n cap g b c e d=>by obtain⟨⟨f,_⟩,rfl⟩:=b;exact Yv x.2 w a n cap x.1 c e d f)
noncomputable def pX:=kl Tryz.func63 ⟨[.s',.s'],[.r' (.s')],λx=>.gs [⟨γ x.1<=1000000000,inferInstance⟩,⟨γ x.2<=1000/\x.2.all (λb=>decide (b.toNat<128))=μ,inferInstance⟩] (Lib.trimS x.1 x.2)⟩ (SD (λx=>[str x.1,str x.2]) (λy=>str y) λw S x y e a=>by obtain⟨⟨d,c,_⟩,rfl⟩:=a;exact OP x.1 x.2 w d c)
noncomputable def bei:=kl Tryz.func64 ⟨[.s',.s'],[.r' (.s')],λx=>.gs [⟨γ x.1<=1000000000,inferInstance⟩,⟨γ x.2<=1000/\x.2.all (λb=>decide (b.toNat<128))=μ,inferInstance⟩] (Lib.trimRightS x.1 x.2)⟩ (SD (λx=>[str x.1,str x.2]) (λy=>str y) λw S x y e a=>by obtain⟨⟨d,c,_⟩,rfl⟩:=a;exact Yu x.1 x.2 w d c)
noncomputable def nN:=kl Tryz.func91 ⟨[.p' 112 (.pr .z' (.l' 5 1 .c'))],[.r' .s'],λx=>.gs [⟨γ x.2<=140737488355328,inferInstance⟩] x.2⟩ (T9 Tryz.iy Tryz.Cm _)
noncomputable def Ax:=kl Tryz.func117 ⟨[.p' 112 (.pr .z' (.l' 5 1 .c'))],[.o' 0 112 (.pr .z' (.l' 5 1 .c'))],λx=>.gs [] x⟩ (lh Yt)
noncomputable def ayp:=kl Tryz.func162 ⟨[.s',.s'],[.r' (.i' .i64)],λx=>.gs [⟨γ x.1<=1000000000/\γ x.2<=1000/\x.2.all (λb=>decide (b.toNat<128))=μ,inferInstance⟩] (Lib.indexAny x.1 x.2)⟩ (SD (λx=>[str x.1,str x.2]) (λy=>.int .i64 y) λw S x y c a=>by obtain⟨⟨d,_⟩,rfl⟩:=a;exact Yw x.1 x.2 w d c.1)
noncomputable def akb:=kl Tryz.func171 ⟨[.s',.c'],[.r' (.i' .i64)],λx=>.gs [] (dN (·==x.2) x.1)⟩ (SD (λx=>[str x.1,bt x.2]) (λy=>.int .i64 y) λw S x y b a=>by obtain⟨_,rfl⟩:=a;exact oT x.1 x.2 w)
noncomputable def bfy:=kl Tryz.func194 ⟨[.s',.s'],[.r' (.b')],λx=>.gs [⟨γ x.1<=1000000000,inferInstance⟩] (Lib.contains x.1 x.2)⟩ (SD (λx=>[str x.1,str x.2]) (λy=>.bool y) λw S x y b a=>by obtain⟨⟨c,_⟩,rfl⟩:=a;exact DC x.1 x.2 w c b.1)
noncomputable def FR:=kl Tryz.func202 ⟨[.r' lC],[.r' dJ],λx=>.gs [⟨(0+γ x)*40<=140737488355328,inferInstance⟩] x⟩ (uP (e:=193) (b:=40) (t:=.pr .s' (.pr .s' .b')) (λx=>x) (λy=>y) λw S x y a n cap i c d f h=>by obtain⟨⟨g,_⟩,rfl⟩:=c;exact DD x w a n cap d f g)
noncomputable def bjk:=kl Tryz.func207 ⟨[.s',.c'],[.r' (.i' .i64)],λx=>.gs [⟨γ x.1<=1000000000,inferInstance⟩] (kS (·==x.2) x.1)⟩ (SD (λx=>[str x.1,bt x.2]) (λy=>.int .i64 y) λw S x y c a=>by obtain⟨⟨b,_⟩,rfl⟩:=a;exact Dg x.1 x.2 w b)
noncomputable def nJ:=kl Tryz.func250 ⟨[.s',.s'],[.r' (.l' 9 16 .s')],λx=>match x.2 with|[c]=>.gs [⟨γ x.1<=1000000000,inferInstance⟩] (cH c x.1)|_=>.one ι⟩ (lf (e:=9) (b:=16) (t:=.s') (λy=>y) (λx=>[str x.1,str x.2]) λw S x y d a=>by
  obtain⟨s,c⟩:=x
  match c,a with
  |[c],a=>obtain⟨⟨f,_⟩,rfl⟩:=a;exact E0 s c w f d.1
  |[],a=>cases a
  |_::_::_,a=>cases a)
noncomputable def uZ:=kl Tryz.func272 ⟨[.s',.s'],[.r' (.s')],λx=>.gs [⟨γ x.1<=1000000000,inferInstance⟩,⟨γ x.2<=1000/\x.2.all (λb=>decide (b.toNat<128))=μ,inferInstance⟩] (Lib.trimLeftS x.1 x.2)⟩ (SD (λx=>[str x.1,str x.2]) (λy=>str y) λw S x y e a=>by obtain⟨⟨d,c,_⟩,rfl⟩:=a;exact DB x.1 x.2 w d c)
noncomputable def qM:=kl Tryz.func286 ⟨[.s',.s'],[.r' (.s')],λx=>.gs [] (Lib.trimPrefix x.1 x.2)⟩ (SD (λx=>[str x.1,str x.2]) (λy=>str y) λw S x y b a=>by obtain⟨_,rfl⟩:=a;exact Sj x.1 x.2 w)
end
open Go.Wk Go.Px Go.Oe
abbrev nqQ:Sc->Sc:=Sc.s' Sc.n'
abbrev iqQ:Ty:=.i' .i64
section
variable(fu:Nat)
noncomputable def bga:=kf fu Tryz.func83 [] [.c'] [.r' (.b')] (λx=>auf fu x) (nqQ (.r' [] [] (.s' (.j' [.s' 3 (.b')] [0,1,2,6] .n' (nqQ (.j' [.s' 3 (.b')] [0,1,2,6] .n' .n'))) .n') .n'))
noncomputable def ard:=kf fu Tryz.func56 [bga fu] [.s',.i' .i64,.f' 83 .u'] [.r' iqQ] (λx=>afv fu x.1 x.2.1) (nqQ (nqQ (.j' [.s' 1 iqQ] [] (.l' [.s' 1 iqQ] (.s' (.j' [.s' 22 (.b')] [0,1,3,4] .n' .n') .n')) .n')))
noncomputable def avn:=kf fu Tryz.func52 [ard fu,bga fu] [.s',.i' .i64] [.r' iqQ] (λx=>ou fu x.1 x.2) (.n')
noncomputable def ast:=kf fu Tryz.func30 [avn fu] [.s'] [.r' (.b')] (λx=>YE fu x) (nqQ (.j' [.s' 2 (.b')] [0,1,2,9] .n' .n'))
noncomputable def Ei:=kf fu Tryz.func14 [ast fu] [.s'] [.r' (.b')] (λx=>aqq fu x) (nqQ (.j' [.s' 2 (.b')] [0,2,7] .n' .n'))
noncomputable def bac:=kf fu Tryz.func54 [] [.s',.s'] [.r' (.b')] (λx=>aov fu x.1 x.2) (nqQ (.j' [.s' 4 (.b')] [0,2,4,5,16] .n' .n'))
noncomputable def bej:=kf fu Tryz.func32 [bac fu] [.s',.s'] [.r' (.b')] (λx=>arq fu x.1 x.2) (.n')
noncomputable def arl:=kf fu Tryz.func57 [] [.c'] [.r' (.b')] (λx=>ud fu x) (nqQ (.j' [.s' 2 (.b')] [0,1,2,6] .n' .n'))
noncomputable def bdd:=kf fu Tryz.func56 [arl fu] [.s',.i' .i64,.f' 57 .u'] [.r' iqQ] (λx=>ajy fu x.1 x.2.1) (nqQ (nqQ (.j' [.s' 1 iqQ] [] (.l' [.s' 1 iqQ] (.s' (.j' [.s' 22 (.b')] [0,1,3,4] .n' .n') .n')) .n')))
noncomputable def avd:=kf fu Tryz.func34 [ard fu,bdd fu,arl fu] [.s',.i' .i64] [.r' iqQ] (λx=>tu fu x.1 x.2) (.n')
noncomputable def bae:=kf fu Tryz.func58 [] [.s',.s'] [.r' (.b')] (λx=>adi fu x.1 x.2) (nqQ (.j' [.s' 4 (.b')] [0,2,4,5,13] .n' .n'))
noncomputable def sF:=kf fu Tryz.func35 [bae fu] [.s',.s'] [.r' (.b')] (λx=>alp fu x.1 x.2) (.n')
noncomputable def bks:=kf fu Tryz.func15 [Eb,bej fu,bek,avd fu,sF fu] [.s',.i' .i64,.s'] [.r' (.pr iqQ (.pr iqQ .b')),.r' (.b')] (λx=>amd fu x.1 x.2.1 x.2.2) (nqQ (nqQ (nqQ (.l' [.s' 9 iqQ] (.s' (nqQ (nqQ (nqQ (.s' (.j' [.s' 41 (.b')] [0,1,2] .n' .n') .n')))) .n')))))
noncomputable def avc:=kf fu Tryz.func87 [] [.c'] [.r' (.b')] (λx=>ahq fu x) (nqQ (.j' [.s' 2 (.b')] [0,1,2,6,10] .n' .n'))
noncomputable def Oa:=kf fu Tryz.func60 [avc fu] [.s'] [.r' iqQ,.r' (.b')] (λx=>blh fu x) (nqQ (.j' [] [] (nqQ (.l' [.s' 4 iqQ] (nqQ (.s' (nqQ (.s' (nqQ (.z' .n')) (.s' (nqQ (.z' .n')) (.s' (nqQ (.z' .n')) .n')))) .n')))) .n'))
noncomputable def ayq:=kf fu Tryz.func71 [] [.c'] [.r' (.c')] (λx=>ajs fu x) (nqQ (.s' (.j' [.s' 8 (.b')] [0,1,2] .n' .n') .n'))
noncomputable def xN:=kf fu Tryz.func70 [] [.c'] [.r' (.s')] (λx=>awl fu x) (.n')
noncomputable def agd:=kf fu Tryz.func72 [ayq fu] [.s',.f' 71 .u'] [.r' (.s')] (λx=>acu fu x.1) (nqQ (nqQ (.j' [.w' 5 (.y')] [] (nqQ (.l' [.w' 5 (.y'),.s' 12 iqQ] .n')) .n')))
noncomputable def arm:=kf fu Tryz.func74 [] [.c'] [.r' (.c')] (λx=>anu fu x) (nqQ (.s' (.j' [.s' 8 (.b')] [0,1,2] .n' .n') .n'))
noncomputable def bjl:=kf fu Tryz.func73 [ayq fu,arm fu] [.c',.p' 4 .b'] [.r' (.c'),.o' 0 4 .b'] (λx=>ayg fu x.1 x.2) (.n')
noncomputable def ahc:=kf fu Tryz.func72 [bjl fu] [.s',.f' 73 (.p' 4 .b')] [.r' (.s'),.o' 0 4 .b'] (λx=>adj fu x.1 x.2) (nqQ (nqQ (.j' [.w' 5 (.y'),.o' 1 0 (.b')] [] (nqQ (.l' [.w' 5 (.y'),.s' 12 iqQ,.o' 1 0 (.b')] .n')) .n')))
noncomputable def bgb:=kf fu Tryz.func45 [ast fu,xN fu,ayq fu,agd fu,ahc fu,bjl fu] [.s'] [.r' (.s'),.r' (.c')] (λx=>asy fu x) (nqQ (.s' (.j' [.s' 16 (.b')] [0,2,3] .n' .n') (.r' [] [] .n' (nqQ (.r' [] [] (nqQ (.l' [.s' 30 iqQ] .n')) .n')))))
noncomputable def nM:=kf fu Tryz.func123 [] [.s'] [.r' iqQ] (λx=>tx fu x) (nqQ (.r' [] [] (nqQ (.l' [.s' 4 iqQ] .n')) .n'))
noncomputable def Og:=kf fu Tryz.func101 [nM fu] [.s'] [.r' (.b')] (λx=>asc fu x) (nqQ (.r' [] [] .n' (nqQ (.j' [.s' 2 (.b')] [0,1,2,6] .n' .n'))))
noncomputable def aol:=kf fu Tryz.func124 [pX] [.s'] [.r' (.s')] (λx=>YD fu x) (.n')
noncomputable def agl:=kf fu Tryz.func191 [avd fu] [.p' 207 (.pr (.w' .s') iqQ)] [.o' 0 207 (.pr (.w' .s') iqQ)] (λx=>bu fu x) (.n')
noncomputable def akk:=kf fu Tryz.func211 [] [.p' 207 (.pr (.w' .s') iqQ)] [.r' (.b')] (λx=>ug fu x) (.n')
noncomputable def pc:=kf fu Tryz.func192 [akk fu] [.p' 207 (.pr (.w' .s') iqQ),.c'] [.r' (.b')] (λx=>Is fu x.1 x.2) (nqQ (.j' [.s' 4 (.b')] [] .n' .n'))
noncomputable def qQ:=kf fu Tryz.func217 [] [.c'] [.r' (.b')] (λx=>apf fu x) (nqQ (.j' [.s' 2 (.b')] [0,1,2,6] .n' .n'))
noncomputable def bdx:=kf fu Tryz.func170 [avc fu,qQ fu] [.s',.i' .i64] [.r' (.s'),.r' iqQ,.r' (.c')] (λx=>aqj fu x.1 x.2) (nqQ (.s' (.j' [.s' 17 (.b')] [0,1,2] .n' .n') (.s' (.j' [.s' 27 (.b')] [0,1,3,4] .n' .n') (nqQ (nqQ (nqQ (.r' [.s' 7 (.l' 5 1 .c'),.s' 8 iqQ] [] (.l' [.s' 7 (.l' 5 1 .c'),.s' 8 iqQ] .n') .n')))))))
noncomputable def bey:=kf fu Tryz.func193 [bdx fu,agl fu,pc fu] [.p' 207 (.pr (.w' .s') iqQ),.p' 148 (.pr .s' (.pr (.pr .s' (.pr .s' (.pr .s' (.pr iqQ (.pr dJ dJ))))) dJ))] [.r' iqQ,.r' (.c'),.o' 0 207 (.pr (.w' .s') iqQ),.o' 1 148 (.pr .s' (.pr (.pr .s' (.pr .s' (.pr .s' (.pr iqQ (.pr dJ dJ))))) dJ))] (λx=>ahm fu x.1 x.2) (.n')
noncomputable def bai:=kf fu Tryz.func237 [avn fu] [.p' 207 (.pr (.w' .s') iqQ)] [.r' (.s'),.o' 0 207 (.pr (.w' .s') iqQ)] (λx=>afr fu x) (.n')
noncomputable def bge:=kf fu Tryz.func195 [bfx,agl fu,pc fu,bai fu] [.p' 207 (.pr (.w' .s') iqQ),.p' 148 (.pr .s' (.pr (.pr .s' (.pr .s' (.pr .s' (.pr iqQ (.pr dJ dJ))))) dJ))] [.r' iqQ,.r' (.c'),.o' 0 207 (.pr (.w' .s') iqQ),.o' 1 148 (.pr .s' (.pr (.pr .s' (.pr .s' (.pr .s' (.pr iqQ (.pr dJ dJ))))) dJ))] (λx=>aea fu x.1 x.2) (nqQ (nqQ (.r' [.s' 6 (.l' 9 16 .s'),.o' 0 0 (.s'),.o' 0 1 iqQ] [] (.l' [.s' 6 (.l' 9 16 .s'),.o' 0 0 (.s'),.o' 0 1 iqQ] .n') .n')))
noncomputable def ait:=kf fu Tryz.func238 [ayp] [.w' .s',.i' .i64,.s'] [.r' iqQ] (λx=>CD fu x.1 x.2.1 x.2.2) (.n')
noncomputable def ov:=kf fu Tryz.func200 [] [.s'] [.r' (.s')] (λx=>XL fu x) (nqQ (nqQ (.j' [.w' 3 (.y')] [] (nqQ (.l' [.w' 3 (.y'),.s' 10 iqQ] (nqQ (nqQ (.s' (nqQ (.j' [.s' 20 (.b')] [0,1,2] .n' .n')) .n'))))) .n')))
noncomputable def bjm:=kf fu Tryz.func253 [] [.c'] [.r' (.b')] (λx=>amr fu x) (nqQ (.j' [.s' 2 (.b')] [0,1,2,6,14] .n' .n'))
noncomputable def asi:=kf fu Tryz.func251 [] [.c'] [.r' (.b')] (λx=>YF fu x) (nqQ (.j' [.s' 2 (.b')] [0,1,2,6] .n' .n'))
noncomputable def bhp:=kf fu Tryz.func243 [akb,asi fu,bjm fu] [.c',.i' .i64] [.r' (.b')] (λx=>aqs fu x.1 x.2) (nqQ (.s' (.j' [.s' 15 (.b')] [0,2,6] .n' .n') (.j' [.s' 4 (.b')] [0,1,2,6,14] .n' .n')))
noncomputable def bgc:=kf fu Tryz.func271 [asi fu] [.c'] [.r' (.c'),.r' (.b')] (λx=>uc fu x) (nqQ (.s' (nqQ (nqQ (.j' [.s' 9 (.b')] [0,1,2,6] .n' (nqQ (.j' [.s' 19 (.b')] [0,1,2,6] .n' .n'))))) .n'))
noncomputable def bgd:=kf fu Tryz.func296 [bgc fu] [.s',.i' .i64] [.r' (.c'),.r' (.b')] (λx=>aod fu x.1 x.2) (nqQ (.s' (.j' [.s' 20 (.b')] [0,1,2,4,5] .n' .n') (nqQ (nqQ (.j' [.s' 5 (.b')] [0,1,2,3,4,5,8,9] .n' .n')))))
noncomputable def bhq:=kf fu Tryz.func267 [] [.c'] [.r' (.b')] (λx=>awq fu x) (nqQ (.j' [.s' 2 (.b')] [0,1,2,6,10] .n' .n'))
noncomputable def bah:=kf fu Tryz.func284 [bhp fu,bhq fu,bgd fu] [.p' 207 (.pr (.w' .s') iqQ),.i' .i64,.i' .i64] [.r' iqQ,.r' (.b')] (λx=>afq fu x.1 x.2.1 x.2.2) (nqQ (.r' [] [] (nqQ (.l' [.s' 8 iqQ] (nqQ (.s' (nqQ (nqQ (.s' (.j' [.s' 46 (.b')] [0,1,2] .n' .n') .n'))) .n')))) .n'))
noncomputable def vD:=kf fu Tryz.func297 [bgd fu] [.s'] [.r' (.s'),.r' iqQ,.r' (.c')] (λx=>bbo fu x) (nqQ (nqQ (.r' [.s' 5 (.l' 5 1 .c')] [] (nqQ (.l' [.s' 5 (.l' 5 1 .c'),.s' 6 iqQ] .n')) .n')))
noncomputable def bhr:=kf fu Tryz.func285 [vD fu] [.s'] [.r' (.s')] (λx=>alj fu x) (.n')
noncomputable def sP:=kf fu Tryz.func249 [ov fu,nJ,bgc fu,uZ] [.s'] [.r' (.l' 9 16 .s'),.r' (.b')] (λx=>agh fu x) (nqQ (nqQ (.r' [.w' 4 (.l' 9 16 .s')] [] (nqQ (.l' [.w' 4 (.l' 9 16 .s'),.s' 14 iqQ] (nqQ (nqQ (.r' [.w' 4 (.l' 9 16 .s')] [] (nqQ (.s' (.j' [.s' 26 (.b')] [0,2,3] .n' .n') (.r' [] [] (nqQ (.l' [.s' 29 iqQ] .n')) .n'))) .n'))))) .n')))
noncomputable def Ay:=kf fu Tryz.func208 [biq,bfx,sP fu] [.s'] [.r' (.s'),.r' (.b')] (λx=>ayi fu x) (nqQ (nqQ (nqQ (.s' (nqQ (.s' (nqQ (.j' [.s' 2 (.s'),.s' 3 (.b')] [0,2,3,8,9] .n' .n')) .n')) (nqQ (nqQ (.j' [.s' 9 (.l' 9 16 .s'),.s' 11 (.b')] [] .n' (.j' [.s' 10 (.l' 9 16 .s'),.s' 12 (.b')] [] .n' (.s' (.j' [.s' 64 (.b')] [0,1,2,6] .n' .n') .n')))))))))
noncomputable def xR:=kf fu Tryz.func209 [azy,nJ,asi fu] [.s'] [.r' (.b')] (λx=>awo fu x) (nqQ (nqQ (nqQ (.r' [] [] (nqQ (.l' [.s' 15 iqQ] (nqQ (nqQ (.r' [] [] (nqQ (nqQ (.r' [.s' 6 iqQ] [] (nqQ (.l' [.s' 6 iqQ,.s' 21 iqQ] .n')) (.j' [.s' 49 (.b')] [0,1,2,6] .n' .n')))) .n'))))) .n'))))
end
theorem sj:Go.Wk.Enters Tryz.prog 31:=⟨Tryz.f31,_,Tryz.func31,rfl,by kernel_rfl⟩
theorem U9:Go.Wk.Enters Tryz.prog 251:=⟨Tryz.f251,_,Tryz.func251,rfl,by kernel_rfl⟩
theorem ent252:Go.Wk.Enters Tryz.prog 252:=⟨Tryz.f252,_,Tryz.func252,rfl,by kernel_rfl⟩
theorem ent253:Go.Wk.Enters Tryz.prog 253:=⟨Tryz.f253,_,Tryz.func253,rfl,by kernel_rfl⟩
theorem zx:Go.Wk.Enters Tryz.prog 274:=⟨Tryz.f274,_,Tryz.func274,rfl,by kernel_rfl⟩
theorem zv:Go.Wk.Enters Tryz.prog 290:=⟨Tryz.f290,_,Tryz.func290,rfl,by kernel_rfl⟩
variable {fu:Nat}{f:ζ}{r:η}{w:ο}
theorem bkd(d:YF fu f=θ r)(a:Gl w):CR Tryz.prog 251 [bt f] w λv c=>v=.bool r/\Hp w [] [] c:=
 RX (x:=f) (y:=r) (asi fu).ok (λx=>[bt x]) _ ⟨a,λb e=>by cases e⟩ d
theorem yN(d:amr fu f=θ r)(a:Gl w):CR Tryz.prog 253 [bt f] w λv c=>v=.bool r/\Hp w [] [] c:=
 RX (x:=f) (y:=r) (bjm fu).ok (λx=>[bt x]) _ ⟨a,λb e=>by cases e⟩ d
variable {a c:aC}{m:Int}{b:(aC×aC×Int)}
theorem tM(h:atp fu a c m=θ b)(q:Gl w):CR Tryz.prog 274 [(str a),(str c),(Δ .i64 m)] w λv w'=>∃(l:Nat),∃(d:Nat),∃(k:Nat),v=(Θ (.func 290) #[] #[(φ (dH l)),(φ (dH d)),(φ (dH k))])/\Hp w [] [bA l [(str b.1)] 9,bA d [(str b.2.1)] 9,bA k [(Δ .i64 b.2.2)] 3] w':=by have s:=Hp.refl w;refine enter Tryz.func274 rfl rfl (aZ rfl) ?_;unfold atp at h;refine sr (lH s [(str a)] 9 (λr=>(φ (dH r))) rfl rfl aK λd p g=>lH g [(str c)] 9 (λr=>(φ (dH r))) rfl rfl aK λj o f=>lH f [(Δ .i64 m)] 3 (λr=>(φ (dH r))) rfl rfl aK λi n e=>wp 1 (nq (sr ?_)));refine wp 2 (nq (ct ?_));obtain rfl:=oi h;refine pV (Θ (.func 290) #[] #[(φ (dH j)),(φ (dH d)),(φ (dH i))]) rfl aK ?_;exact⟨j,d,i,pD,(Hp.front (Hp.front e 2 _ rfl) 2 _ rfl).kp⟩
theorem tN(p:atq fu a c=θ b)(o:Gl w):CR Tryz.prog 252 [(str a),(str c)] w λv w'=>∃(m:Nat),∃(l:Nat),∃(k:Nat),v=(Θ (.func 290) #[] #[(φ (dH m)),(φ (dH l)),(φ (dH k))])/\Hp w [] [bA m [(str b.1)] 9,bA l [(str b.2.1)] 9,bA k [(Δ .i64 b.2.2)] 3] w':=by have j:=Hp.refl w;refine enter Tryz.func252 rfl rfl (aZ rfl) ?_;unfold atq at p;refine sr (wp 1 (nq (sr (wp 2 (bi p λd e p=>wK 274 #[] [(str a),(str c),(Δ .i64 0)] _ zx aK aK (tM e (o.jD j)) ?_)))));rintro _ n ⟨i,h,g,rfl,r⟩;have f:Hp w [] (Zz9 i d.1 h d.2.1 g d.2.2) n:=Hp.eG (L1:=[]) (L2:=[]) j r;clear r;refine wp 1 (nq (ct ?_));obtain rfl:=oi p;refine pV (Θ (.func 290) #[] #[(φ (dH i)),(φ (dH h)),(φ (dH g))]) rfl aK ?_;exact⟨i,h,g,pD,(Hp.front (Hp.front (Hp.front f 2 _ rfl) 2 _ rfl) 2 _ rfl).kp⟩
theorem auq{z:η}(f:Nat)(d:Loop)(l:Nat)(k:Nat)(i:Nat)(g:Nat)(e:Nat){u:(η×η×aC×Nat)}(F:adf fu r z a c m=θ u)(hG:Gl w)(hM:Hp w (eK [eH f 0 d,bA l [(υ r)] 4,bA k [(υ z)] 4,bA i [(str a)] 9,bA g [(str c)] 9,bA e [(Δ .i64 m)] 3]) [eH f 0 d,bA l [(υ r)] 4,bA k [(υ z)] 4,bA i [(str a)] 9,bA g [(str c)] 9,bA e [(Δ .i64 m)] 3] w)(hS:∀b∈eK [eH f 0 d,bA l [(υ r)] 4,bA k [(υ z)] 4,bA i [(str a)] 9,bA g [(str c)] 9,bA e [(Δ .i64 m)] 3],9<=b)(U:∀(Q:aC) (P:η) (O:η) (w_:ο),Hp w (eK [eH f 0 d,bA l [(υ r)] 4,bA k [(υ z)] 4,bA i [(str a)] 9,bA g [(str c)] 9,bA e [(Δ .i64 m)] 3]) [eH f 0 d,bA l [(υ P)] 4,bA k [(υ O)] 4] w_->∀(yr:(Nat×η×η)),ox fu Q P O=θ yr->YR Tryz.prog f [(str Q)] w_ λv c1=>v=υ (decide (yr.1=0))/\Hp w_ (eK [eH f 0 d,bA l [(υ P)] 4,bA k [(υ O)] 4]) [eH f yr.1 d,bA l [(υ yr.2.1)] 4,bA k [(υ yr.2.2)] 4] c1):CR Tryz.prog 290 [(Θ (.yield f) #[] #[]),(φ (dH i)),(φ (dH g)),(φ (dH e))] w λv w'=>v=(Value.tuple #[])/\Hp w (eK [eH f 0 d,bA l [(υ r)] 4,bA k [(υ z)] 4,bA i [(str a)] 9,bA g [(str c)] 9,bA e [(Δ .i64 m)] 3]) [bA l [(υ u.1)] 4,bA k [(υ u.2.1)] 4,bA i [(str a)] 9,bA g [(str u.2.2.1)] 9,bA e [(Δ .i64 m)] 3,eH f u.2.2.2 d] w':=by
 have hH:=hM;refine MD Tryz.func290 rfl rfl (aZ rfl) ?_;unfold adf at F;refine bi F λc4 x F=>HS hH c4 [0,1,2,3] (λc3=>[]) ?_ ?_;refine sr (nX hH 3 i 0 _ 9 _ rfl rfl aK aK (wp 2 (nq (cd x (λc6 x=> ?_) (λc6 x=> ?_)))));refine bi x λd1 b1 x=>jF hH [0,1,2,3] [] ?_ ?_;refine ce (LC (λT _=>acl fu c T) () hH b1 [0,1,2,3] (λ(_:Unit)=>[]) (λ_=>rfl) ?_);rintro T _ d0 G S A;rw[aqz,aec]at A;refine cs (sr (nX S 4 g 0 _ 9 _ rfl rfl aK aK (wp 2 (nq (cd A (λc5 A=> ?_) (λc5 A=> ?_))))));exact absurd A aA3;refine wI (vH (wJ (wH (ql ?_))));obtain rfl:=oi A;exact je (Hp.front (Hp.front (Hp.front (Hp.front (Hp.front (Hp.front S 5 _ rfl) 5 _ rfl) 5 _ rfl) 5 _ rfl) 5 _ rfl) 5 _ rfl).kp;intro c9 G b3;refine ct (vG ?_);obtain rfl:=oi x;obtain rfl:=oi F;refine Mj rfl ?_;exact⟨pD,(Hp.front (Hp.front (Hp.front (Hp.front (Hp.front b3 5 _ rfl) 5 _ rfl) 5 _ rfl) 5 _ rfl) 5 _ rfl).kp⟩;refine ck (ql ?_);obtain rfl:=oi x;exact jw rfl (Hp.front (Hp.front (Hp.front (Hp.front (Hp.front (Hp.front hH 5 _ rfl) 5 _ rfl) 5 _ rfl) 5 _ rfl) 5 _ rfl) 5 _ rfl).kp;rintro c3 c8 G b2 rfl;refine bi F λR X F=>cut (σ:=(η×η×aC)) [0,2] (λj=>[]) (λj w'=>Hp w (eK [eH f 0 d,bA l [(υ r)] 4,bA k [(υ z)] 4,bA i [(str a)] 9,bA g [(str c)] 9,bA e [(Δ .i64 m)] 3]) [eH f 0 d,bA l [(υ j.1)] 4,bA k [(υ j.2.1)] 4,bA i [(str a)] 9,bA g [(str j.2.2)] 9,bA e [(Δ .i64 m)] 3] w'/\.inl j=R) ?_ ?_;refine ce (CM (σ:=Nat×η×η×aC) [0,1,2,3] (λ⟨q,o,n,h⟩=>[]) (λ⟨q,o,n,h⟩ w'=>Hp w (eK [eH f 0 d,bA l [(υ r)] 4,bA k _ 4,bA i _ 9,bA g _ 9,bA e _ 3]) [eH f 0 d,bA l [(υ o)] 4,bA k [(υ n)] 4,bA i [(str a)] 9,bA g [(str h)] 9,bA e [(Δ .i64 m)] 3] w'/\abt fu a m q o n h=θ R) (λ⟨q,o,n,h⟩=>q) (fu,r,z,c) (by exact⟨(Hp.front (Hp.front (Hp.front (Hp.front (Hp.front (Hp.front b2 5 _ rfl) 5 _ rfl) 5 _ rfl) 5 _ rfl) 5 _ rfl) 5 _ rfl).kp,X⟩) ?_);rintro⟨_|q,o,n,h⟩ b0 G ⟨C,t⟩
 ·exact absurd (show ι=θ _ from t) aA3
 rw[adx,abr]at t;refine ce (sr (nX C 4 g 0 _ 9 _ rfl rfl aK aK (nX C 3 i 0 _ 9 _ rfl rfl aK aK (gi t λc0 t=>wK 31 #[] [(str h),(str a)] _ sj aK aK (Lp h a b0 c0 (hG.hp C hS)) ?_))));rintro _ a9 ⟨rfl,K⟩;have B:=C.call K;clear K;refine wp 1 (nq (cs (sr (wp 2 (nq (cd t (λb5 t=> ?_) (λb5 t=> ?_)))))));refine wI (vH (MP aK (wJ (wH (ql ?_)))));obtain rfl:=oi t;exact⟨(o,n,h),_,rfl,by kernel_rfl,(Hp.front (Hp.front (Hp.front (Hp.front (Hp.front (Hp.front B 5 _ rfl) 5 _ rfl) 5 _ rfl) 5 _ rfl) 5 _ rfl) 5 _ rfl).kp,rfl⟩;refine ck (qn (sr (nX B 4 g 0 _ 9 _ rfl rfl aK aK (wp 1 (nX B 5 e 0 _ 3 _ rfl rfl aK aK (gi t λb9 t=>rA _ m aK aK b9 (gi t λb8 t=> ?_)))))));refine JQ h .i64 _ Tryz.underlying9 aK aK b8 (wp 1 (nq (cs (sr (wp 2 (bi t λp W t=> ?_))))));have a2:=B.front 2 _ rfl;have a1:=a2.front 2 _ rfl;have N:=a1.front 2 _ rfl;have a4:=Hp.FT (L1:=[eH f 0 d,bA l _ 4,bA k _ 4]) (L2:=(Zz9 i a g h e m)) N;refine Jh f _ _ aK aK (U _ o n a9 a4 p W) ?_;rintro _ a8 ⟨rfl,J⟩;have y:Hp w (eK [eH f 0 d,bA l [(υ r)] 4,bA k [(υ z)] 4,bA i [(str a)] 9,bA g [(str c)] 9,bA e [(Δ .i64 m)] 3]) [eH f p.1 d,bA l [(υ p.2.1)] 4,bA k [(υ p.2.2)] 4,bA i [(str a)] 9,bA g [(str h)] 9,bA e [(Δ .i64 m)] 3] a8:=Hp.eG (L1:=[eH f 0 d,bA l [(υ o)] 4,bA k [(υ n)] 4]) (L2:=(Zz9 i a g h e m)) N J;clear J;by_cases E:p.1=0;replace t:=QS E t;rw[E]at y;rw[show decide (p.1=0)=μ from(aD E)];refine wp 1 (nq (mr aK (ck (qn (cr (nX y 4 g 0 _ 9 _ rfl rfl aK aK (wp 1 (nX y 3 i 0 _ 9 _ rfl rfl aK aK ?_))))))));refine wp 1 (gi t λb7 t=>rA _ _ aK aK b7 (gi t λb6 t=>oO h .i64 _ Tryz.underlying9 aK aK b6 (lO y 4 g 0 _ 9 (str (List.drop (Ι ((Lib.index h a)+γ a)) h)) _ rfl (cQ (bW _) (aZ rfl)) aK aK rfl aK rfl λc7 a0=>wl (bn (ql ?_)))));exact⟨(q,p.2.1,p.2.2,List.drop _ h),_,rfl,by kernel_rfl,⟨(Hp.front (Hp.front (Hp.front (Hp.front (Hp.front (Hp.front a0 5 _ rfl) 5 _ rfl) 5 _ rfl) 5 _ rfl) 5 _ rfl) 5 _ rfl).kp,t⟩,bW _⟩;replace t:=QT E t;rw[show decide (p.1=0)=ν from(aE E)];refine wp 1 (nq (tG aK (ct (st (lD (vG (lD (vG ?_))))))));obtain rfl:=oi t;obtain rfl:=oi F;refine Mj rfl ?_;exact⟨pD,(Hp.front (Hp.front (Hp.front (Hp.front (Hp.front y 5 _ rfl) 5 _ rfl) 5 _ rfl) 5 _ rfl) 5 _ rfl).kp⟩;rintro j a7 G ⟨M,rfl⟩;refine cr (wp 1 (nX M 4 g 0 _ 9 _ rfl rfl aK aK (bi F λs V F=> ?_)));have Z:=M.front 2 _ rfl;have Y:=Z.front 2 _ rfl;have L:=Y.front 2 _ rfl;have a3:=Hp.FT (L1:=[eH f 0 d,bA l _ 4,bA k _ 4]) (L2:=(Zz9 i a g j.2.2 e m)) L;refine Jh f _ _ aK aK (U j.2.2 j.1 j.2.1 a7 a3 s V) ?_;rintro _ a6 ⟨rfl,I⟩;have H:Hp w (eK [eH f 0 d,bA l [(υ r)] 4,bA k [(υ z)] 4,bA i [(str a)] 9,bA g [(str c)] 9,bA e [(Δ .i64 m)] 3]) [eH f s.1 d,bA l [(υ s.2.1)] 4,bA k [(υ s.2.2)] 4,bA i [(str a)] 9,bA g [(str j.2.2)] 9,bA e [(Δ .i64 m)] 3] a6:=Hp.eG (L1:=[eH f 0 d,bA l [(υ j.1)] 4,bA k [(υ j.2.1)] 4]) (L2:=(Zz9 i a g j.2.2 e m)) L I;clear I;by_cases D:s.1=0;replace F:=QS D F;rw[D]at H;rw[show decide (s.1=0)=μ from(aD D)];refine wl ?_;obtain rfl:=oi F;refine uD rfl ?_;exact⟨pD,(Hp.front (Hp.front (Hp.front (Hp.front (Hp.front H 5 _ rfl) 5 _ rfl) 5 _ rfl) 5 _ rfl) 5 _ rfl).kp⟩;replace F:=QT D F;rw[show decide (s.1=0)=ν from(aE D)];refine wl ?_;obtain rfl:=oi F;refine uD rfl ?_;exact⟨pD,(Hp.front (Hp.front (Hp.front (Hp.front (Hp.front H 5 _ rfl) 5 _ rfl) 5 _ rfl) 5 _ rfl) 5 _ rfl).kp⟩
theorem Ck(q:aqr fu a=θ r)(R:Gl w):CR Tryz.prog 210 [(str a)] w λv w'=>v=(υ r)/\Hp w [] [] w':=by
 have hH:=Hp.refl w;refine MC Tryz.func210 rfl rfl (aZ rfl) ?_;unfold aqr at q;refine sr (lH hH [(υ ν)] 4 (λb=>(φ (dH b))) rfl rfl aK λz w2 c2=>nq (cs (bi q λv8 K q=>jF c2 [0,2,14] [(14,(υ v8))] ?_ ?_)));refine cr (wp 3 (wd K (λh9 K=> ?_) (λh9 K=> ?_)));refine wp 4 (wl (ql ?_));obtain rfl:=oi K;exact je c2.kp;refine wp 4 (wl (ql ?_));obtain rfl:=oi K;exact je c2.kp;intro i0 G W;refine cb q (λf7 q=> ?_) (λf7 q=> ?_);refine sr (lO W 0 z 0 _ 4 (υ ν) _ rfl (cQ (bW _) (aZ rfl)) aK aK rfl aK rfl λh8 V=>nq (ct (st ?_)));obtain rfl:=oi q;refine Nd _ [(υ ν)] (υ ν) rfl rfl (Rs (Yy V 0 z 4 _ rfl aK aK) ay) rfl ?_;exact⟨pD,V.kp⟩;refine ck (qn (sr (lH W [(υ ν)] 4 (λb=>(φ (dH b))) rfl rfl aK λi h7 d5=>lO d5 0 i 0 _ 4 (υ ν) _ rfl (cQ (bW _) (aZ rfl)) aK aK rfl aK rfl λh6 U=>nq (cs (cs ?_)))));refine cr (wp 1 (bi q λl d3 q=>wK 252 #[] [(str a),(str _)] _ ent252 aK aK (tN d3 (R.jD U)) ?_));rintro _ f5 ⟨J,I,H,rfl,T⟩
 have d4:Hp w [] [bA J [(str l.1)] 9,bA I [(str l.2.1)] 9,bA H [(Δ .i64 l.2.2)] 3,bA i [(υ ν)] 4,bA z [(υ ν)] 4] f5:=Hp.eG (L1:=[]) (L2:=[bA i [(υ ν)] 4,bA z [(υ ν)] 4]) U T;clear T;refine nq (ce (tH d4 290 [(φ (dH J)),(φ (dH I)),(φ (dH H))] aK zv λA s k d0 a5 a4 a3 a2 c5=>bi q λg Y q=> ?_));have b4:=c5.front 4 _ rfl;have b3:=b4.front 4 _ rfl;have b2:=b3.front 4 _ rfl;have b0:=b2.front 6 _ rfl;have a9:=b0.front 6 _ rfl;have n:=a9.front 5 _ rfl;have f2:∀f u t w_,Hp d0 (eK [eH s 0 k,bA i [(υ ν)] 4,bA z [(υ ν)] 4,bA J [(str l.1)] 9,bA I [(str l.2.1)] 9,bA H [(Δ .i64 l.2.2)] 3]) [eH s 0 k,bA i [(υ u)] 4,bA z [(υ t)] 4] w_->∀X,ox fu f u t=θ X->YR Tryz.prog s [(str f)] w_ λv f3=>v=υ (decide (X.1=0))/\Hp w_ (eK [eH s 0 k,bA i [(υ u)] 4,bA z [(υ t)] 4]) [eH s X.1 k,bA i [(υ X.2.1)] 4,bA z [(υ X.2.2)] 4] f3:=by
  intro f u t c9 y X B;have O:=Hp.eG n y;have d6:=R;replace R:=R.jD O;have a6:=Hp.sR O d6 (λ_ h=>absurd h aA3) 3 rfl;unfold ox at B;refine Kj (Hp.hand (L2:=[]) (by simpa using y)) 0 rfl a5 a4 a3 a2 rfl ?_;have hH:=Hp.hand (L2:=[]) (by simpa using y);clear O y;refine cr (wp 1 (wl (Ql hH 0 rfl λh5 p=>ce (cs (bi B λd2 c B=>jF p [2,3,4,38] [(38,(υ d2))] ?_ ?_)))));refine cr (wp 3 (wd c (λe5 c=> ?_) (λe5 c=> ?_)));refine wp 17 (wl (ql ?_));obtain rfl:=oi c;exact je (Hp.front (Hp.front (Hp.front p 2 _ rfl) 2 _ rfl) 2 _ rfl).kp;refine wp 4 (wd c (λe4 c=> ?_) (λe4 c=> ?_));refine wp 12 (wl (ql ?_));obtain rfl:=oi c;exact je (Hp.front (Hp.front (Hp.front p 2 _ rfl) 2 _ rfl) 2 _ rfl).kp;refine wp 1 (gy 26 (gi c λf1 c=>na f .i64 0 Tryz.underlying9 aK aK f1 (gy 26 (rK (at_ f 0) 45 aK aK (wp 1 (wd c (λe3 c=> ?_) (λe3 c=> ?_)))))));refine wp 7 (wl (ql ?_));obtain rfl:=oi c;exact je (Hp.front (Hp.front (Hp.front p 2 _ rfl) 2 _ rfl) 2 _ rfl).kp;refine wp 3 (gy 31 (gi c λf0 c=>tW (γ f) _ aK aK f0 (gy 31 (gi c λe9 c=>na f .i64 _ Tryz.underlying9 aK aK e9 (gy 31 (rK (at_ f (γ f-1)) 45 aK aK (wp 1 ?_)))))));refine wl (ql ?_);obtain rfl:=oi c;exact je (Hp.front (Hp.front (Hp.front p 2 _ rfl) 2 _ rfl) 2 _ rfl).kp;intro h4 G N;refine cb B (λe2 B=> ?_) (λe2 B=> ?_);refine sr (lO N 2 z 0 _ 4 (υ ν) _ rfl (cQ (bW _) (aZ rfl)) aK aK rfl aK rfl λh3 c4=>nq (ct (st (lD ?_))));obtain rfl:=oi B;refine OV c4 0 rfl λh2 c3=> ?_;exact⟨aC5,(Hp.front (Hp.front (Hp.front c3 2 _ rfl) 2 _ rfl) 2 _ rfl).kp⟩;refine ck (qn (sr (wp 3 (nq (ce (CM (σ:=Nat×Int×η) [2,3,4,40,41] (λ⟨j,e,m⟩=>[(41,(Δ .i64 e))]) (λ⟨j,e,m⟩ w'=>Hp c9 (eK [eH s 0 k,bA i [(υ u)] 4,bA z _ 4]) [Ni s k,bA i [(υ m)] 4,bA z [(υ t)] 4] w'/\pd fu f t j e m=θ X) (λ⟨j,e,m⟩=>j) (fu,(0:Int),u) (by exact⟨(Hp.front (Hp.front (Hp.front N 2 _ rfl) 2 _ rfl) 2 _ rfl).kp,B⟩) ?_))))));rintro⟨_|j,e,m⟩ h1 G ⟨x,b1⟩
  ·exact absurd (show ι=θ _ from b1) aA3
  rw[aos,agr]at b1;refine sr (wp 1 (nq (cs (cd b1 (λe1 b1=> ?_) (λe1 b1=> ?_)))));refine ck (qn (cs (ce (sr (wp 2 (nq (cs ?_)))))));refine cr (wp 2 (gi b1 λe8 b1=>na f .i64 e Tryz.underlying9 aK aK e8 (wp 1 (nq (cs (bi b1 λd1 d b1=>jF x [2,3,4,6,40,41,58] [(58,(υ d1))] ?_ ?_))))));refine cr (wp 1 (bi d λf9 a1 d=>wc ent253 x (yN a1 (R.hp x a6)) λh0 F=>wp 1 (wb d (λe0 d=> ?_) (λe0 d=> ?_))));refine wp 1 (gy 50 (bi d λf8 a0 d=>wc U9 F (bkd a0 (R.hp F a6)) λg9 M=>wp 2 (wb d (λd9 d=> ?_) (λd9 d=> ?_))));refine wp 1 (gy 55 (Cy (at_ f e) 45 aK aK (wp 1 (wl (ql ?_)))));obtain rfl:=oi d;exact je (Hp.front (Hp.front (Hp.front M 2 _ rfl) 2 _ rfl) 2 _ rfl).kp;refine wp 3 (wl (ql ?_));obtain rfl:=oi d;exact je (Hp.front (Hp.front (Hp.front M 2 _ rfl) 2 _ rfl) 2 _ rfl).kp;refine wp 8 (wl (ql ?_));obtain rfl:=oi d;exact je (Hp.front (Hp.front (Hp.front F 2 _ rfl) 2 _ rfl) 2 _ rfl).kp;intro g8 G o;refine cb b1 (λd8 b1=> ?_) (λd8 b1=> ?_);refine sr (lO o 2 z 0 _ 4 (υ ν) _ rfl (cQ (bW _) (aZ rfl)) aK aK rfl aK rfl λg7 c1=>nq (ct (st (lD (st (vG ?_))))));refine lD (lD ?_);obtain rfl:=oi b1;refine OV c1 0 rfl λg6 c0=> ?_;exact⟨aC5,(Hp.front (Hp.front (Hp.front c0 2 _ rfl) 2 _ rfl) 2 _ rfl).kp⟩;refine ck (qn (cr (nX o 1 i 0 _ 4 _ rfl rfl aK aK (wb b1 (λd7 b1=> ?_) (λd7 b1=> ?_)))));refine wp 4 (lO o 1 i 0 _ 4 (υ μ) _ rfl (cQ (bW _) (aZ rfl)) aK aK rfl aK rfl λg5 b9=>wl (bn (qn (cr (gi b1 λe7 b1=>rA e _ aK aK e7 (wp 1 (wl ?_)))))));refine ql ?_;exact⟨(j,e+1,μ),_,rfl,by kernel_rfl,⟨(Hp.front (Hp.front (Hp.front b9 2 _ rfl) 2 _ rfl) 2 _ rfl).kp,b1⟩,bW _⟩;refine wp 1 (gy 60 (bi b1 λS Z b1=>wc U9 o (bkd Z (R.hp o a6)) λg4 b8=>wp 2 (lO b8 1 i 0 _ 4 (υ (!S)) _ rfl (cQ (bW _) (aZ rfl)) aK aK rfl aK rfl λg3 b7=>wl (bn (qn (cr ?_))))));refine gi b1 λe6 b1=>rA e _ aK aK e6 (wp 1 (wl (ql ?_)));exact⟨(j,e+1,(!S)),_,rfl,by kernel_rfl,⟨(Hp.front (Hp.front (Hp.front b7 2 _ rfl) 2 _ rfl) 2 _ rfl).kp,b1⟩,bW _⟩;refine wI (vH (wJ (wH (bn ?_))));obtain rfl:=oi b1;refine oW x 0 rfl λg2 b6=> ?_;exact⟨aC5,(Hp.front (Hp.front (Hp.front b6 2 _ rfl) 2 _ rfl) 2 _ rfl).kp⟩
 refine CR.mono (auq s k i z J I H Y (R.jD n) (n.hand) (n.sR R (λ_ h=>absurd h aA3) 6 rfl) f2) ?_;rintro _ c8 ⟨rfl,L⟩;have b5:Hp w [] [bA i [(υ g.1)] 4,bA z [(υ g.2.1)] 4,bA J [(str l.1)] 9,bA I [(str g.2.2.1)] 9,bA H [(Δ .i64 l.2.2)] 3,eH s g.2.2.2 k,HP A] c8:=Hp.eG (L1:=[eH s 0 k,bA i [(υ ν)] 4,bA z [(υ ν)] 4,bA J [(str l.1)] 9,bA I [(str l.2.1)] 9,bA H [(Δ .i64 l.2.2)] 3]) (L2:=[HP A]) n L;clear L;have a8:=b5.front 5 _ rfl;refine⟨g.2.2.2,[bA i _ 4,bA z _ 4,bA J _ 9,bA I _ 9,bA H _ 3,HP A],a8, ?_⟩;intro g1 E;by_cases Q:g.2.2.2=0;replace q:=QS Q q;refine rg0 Q (bn (qn (sr (nX E 0 i 0 _ 4 _ rfl rfl aK aK (lO E 1 z 0 _ 4 (υ g.1) _ rfl (cQ (bW _) (aZ rfl)) aK aK rfl aK rfl λg0 a7=>nq (ct ?_))))));obtain rfl:=oi q;refine AF a7 5 A rfl _ [(υ g.1)] (υ g.1) rfl rfl (λc7 D=>(Rs (Yy D 1 z 4 _ rfl aK aK) ay)) rfl λc7 D=> ?_;exact⟨pD,D.kp⟩;replace q:=QT Q q;by_cases P:g.2.2.2=1;replace q:=QS P q;refine rg1 P (ct (lD (st ?_)));obtain rfl:=oi q;refine AF E 5 A rfl _ _ (υ g.2.1) rfl rfl (λc6 C=>(Rs (Yy C 1 z 4 _ rfl aK aK) ay)) rfl λc6 C=> ?_;exact⟨pD,C.kp⟩;replace q:=QT P q;exact absurd q aA3
noncomputable def Ej(fu:Nat):=kl Tryz.func210 ⟨[.s'],[.r' (.b')],λx=>.one (aqr fu x)⟩ (SD (λx=>[str x]) (λy=>.bool y) λw S x y b a=>Ck a b.1)
section
variable(fu:Nat)
noncomputable def apv:=kf fu Tryz.func164 [ov fu,Ay fu,xR fu,Ej fu] [.s'] [.r' (.s'),.r' (.b')] (λx=>bm fu x) (nqQ (.s' (.j' [.s' 21 (.b')] [0,2,3,8] .n' .n') .n'))
noncomputable def bab:=kf fu Tryz.func165 [] [.s'] [.r' iqQ,.r' (.c')] (λx=>tw fu x) (nqQ (.s' (.j' [.s' 13 (.b')] [0,2,3] .n' .n') (nqQ (.r' [.s' 4 iqQ] [] (nqQ (.l' [.s' 4 iqQ,.s' 16 iqQ] (nqQ (nqQ (.s' (nqQ (.s' (.j' [.s' 28 (.b')] [0,1,2,3,4] .n' .n') .n')) .n'))))) .n'))))
noncomputable def bkt:=kf fu Tryz.func264 [apv fu,bab fu,akb,pc fu,akk fu,ait fu,bah fu,bhr fu] [.p' 207 (.pr (.w' .s') iqQ),.p' 146 (.pr .s' (.pr .s' (.pr .s' (.pr iqQ (.pr dJ dJ)))))] [.r' iqQ,.r' (.c'),.o' 0 207 (.pr (.w' .s') iqQ),.o' 1 146 (.pr .s' (.pr .s' (.pr .s' (.pr iqQ (.pr dJ dJ)))))] (λx=>amh fu x.1 x.2) (nqQ (.r' [.o' 0 1 iqQ,.o' 1 1 (.s')] [] .n' (nqQ (nqQ (.j' [.s' 11 iqQ] [] .n' (nqQ (nqQ (nqQ (.s' (nqQ (.s' (nqQ (nqQ (nqQ (.j' [.s' 15 (.c')] [] (.j' [.s' 167 (.b')] [0,1,2] .n' .n') .n')))) .n')) (.s' (.j' [.s' 192 (.b')] [0,2,3,8] .n' .n') .n'))))))))))
noncomputable def bjo:=kf fu Tryz.func265 [pc fu,ait fu,qM] [.p' 207 (.pr (.w' .s') iqQ),.p' 146 (.pr .s' (.pr .s' (.pr .s' (.pr iqQ (.pr dJ dJ)))))] [.r' iqQ,.r' (.c'),.o' 0 207 (.pr (.w' .s') iqQ),.o' 1 146 (.pr .s' (.pr .s' (.pr .s' (.pr iqQ (.pr dJ dJ)))))] (λx=>akp fu x.1 x.2) (nqQ (nqQ (nqQ (nqQ (nqQ (.j' [.s' 8 (.l' 5 1 .c'),.o' 0 1 iqQ] [] .n' (.r' [.s' 8 (.l' 5 1 .c'),.o' 0 1 iqQ] [] (.l' [.s' 8 (.l' 5 1 .c'),.o' 0 1 iqQ] (nqQ (.r' [.s' 8 (.l' 5 1 .c')] [] (nqQ (.j' [.s' 58 (.b')] [] (.j' [.s' 58 (.b')] [0,1,2,6] .n' .n') (nqQ (.j' [.s' 79 (.b')] [0,1,2,6,10,14] .n' .n')))) .n'))) .n')))))))
noncomputable def bag:=kf fu Tryz.func245 [] [.pr .s' (.pr .s' .b'),.p' 9 .s'] [.r' (.b')] (λx=>awp fu x.1 x.2) (.n')
noncomputable def atb:=kf fu Tryz.func268 [bag fu] [.r' lC,.f' 245 (.p' 9 .s')] [.r' iqQ] (λx=>aes fu x.1 x.2) (nqQ (.r' [] [] (nqQ (.l' [.s' 8 iqQ] .n')) .n'))
noncomputable def aqy:=kf fu Tryz.func244 [bag fu,atb fu] [.r' lC,.f' 245 (.p' 9 .s')] [.r' (.b')] (λx=>aed fu x.1 x.2) (.n')
noncomputable def bdy:=kf fu Tryz.func201 [aqy fu,bag fu] [.r' lC,.s'] [.r' (.b')] (λx=>aqt fu x.1 x.2) (.n')
noncomputable def qB:=kf fu Tryz.func213 [bdy fu] [.r' lC,.s'] [.r' (.c')] (λx=>asz fu x.1 x.2) (.n')
noncomputable def bku:=kf fu Tryz.func266 [akb,ov fu,qB fu,bah fu,bhr fu] [.p' 207 (.pr (.w' .s') iqQ),.l' 193 40 lC,.i' .i64,.i' .i64] [.r' dJ,.r' iqQ,.r' (.c'),.o' 0 207 (.pr (.w' .s') iqQ)] (λx=>aic fu x.1 x.2.1 x.2.2.1 x.2.2.2) (nqQ (nqQ (nqQ (nqQ (.j' [.s' 13 iqQ] [] .n' (nqQ (nqQ (nqQ (nqQ (.r' [.o' 0 1 iqQ,.o' 16 1 (.s')] [] (nqQ (.s' (nqQ (nqQ (.s' (.j' [.s' 94 (.b')] [0,2,4,5,6] .n' .n') .n'))) .n')) .n'))))))))))
noncomputable def vC:=kf fu Tryz.func247 [] [.s'] [.r' (.b')] (λx=>aul fu x) (.n')
noncomputable def bde:=kf fu Tryz.func205 [vC fu] [.s',.s'] [.r' iqQ] (λx=>aph fu x.1 x.2) (.n')
noncomputable def arn:=kf fu Tryz.func204 [bde fu] [.pr .s' (.pr .s' .b'),.pr .s' (.pr .s' .b')] [.r' iqQ] (λx=>auo fu x.1 x.2) (.n')
noncomputable def aeo:=kf fu Tryz.func269 [arn fu] [.l' 193 40 lC,.i' .i64,.i' .i64,.f' 204 .u'] [.w' 0 dJ] (λx=>aau fu x.1 x.2.1 x.2.2.1) (nqQ (.l' [.w' 0 dJ,.s' 8 iqQ] (nqQ (.j' [.w' 0 dJ] [] (nqQ (.l' [.w' 0 dJ,.s' 9 iqQ] (.s' (.j' [.s' 34 (.b')] [] .n' .n') .n'))) .n'))))
noncomputable def aga:=kf fu Tryz.func246 [arn fu,aeo fu] [.l' 193 40 lC,.i' .i64,.f' 204 .u'] [.w' 0 dJ] (λx=>acf fu x.1 x.2.1) (nqQ (nqQ (.j' [.w' 0 dJ,.s' 7 iqQ] [] (.l' [.w' 0 dJ,.s' 7 iqQ,.s' 8 iqQ] .n') (nqQ (.l' [.w' 0 dJ,.s' 6 iqQ] (.s' (nqQ (.z' .n')) .n'))))))
noncomputable def aok:=kf fu Tryz.func203 [arn fu,aga fu] [.l' 193 40 lC,.f' 204 .u'] [.w' 0 dJ] (λx=>aay fu x.1) (.n')
noncomputable def bci:=kf fu Tryz.func161 [FR,aok fu,arn fu] [.r' lC] [.r' dJ] (λx=>oq fu x) (.n')
noncomputable def El:=kf fu Tryz.func239 [bci fu,akb,pc fu,ov fu,akk fu,ait fu,bkt fu,bjo fu,bku fu] [.s'] [.r' (.pr .s' (.pr .s' (.pr .s' (.pr iqQ (.pr dJ dJ))))),.r' iqQ,.r' (.c')] (λx=>avl fu x) (nqQ (nqQ (nqQ (nqQ (nqQ (nqQ (nqQ (nqQ (.j' [.s' 8 iqQ,.s' 9 (.c'),.s' 10 (.s'),.o' 27 0 (.s'),.o' 27 1 iqQ,.o' 7 0 (.s'),.o' 7 1 (.s'),.o' 7 2 (.s'),.o' 7 3 iqQ,.o' 7 4 dJ,.o' 7 5 dJ] [] (nqQ (.j' [.s' 35 (.b')] [] .n' .n')) (.j' [.s' 8 iqQ,.s' 9 (.c'),.o' 6 0 (.s'),.o' 6 1 iqQ,.o' 7 4 dJ] [] (.l' [.s' 8 iqQ,.s' 9 (.c'),.o' 6 0 (.s'),.o' 6 1 iqQ,.o' 7 4 dJ] (.s' (.j' [.s' 55 (.b')] [0,1,2] .n' .n') .n')) (.j' [.s' 8 iqQ,.s' 9 (.c'),.o' 6 0 (.s'),.o' 6 1 iqQ,.o' 7 5 dJ] [] (.l' [.s' 8 iqQ,.s' 9 (.c'),.o' 6 0 (.s'),.o' 6 1 iqQ,.o' 7 5 dJ] (.s' (.j' [.s' 88 (.b')] [0,1,2] .n' .n') .n')) .n')))))))))))
noncomputable def bjn:=kf fu Tryz.func196 [pc fu,ait fu,El fu] [.p' 207 (.pr (.w' .s') iqQ),.p' 148 (.pr .s' (.pr (.pr .s' (.pr .s' (.pr .s' (.pr iqQ (.pr dJ dJ))))) dJ))] [.r' iqQ,.r' (.c'),.o' 0 207 (.pr (.w' .s') iqQ),.o' 1 148 (.pr .s' (.pr (.pr .s' (.pr .s' (.pr .s' (.pr iqQ (.pr dJ dJ))))) dJ))] (λx=>ahl fu x.1 x.2) (nqQ (nqQ (.r' [.s' 6 iqQ,.s' 7 iqQ,.s' 8 iqQ] [] .n' .n')))
noncomputable def bjp:=kf fu Tryz.func212 [apv fu,bdx fu,agl fu,pc fu,ov fu,bai fu,ait fu] [.p' 207 (.pr (.w' .s') iqQ)] [.r' lC,.r' iqQ,.r' (.c'),.o' 0 207 (.pr (.w' .s') iqQ)] (λx=>akq fu x) (.n')
noncomputable def bcj:=kf fu Tryz.func166 [agl fu,pc fu,akk fu,bjp fu,qB fu] [.s'] [.r' dJ,.r' iqQ,.r' (.c')] (λx=>ajz fu x) (nqQ (nqQ (nqQ (.l' [.s' 6 dJ,.o' 5 0 (.s'),.o' 5 1 iqQ] (nqQ (nqQ (nqQ (nqQ (nqQ (nqQ (nqQ (.j' [.s' 9 iqQ,.s' 10 (.c')] [] .n' .n'))))))))))))
noncomputable def bkw:=kf fu Tryz.func158 [bcj fu,agl fu,pc fu,bey fu,bfy,bge fu,bjn fu] [.s'] [.r' (.pr .s' (.pr (.pr .s' (.pr .s' (.pr .s' (.pr iqQ (.pr dJ dJ))))) dJ)),.r' iqQ,.r' (.c')] (λx=>amj fu x) (nqQ (nqQ (nqQ (nqQ (nqQ (nqQ (.j' [.s' 7 iqQ,.s' 8 (.c'),.o' 16 0 (.s'),.o' 16 1 iqQ,.o' 6 0 (.s'),.o' 6 1 (.s'),.o' 6 2 (.s'),.o' 6 3 (.s'),.o' 6 4 iqQ,.o' 6 5 dJ,.o' 6 6 dJ,.o' 6 7 dJ] [] .n' (.j' [.s' 7 iqQ,.s' 8 (.c'),.o' 5 0 (.s'),.o' 5 1 iqQ,.o' 6 0 (.s'),.o' 6 1 (.s'),.o' 6 2 (.s'),.o' 6 3 (.s'),.o' 6 4 iqQ,.o' 6 5 dJ,.o' 6 6 dJ,.o' 6 7 dJ] [] .n' (.j' [.s' 7 iqQ,.s' 8 (.c'),.o' 6 7 dJ] [] .n' .n')))))))))
noncomputable def Aw:=kf fu Tryz.func125 [aol fu,bkw fu] [.s'] [.r' (.pr .s' (.pr (.pr .s' (.pr .s' (.pr .s' (.pr iqQ (.pr dJ dJ))))) dJ)),.r' (.c')] (λx=>ayh fu x) (.n')
noncomputable def biu:=kf fu Tryz.func134 [avc fu] [.s'] [.r' (.s'),.r' (.c')] (λx=>awk fu x) (nqQ (nqQ (nqQ (.r' [.s' 4 (.l' 5 1 .c')] [] (nqQ (.l' [.s' 4 (.l' 5 1 .c'),.s' 16 iqQ] (nqQ (nqQ (.s' (nqQ (nqQ (nqQ (.j' [.s' 4 (.l' 5 1 .c')] [] (.j' [.s' 29 (.b')] [0,1,2] .n' .n') .n')))) .n'))))) .n'))))
noncomputable def nO:=kf fu Tryz.func240 [bhq fu] [.s'] [.r' (.b')] (λx=>aqu fu x) (nqQ (.r' [] [] (nqQ (.l' [.s' 6 iqQ] .n')) .n'))
noncomputable def Ba:=kf fu Tryz.func241 [bek,asi fu] [.s'] [.r' (.b')] (λx=>ayj fu x) (nqQ (nqQ (.s' (.j' [.s' 18 (.b')] [0,1,2] .n' .n') (.r' [] [] (nqQ (.l' [.s' 21 iqQ] (nqQ (nqQ (.s' (nqQ (nqQ (.j' [.s' 40 (.b')] [0,2,3] .n' .n'))) .n'))))) .n'))))
noncomputable def Az:=kf fu Tryz.func242 [bci fu,ov fu,bdy fu,nO fu] [.r' lC,.i' .i64] [.r' dJ,.r' (.b')] (λx=>asq fu x.1 x.2) (nqQ (nqQ (nqQ (.r' [.s' 6 dJ] [] (nqQ (.l' [.s' 6 dJ,.s' 14 iqQ] (nqQ (nqQ (.s' (nqQ (nqQ (.s' (.j' [.s' 42 (.b')] [0,2,3,9,15] .n' .n') (.s' (.j' [.s' 61 (.b')] [0,1,2,7] .n' .n') .n')))) .n'))))) .n'))))
noncomputable def Bb:=kf fu Tryz.func197 [apv fu,ov fu,nO fu,Ba fu,Az fu] [.pr .s' (.pr .s' (.pr .s' (.pr iqQ (.pr (.r' lC) (.r' lC)))))] [.r' (.pr .s' (.pr .s' (.pr .s' (.pr iqQ (.pr dJ dJ))))),.r' (.c')] (λx=>ayk fu x) (nqQ (nqQ (nqQ (.j' [.s' 5 (.b'),.o' 4 2 (.s')] [] (nqQ (.j' [.s' 20 (.b')] [] .n' .n')) (nqQ (nqQ (.s' (.j' [.s' 88 (.b')] [0,1,2,6] .n' .n') .n')))))))
noncomputable def arc:=kf fu Tryz.func90 [Ax] [.p' 112 (.pr .z' (.l' 5 1 .c')),.s'] [.r' iqQ,.r' (.o' 2),.o' 0 112 (.pr .z' (.l' 5 1 .c'))] (λx=>CP fu x.1 x.2) (.n')
noncomputable def Bc:=kf fu Tryz.func198 [bhp fu] [.s',.i' .i64] [.r' (.s')] (λx=>y6 fu x.1 x.2) (nqQ (nqQ (.j' [.s' 5 (.l' 5 1 .c')] [] (nqQ (.l' [.s' 5 (.l' 5 1 .c'),.s' 12 iqQ] .n')) .n')))
noncomputable def bew:=kf fu Tryz.func199 [Ax] [.p' 112 (.pr .z' (.l' 5 1 .c')),.c'] [.r' (.o' 2),.o' 0 112 (.pr .z' (.l' 5 1 .c'))] (λx=>aez fu x.1 x.2) (.n')
noncomputable def Ek:=kf fu Tryz.func159 [azy,arc fu,nN,Bb fu,Bc fu,bew fu] [.pr .s' (.pr .s' (.pr .s' (.pr iqQ (.pr (.r' lC) (.r' lC)))))] [.r' (.s'),.r' (.c')] (λx=>bbp fu x) (nqQ (nqQ (nqQ (nqQ (nqQ (.j' [.o' 6 0 (.z'),.o' 6 1 (.l' 5 1 .c')] [] .n' (nqQ (.j' [.o' 6 0 (.z'),.o' 6 1 (.l' 5 1 .c')] [] .n' (.j' [.o' 6 0 (.z'),.o' 6 1 (.l' 5 1 .c')] [] (nqQ (.l' [.s' 51 iqQ,.o' 6 0 (.z'),.o' 6 1 (.l' 5 1 .c')] .n')) (.j' [.o' 6 0 (.z'),.o' 6 1 (.l' 5 1 .c')] [] (nqQ (.l' [.s' 71 iqQ,.o' 6 0 (.z'),.o' 6 1 (.l' 5 1 .c')] (nqQ (nqQ (.s' (nqQ (.j' [.o' 6 0 (.z'),.o' 6 1 (.l' 5 1 .c')] [] .n' .n')) .n'))))) .n'))))))))))
noncomputable def atc:=kf fu Tryz.func160 [ast fu,arc fu,nN,biu fu,apv fu,ov fu,bdy fu] [.r' lC] [.r' (.s'),.r' (.c')] (λx=>XN fu x) (nqQ (nqQ (nqQ (.r' [.o' 4 0 (.z'),.o' 4 1 (.l' 5 1 .c')] [] (nqQ (.l' [.s' 17 iqQ,.o' 4 0 (.z'),.o' 4 1 (.l' 5 1 .c')] (nqQ (nqQ (.s' (nqQ (.s' (.j' [.s' 41 (.b')] [] .n' .n') (nqQ (nqQ (nqQ (.r' [.s' 7 (.s')] [] (nqQ (.j' [.s' 75 (.b')] [0,2,3] .n' .n')) .n')))))) .n'))))) .n'))))
noncomputable def bkv:=kf fu Tryz.func126 [biu fu,Ek fu,atc fu,bci fu] [.pr .s' (.pr (.pr .s' (.pr .s' (.pr .s' (.pr iqQ (.pr (.r' lC) (.r' lC)))))) (.r' lC))] [.r' (.s'),.r' (.c')] (λx=>ami fu x) (.n')
noncomputable def alo:=kf fu Tryz.func72 [arm fu] [.s',.f' 74 .u'] [.r' (.s')] (λx=>ace fu x.1) (nqQ (nqQ (.j' [.w' 5 (.y')] [] (nqQ (.l' [.w' 5 (.y'),.s' 12 iqQ] .n')) .n')))
noncomputable def Av:=kf fu Tryz.func163 [bfy,bjk] [.s'] [.r' (.s'),.r' (.s'),.r' (.b')] (λx=>ayf fu x) (nqQ (nqQ (.s' (.j' [.s' 21 (.b')] [0,1,2] .n' .n') .n')))
noncomputable def Om:=kf fu Tryz.func167 [ov fu] [.r' lC,.s'] [.r' (.s'),.r' (.b')] (λx=>bbq fu x.1 x.2) (nqQ (nqQ (.r' [] [] (nqQ (.l' [.s' 12 iqQ] .n')) .n')))
noncomputable def Tc:=kf fu Tryz.func127 [avd fu,avn fu,agd fu,ahc fu,alo fu,arm fu,aol fu,ayp,Av fu,apv fu,bab fu,bcj fu,Om fu] [.s'] [.r' (.pr .s' (.pr .s' (.pr iqQ (.pr .s' dJ)))),.r' (.c')] (λx=>bii fu x) (nqQ (nqQ (.s' (.j' [.s' 30 (.b')] [0,2,3] .n' .n') (nqQ (nqQ (.s' (.j' [.s' 43 (.b')] [0,1,2] .n' .n') (nqQ (nqQ (.j' [.s' 7 (.s'),.s' 8 (.s')] [] .n' (nqQ (nqQ (nqQ (nqQ (.r' [.o' 6 2 iqQ] [] (nqQ (.s' (nqQ (.j' [.s' 16 (.c')] [] (.j' [.s' 94 (.b')] [0,1,2] .n' .n') .n')) .n')) .n'))))))))))))))
noncomputable def baf:=kf fu Tryz.func216 [bde fu] [.pr .s' (.pr .s' .b'),.pr .s' (.pr .s' .b')] [.r' iqQ] (λx=>Cg fu x.1 x.2) (.n')
noncomputable def aky:=kf fu Tryz.func269 [baf fu] [.l' 193 40 lC,.i' .i64,.i' .i64,.f' 216 .u'] [.w' 0 dJ] (λx=>als fu x.1 x.2.1 x.2.2.1) (nqQ (.l' [.w' 0 dJ,.s' 8 iqQ] (nqQ (.j' [.w' 0 dJ] [] (nqQ (.l' [.w' 0 dJ,.s' 9 iqQ] (.s' (.j' [.s' 34 (.b')] [] .n' .n') .n'))) .n'))))
noncomputable def apu:=kf fu Tryz.func246 [baf fu,aeo fu,aky fu] [.l' 193 40 lC,.i' .i64,.f' 216 .u'] [.w' 0 dJ] (λx=>ara fu x.1 x.2.1) (nqQ (nqQ (.j' [.w' 0 dJ,.s' 7 iqQ] [] (.l' [.w' 0 dJ,.s' 7 iqQ,.s' 8 iqQ] .n') (nqQ (.l' [.w' 0 dJ,.s' 6 iqQ] (.s' (nqQ (.z' .n')) .n'))))))
noncomputable def aoy:=kf fu Tryz.func203 [baf fu,aga fu,apu fu] [.l' 193 40 lC,.f' 216 .u'] [.w' 0 dJ] (λx=>acg fu x.1) (.n')
end
theorem ent203:Go.Wk.Enters Tryz.prog 203:=⟨Tryz.f203,_,Tryz.func203,rfl,by kernel_rfl⟩
theorem ent214:Go.Wk.Enters Tryz.prog 214:=⟨Tryz.f214,_,Tryz.func214,rfl,by kernel_rfl⟩
theorem ent215:Go.Wk.Enters Tryz.prog 215:=⟨Tryz.f215,_,Tryz.func215,rfl,by kernel_rfl⟩
theorem zz:Go.Wk.Enters Tryz.prog 254:=⟨Tryz.f254,_,Tryz.func254,rfl,by kernel_rfl⟩
theorem zy:Go.Wk.Enters Tryz.prog 255:=⟨Tryz.f255,_,Tryz.func255,rfl,by kernel_rfl⟩
theorem zw:Go.Wk.Enters Tryz.prog 275:=⟨Tryz.f275,_,Tryz.func275,rfl,by kernel_rfl⟩
variable {j e:LQ}
theorem aou(r:ε Nat)(d:ε Γ)(a:Nat)(f:acg fu j=θ e)(i:Gl w)(h:Hp w (eK [bN dZ 193 3 r d a j]) [bN dZ 193 3 r d a j] w)(g:∀b∈eK [bN dZ 193 3 r d a j],9<=b):CR Tryz.prog 203 [(π d (γ j) a),(Θ (.func 216) #[] #[])] w λv w'=>v=(Value.tuple #[])/\γ e=γ j/\Hp w (eK [bN dZ 193 3 r d a j]) [bN dZ 193 3 r d a e] w':=
 LX (aoy fu).ok f ⟨i,g⟩ h
theorem agw(i:Nat)(f:Loop)(l:Nat)(t:ε Nat)(k:ε Γ)(a:Nat)(o:Nat)(m:ε Γ)(V:Nat)(d:Nat){r:(LQ×Nat)}(hr:aaz fu j e=θ r)(hG:Gl w)(R:V=γ e)(C:Rd w m (Η dZ e))(a8:V<=d)(hM:Hp w (eK [eH i 0 f,bA l [(π k (γ j) a)] 144,bA o [(π m (γ e) d)] 144,bN dZ 193 3 t k a j]) [eH i 0 f,bA l [(π k (γ j) a)] 144,bA o [(π m (γ e) d)] 144,bN dZ 193 3 t k a j] w)(hS:∀b∈eK [eH i 0 f,bA l [(π k (γ j) a)] 144,bA o [(π m (γ e) d)] 144,bN dZ 193 3 t k a j],9<=b)(D:Η dZ e≠[]->∀p,m=θ p->p.block∉eK [eH i 0 f,bA l [(π k (γ j) a)] 144,bA o [(π m (γ e) d)] 144,bN dZ 193 3 t k a j])(a2:∀(J:PQ) (H:LQ) (U:ε Nat) (L:ε Γ) (x:Nat) (w_:ο),Hp w (eK [eH i 0 f,bA l [(π k (γ j) a)] 144,bA o [(π m (γ e) d)] 144,bN dZ 193 3 t k a j]) [eH i 0 f,bA l [(π L (γ H) x)] 144,bN dZ 193 3 U L x H] w_->∀(S:(Nat×LQ)),abz fu J H=θ S->YR Tryz.prog i [(Value.agg #[(str J.1),(str J.2.1),(υ J.2.2)])] w_ λv a3=>∃(a7:ε Nat),∃(T:ε Γ),∃(B:Nat),v=υ (decide (S.1=0))/\Hp w_ (eK [eH i 0 f,bA l [(π L (γ H) x)] 144,bN dZ 193 3 U L x H]) [eH i S.1 f,bA l [(π T (γ S.2) B)] 144,bN dZ 193 3 a7 T B S.2] a3):CR Tryz.prog 255 [(Θ (.yield i) #[] #[]),(φ (dH o))] w λv w'=>∃(o0:ε Nat),∃(a0:ε Γ),∃(P:Nat),v=(Value.tuple #[])/\Hp w (eK [eH i 0 f,bA l [(π k (γ j) a)] 144,bA o [(π m (γ e) d)] 144,bN dZ 193 3 t k a j]) [bA l [(π a0 (γ r.1) P)] 144,bA o [(π m (γ e) d)] 144,bN dZ 193 3 o0 a0 P r.1,eH i r.2 f] w':=by
 subst R;have hH:=hM;refine MD Tryz.func255 rfl rfl (aZ rfl) ?_;unfold aaz at hr;refine sr (nX hH 2 o 0 _ 144 _ rfl rfl aK aK (wp 2 (nq (ce (CM (σ:=Nat×Int×(δ _)×(ε Nat)×(ε Γ)×Nat) [0,5,6,7] (λ⟨s,g,n,z,q,h⟩=>[(7,(Δ .i64 g))]) (λ⟨s,g,n,z,q,h⟩ w'=>Hp w (eK [eH i 0 f,bA l [(π k (γ j) a)] 144,bA o _ 144,bN dZ 193 3 t k a j]) [eH i 0 f,bA l [(π q (γ n) h)] 144,bA o [(π m (γ e) d)] 144,bN dZ 193 3 z q h n] w'/\aai fu e s g n=θ r) (λ⟨s,g,n,z,q,h⟩=>s) (fu,(0:Int),j,t,k,a) (by exact⟨(Hp.front (Hp.front (Hp.front (Hp.front hH 3 _ rfl) 3 _ rfl) 3 _ rfl) 3 _ rfl).kp,hr⟩) ?_)))));rintro⟨_|s,g,n,z,q,h⟩ b7 G ⟨A,c⟩
 ·exact absurd (show ι=θ _ from c) aA3
 rw[abl,aan]at c;refine sr (wp 1 (nq (cs (cd c (λa9 c=> ?_) (λa9 c=> ?_)))));refine ck (qn (cs (ce (sr (gi c λb2 c=>Cq m (γ e) d 193 3 .i64 g Tryz.underlying144 aK aK aK e rfl b2 (C.XX A D) IN aA1 (gi c λb1 c=>zD m dZ e 3 g IN (C.XX A D) (pf e g) b1 aK aK aK aK aA1 ?_))))));refine lH A [(str []),(str []),(υ ν)] 193 (λb=>(φ (dH b))) rfl rfl aK λI b6 Z=>iI Z 0 I 0 _ (pf e g) 193 _ rfl (aZ rfl) aK aK rfl aK rfl λa6 O=>nq (sr (wp 1 (vQ O 0 I 0 3 _ _ 193 rfl rfl rfl aK aK aK (bi c λy W c=> ?_))));have Y:=O.front 4 _ rfl;have X:=Y.front 3 _ rfl;have N:=X.front 3 _ rfl;have a1:=Hp.FT (L1:=[eH i 0 f,bA l _ 144,bN dZ 193 3 z q h n]) (L2:=[bA I (pf e g) 193,bA o [(π m (γ e) d)] 144]) N;refine Jh i _ _ aK aK (a2 _ n z q h a6 a1 y W) ?_;rintro _ a5 ⟨Q,K,u,rfl,M⟩;have E:Hp w (eK [eH i 0 f,bA l [(π k (γ j) a)] 144,bA o [(π m (γ e) d)] 144,bN dZ 193 3 t k a j]) [eH i y.1 f,bA l [(π K (γ y.2) u)] 144,bN dZ 193 3 Q K u y.2,bA I (pf e g) 193,bA o [(π m (γ e) d)] 144] a5:=Hp.eG (L1:=[eH i 0 f,bA l [(π q (γ n) h)] 144,bN dZ 193 3 z q h n]) (L2:=[bA I (pf e g) 193,bA o [(π m (γ e) d)] 144]) N M;clear M;by_cases F:y.1=0;replace c:=QS F c;rw[F]at E;rw[show decide (y.1=0)=μ from(aD F)];refine wp 1 (nq (mr aK (ck (bn (qn (cr (gi c λb0 c=>rA g _ aK aK b0 ?_)))))));refine wp 1 (wl (ql ?_));exact⟨(s,g+1,y.2,Q,K,u),_,rfl,by kernel_rfl,⟨(Hp.front (Hp.front (Hp.front (Hp.front E 2 _ rfl) 4 _ rfl) 3 _ rfl) 3 _ rfl).kp,c⟩,bW _⟩;replace c:=QT F c;rw[show decide (y.1=0)=ν from(aE F)];refine wp 1 (nq (tG aK (ct (lD (st (vG (lD ?_)))))));obtain rfl:=oi c;refine Mj rfl ?_;exact⟨Q,K,u,pD,(Hp.front (Hp.front (Hp.front E 2 _ rfl) 4 _ rfl) 3 _ rfl).kp⟩;refine wI (vH (wJ (wH ?_)));obtain rfl:=oi c;refine uD rfl ?_;exact⟨z,q,h,pD,(Hp.front (Hp.front (Hp.front A 3 _ rfl) 3 _ rfl) 3 _ rfl).kp⟩
theorem awr{s_0:LQ}(l:ε Nat)(h:ε Γ)(a:Nat)(r:Nat)(g:ε Γ)(U:Nat)(c:Nat)(H:adv fu s_0 j=θ e)(hG:Gl w)(P:U=γ j)(u:Rd w g (Η dZ j))(Q:U<=c)(hM:Hp w (eK [bA r [(π g (γ j) c)] 144,bN dZ 193 3 l h a s_0]) [bA r [(π g (γ j) c)] 144,bN dZ 193 3 l h a s_0] w)(hS:∀b∈eK [bA r [(π g (γ j) c)] 144,bN dZ 193 3 l h a s_0],9<=b)(x:Η dZ j≠[]->∀p,g=θ p->p.block∉eK [bA r [(π g (γ j) c)] 144,bN dZ 193 3 l h a s_0]):CR Tryz.prog 275 [(π h (γ s_0) a),(Θ (.func 255) #[] #[(φ (dH r))])] w λv w'=>∃(o0:ε Nat),∃(a0:ε Γ),∃(N:Nat),v=(π a0 (γ e) N)/\Hp w (eK [bA r [(π g (γ j) c)] 144,bN dZ 193 3 l h a s_0]) [bA r [(π g (γ j) c)] 144,bN dZ 193 3 o0 a0 N e] w':=by
 subst P;have hH:=hM;refine MC Tryz.func275 rfl rfl (aZ rfl) ?_;unfold adv at H;refine sr (lH hH [(π h (γ s_0) a)] 144 (λb=>(φ (dH b))) rfl rfl aK λC w2 c6=>wp 1 (nq (cs (sr (wp 1 ?_)))));refine nq (ce (tH c6 255 [(φ (dH r))] aK zy λE I o c3 Z Y X W b0=>bi H λn V H=> ?_));have a4:=b0.front 4 _ rfl;have a3:=a4.front 4 _ rfl;have a2:=a3.front 4 _ rfl;have d:=a2.front 3 _ rfl;have c9:∀i m F s (f:Nat) (w_:ο),Hp c3 (eK [eH I 0 o,bA C [(π h (γ s_0) a)] 144,bA r [(π g (γ j) c)] 144,bN dZ 193 3 l h a s_0]) [eH I 0 o,bA C [(π s (γ m) f)] 144,bN dZ 193 3 F s f m] w_->∀(S:(Nat×(δ _))),abz fu i m=θ S->YR Tryz.prog I [(Value.agg #[(str i.1),(str i.2.1),(υ i.2.2)])] w_ λv b7=>∃c4,∃T,∃t,v=υ (decide (S.1=0))/\Hp w_ (eK [eH I 0 o,bA C [(π s (γ m) f)] 144,bN dZ 193 3 F s f m]) [eH I S.1 o,bA C [(π T (γ S.2) t)] 144,bN dZ 193 3 c4 T t S.2] b7:=by intro i m F s f c2 q S G;have A:=Hp.eG d q;have b2:=hG;replace hG:=hG.hp A hS;have d9:=Hp.sR A b2 hS 3 rfl;unfold abz at G;refine Kj (Hp.hand (L2:=[]) aE6) 0 rfl Z Y X W rfl ?_;have hH:=Hp.hand (L2:=[]) aE6;clear A q;refine cr (lH hH [(str []),(str []),(υ ν)] 193 (λb=>(φ (dH b))) rfl rfl aK λb4 d7 a9=>iI a9 0 b4 0 _ [(str i.1),(str i.2.1),(υ i.2.2)] 193 _ rfl (aZ rfl) aK aK rfl aK rfl λd6 a8=>wl (Ql a8 1 rfl λd5 z=>ce (cr (nX z 2 C 0 _ 144 _ rfl rfl aK aK (vQ z 0 b4 0 3 _ _ 193 rfl rfl rfl aK aK aK (lH z [(str i.1),(str i.2.1),(υ i.2.2)] 193 (λb=>(π (dH b) 1 1)) rfl rfl aK λe1 d4 M=> ?_))))));refine gi G λc8 G=>SK M 4 F s (θ _) f 1 193 3 40 m _ IN rfl Tryz.underlying144 aB1 aA1 aA1 aK (fK aK (SJ aB0)) (M.gS 0 rfl) c8 λc5 b5 B c1 y=> ?_;replace y:Hp c2 _ _ c1:=y;refine lO y 3 C 0 _ 144 (π b5 (γ (m++[i])) B) _ rfl (cQ (bW _) (aZ rfl)) aK aK rfl aK rfl λd3 a7=>wl (bn ?_);obtain rfl:=oi G;refine oW a7 2 rfl λd2 a6=> ?_;exact⟨c5,b5,B,aC5,(Hp.front (Hp.front (Hp.front a6 4 _ rfl) 4 _ rfl) 4 _ rfl).kp⟩
 refine CR.mono (agw I o C l h a r g (γ j) c V (hG.hp d hS) rfl (u.XX d x) Q (d.hand) (d.sR hG hS 4 rfl) (d.Bz 4 u x rfl) c9) ?_;rintro _ c0 ⟨O,D,k,rfl,J⟩;have a5:Hp w (eK [bA r [(π g (γ j) c)] 144,bN dZ 193 3 l h a s_0]) [bA C [(π D (γ n.1) k)] 144,bA r [(π g (γ j) c)] 144,bN dZ 193 3 O D k n.1,eH I n.2 o,HP E] c0:=Hp.eG (L1:=[eH I 0 o,bA C [(π h (γ s_0) a)] 144,bA r [(π g (γ j) c)] 144,bN dZ 193 3 l h a s_0]) (L2:=[HP E]) d J;clear J;have a1:=a5.front 3 _ rfl;refine⟨n.2,[bA C _ 144,bA r _ 144,bN dZ 193 3 O D k n.1,HP E],a1, ?_⟩;intro d1 L;by_cases R:n.2=0;replace H:=QS R H;refine rg0 R (bn (qn (sr (nX L 0 C 0 _ 144 _ rfl rfl aK aK (wp 1 (nq (ct ?_)))))));obtain rfl:=oi H;refine AF L 3 E rfl _ _ (π D (γ n.1) k) rfl rfl (λb9 K=>(Rs (BX aK) ay)) rfl λb9 K=> ?_;exact⟨O,D,k,pD,(Hp.front (Hp.front K 2 _ rfl) 2 _ rfl).kp⟩;replace H:=QT R H;exact absurd H aA3
theorem axu(d:Nat)(r:ε Γ)(q:Nat)(a:Nat)(t:acr fu j=θ e)(B:Gl w)(l:q=γ j)(h:Rd w r (Η dZ j))(n:q<=a)(F:Hp w (eK [bA d [(π r (γ j) a)] 144]) [bA d [(π r (γ j) a)] 144] w)(A:∀b∈eK [bA d [(π r (γ j) a)] 144],9<=b)(i:Η dZ j≠[]->∀p,r=θ p->p.block∉eK [bA d [(π r (γ j) a)] 144]):CR Tryz.prog 254 [(Θ (.func 255) #[] #[(φ (dH d))])] w λv w'=>∃(E:ε Nat),∃(C:ε Γ),∃(c:Nat),v=(π C (γ e) c)/\Hp w (eK [bA d [(π r (γ j) a)] 144]) [bA d [(π r (γ j) a)] 144,bN dZ 193 3 E C c e] w':=by subst l;have G:Hp w (eK (Qw d r (γ j) a)) (Qw d r (γ j) a) w:=F;refine enter (k:=5) Tryz.func254 rfl rfl (aZ rfl) ?_;unfold acr at t;refine sr (wp 1 (nq (sr (wp 1 ?_))));have m:=G.eX dZ 193 3 ι;replace m:Hp w (eK (Qw d r (γ j) a)) [bN dZ 193 3 ι ι 0 ([]:LQ),bA d [(π r (γ j) a)] 144] w:=m;refine bi t λy u t=> ?_;have g:Hp w (eK (Qw d r (γ j) a)) [bA d [(π r (γ j) a)] 144,bN dZ 193 3 ι ι 0 ([]:LQ)] w:=m.front 1 _ rfl;refine wK 275 #[] [(π ι 0 0),(Θ (.func 255) #[] #[(φ (dH d))])] _ zw aK aK (awr (s_0:=([]:LQ)) ι ι 0 d r (γ j) a u (B.hp g A) rfl (h.XX g i) n (g.hand (L1:=[bA d [(π r (γ j) a)] 144,bN dZ 193 3 ι ι 0 ([]:LQ)]) (L2:=[])) (g.sR B A 2 rfl) (g.Bz 2 h i rfl)) ?_;rintro _ D ⟨z,o,f,rfl,s⟩;have x:Hp w (eK (Qw d r (γ j) a)) [bA d [(π r (γ j) a)] 144,bN dZ 193 3 z o f y] D:=Hp.eG (L1:=[bA d [(π r (γ j) a)] 144,bN dZ 193 3 ι ι 0 ([]:LQ)]) (L2:=[]) g s;clear s;refine wp 1 (nq (ct ?_));obtain rfl:=oi t;refine pV (π o (γ y) f) rfl aK ?_;exact⟨z,o,f,pD,(Hp.front (Hp.front x 1 _ rfl) 1 _ rfl).kp⟩
theorem ahw(r:Nat)(d:ε Γ)(t:Nat)(a:Nat)(o:aba fu j=θ e)(B:Gl w)(l:t=γ j)(h:Rd w d (Η dZ j))(m:t<=a)(K:Hp w (eK [bA r [(π d (γ j) a)] 144]) [bA r [(π d (γ j) a)] 144] w)(A:∀b∈eK [bA r [(π d (γ j) a)] 144],9<=b)(i:Η dZ j≠[]->∀p,d=θ p->p.block∉eK [bA r [(π d (γ j) a)] 144]):CR Tryz.prog 214 [(Θ (.func 255) #[] #[(φ (dH r))]),(Θ (.func 216) #[] #[])] w λv w'=>∃(J:ε Nat),∃(G:ε Γ),∃(k:Nat),v=(π G (γ e) k)/\Hp w (eK [bA r [(π d (γ j) a)] 144]) [bA r [(π d (γ j) a)] 144,bN dZ 193 3 J G k e] w':=by subst l;have q:=K;refine enter Tryz.func214 rfl rfl (aZ rfl) ?_;unfold aba at o;refine sr (wp 1 (nq (sr (wp 1 (bi o λz D o=>wK 254 #[] [(Θ _ #[] #[(φ _)])] _ zz aK aK (axu r d (γ j) a D (B.hp q A) rfl (h.XX q i) m (q.hand) (q.sR B A 1 rfl) (q.Bz 1 h i rfl)) ?_)))));rintro _ I ⟨s,n,f,rfl,x⟩;have E:Hp w (eK (Qw r d (γ j) a)) [bA r [(π d (γ j) a)] 144,bN dZ 193 3 s n f z] I:=Hp.eG (L1:=(Qw r d (γ j) a)) (L2:=[]) q x;clear x;refine wp 1 (nq (sr (wp 2 (bi o λH u o=> ?_))));have g:=E.front 1 _ rfl;refine wK 203 #[] [(π n (γ z) f),(Θ _ #[] #[])] _ ent203 aK aK (aou s n f u (B.hp g A) (g.hand) (g.sR B A 1 rfl)) ?_;rintro _ C ⟨rfl,F,c⟩;have y:Hp w (eK (Qw r d (γ j) a)) [bN dZ 193 3 s n f H,bA r [(π d (γ j) a)] 144] C:=Hp.eG (L1:=[bN dZ 193 3 s n f z]) (L2:=(Qw r d (γ j) a)) g c;clear c;refine nq (sr (wp 2 (nq (ct ?_))));obtain rfl:=oi o;refine pV (π n (γ z) f) rfl aK ?_;exact⟨s,n,f,pD,(Hp.front y 1 _ rfl).kp⟩
theorem blj(c:ε Γ)(d:Nat)(a:Nat)(i:amw fu j=θ e)(n:Gl w)(r:d=γ j)(f:Rd w c (Η dZ j))(h:d<=a):CR Tryz.prog 215 [(π c d a)] w λv w'=>∃(k:Nat),v=(Θ (.func 255) #[] #[(φ (dH k))])/\Hp w [] [bA k [(π c (γ j) a)] 144] w':=by subst r;have l:=Hp.refl w;refine enter Tryz.func215 rfl rfl (aZ rfl) ?_;unfold amw at i;refine sr (lH l [(π c (γ j) a)] 144 (λb=>(φ (dH b))) rfl rfl aK λo m g=>wp 1 (nq (sr (wp 2 (wl ?_)))));refine qn (ct ?_);obtain rfl:=oi i;refine pV (Θ (.func 255) #[] #[(φ (dH o))]) rfl aK ?_;exact⟨o,pD,g.kp⟩
theorem Ci(c:ε Γ)(k:Nat)(a:Nat)(n:XM fu j=θ e)(y:Gl w)(l:k=γ j)(d:Rd w c (Η dZ j))(g:k<=a):CR Tryz.prog 168 [(π c k a)] w λv w'=>∃(D:ε Nat),∃(A:ε Γ),∃(r:Nat),v=(π A (γ e) r)/\Hp w [] [bN dZ 193 3 D A r e] w':=by subst l;have x:=Hp.refl w;refine enter Tryz.func168 rfl rfl (aZ rfl) ?_;unfold XM at n;refine sr (wp 1 (nq (sr (wp 1 (bi n λE u n=>wK 215 #[] [(π c (γ j) a)] _ ent215 aK aK (blj c (γ j) a u (y.jD x) rfl (d.hp x) g) ?_)))));rintro _ C ⟨s,rfl,p⟩;have f:Hp w [] (Qw s c (γ j) a) C:=Hp.eG (L1:=[]) (L2:=[]) x p;clear p;refine bi n λz t n=>wK 214 #[] [(Θ _ #[] #[(φ _)]),(Θ _ #[] #[])] _ ent214 aK aK (ahw s c (γ j) a t (y.jD f) rfl (d.hp f) g (f.hand) (f.sR y (λ_ h=>absurd h aA3) 1 rfl) (f.Bz 1 d (λ_ _ _ h=>absurd h aA3) rfl)) ?_;rintro _ B ⟨o,m,b,rfl,i⟩;have q:Hp w [] [bA s [(π c (γ j) a)] 144,bN dZ 193 3 o m b z] B:=Hp.eG (L1:=(Qw s c (γ j) a)) (L2:=[]) f i;clear i;refine wp 1 (nq (ct ?_));obtain rfl:=oi n;refine pV (π m (γ z) b) rfl aK ?_;exact⟨o,m,b,pD,(Hp.front q 1 _ rfl).kp⟩
noncomputable def nL(fu:Nat):=kl Tryz.func168 ⟨[.r' lC],[.r' dJ],λx=>.one (XM fu x)⟩ (uP (e:=193) (b:=40) (t:=.pr .s' (.pr .s' .b')) (λx=>x) (λy=>y) λw S x y a n cap h c d g f=>Ci a n cap c h.1 d g f)
section
variable(fu:Nat)
noncomputable def xO:=kf fu Tryz.func128 [azy,ast fu,agd fu,ahc fu,alo fu,arm fu,atc fu,apv fu,nL fu] [.pr .s' (.pr .s' (.pr iqQ (.pr .s' (.r' lC))))] [.r' (.s'),.r' (.c')] (λx=>awm fu x) (nqQ (nqQ (.s' (.j' [.s' 34 (.b')] [0,1,2,8,13] .n' .n') (nqQ (.j' [.s' 6 dJ] [] (nqQ (.l' [.s' 6 dJ,.s' 38 iqQ] .n')) (.j' [.s' 6 dJ] [] .n' (nqQ (nqQ (.j' [.s' 4 (.s')] [] .n' .n')))))))))
noncomputable def bho:=kf fu Tryz.func169 [avd fu,ayp,bab fu] [.s'] [.r' iqQ,.r' (.s'),.r' (.c')] (λx=>aqm fu x) (nqQ (nqQ (.j' [.s' 5 iqQ] [] .n' .n')))
noncomputable def sO:=kf fu Tryz.func129 [ast fu,aol fu,bho fu] [.s'] [.r' iqQ,.r' (.s'),.r' (.c')] (λx=>bbk fu x) (.n')
noncomputable def Oi:=kf fu Tryz.func130 [aol fu,sO fu,bho fu] [.s'] [.r' iqQ,.r' iqQ,.r' (.s'),.r' (.c')] (λx=>bfk fu x) (.n')
noncomputable def Eg:=kf fu Tryz.func131 [aol fu,bab fu] [.s'] [.r' iqQ,.r' (.c')] (λx=>bbj fu x) (.n')
noncomputable def Ok:=kf fu Tryz.func132 [avn fu,aol fu,bcj fu] [.s'] [.r' (.pr .s' dJ),.r' (.c')] (λx=>bfm fu x) (nqQ (nqQ (nqQ (nqQ (.r' [.s' 4 iqQ] [] (.j' [.s' 25 (.b')] [0,1,3,4] .n' .n') .n')))))
noncomputable def vB:=kf fu Tryz.func133 [ast fu,biq,atc fu,nL fu] [.pr .s' (.r' lC)] [.r' (.s'),.r' (.c')] (λx=>auj fu x) (nqQ (nqQ (.s' (.j' [.s' 26 (.b')] [0,2,3] .n' .n') .n')))
noncomputable def Of:=kf fu Tryz.func102 [azy,nM fu,aol fu,Aw fu,bkv fu,Tc fu,xO fu,sO fu,Oi fu,Eg fu,Ok fu,vB fu,biu fu] [.s',.s'] [.r' (.s'),.r' (.c')] (λx=>bbh fu x.1 x.2) (nqQ (.s' (nqQ (nqQ (.s' (.s' (.j' [.s' 33 (.b')] [0,1,2] .n' .n') .n') (nqQ (nqQ (nqQ (nqQ (nqQ (nqQ (nqQ (nqQ (.j' [.s' 109 (.b')] [] .n' .n')))))))))))) .n'))
noncomputable def Oc:=kf fu Tryz.func172 [avd fu,bei] [.s',.i' .i64,.i' .i64] [.r' (.pr iqQ .s')] (λx=>bbf fu x.1 x.2.1 x.2.2) (.n')
noncomputable def Od:=kf fu Tryz.func135 [arl fu,bdx fu,akb,Oc fu] [.s',.c'] [.r' (.l' 68 24 (.pr iqQ .s')),.r' iqQ,.r' (.c')] (λx=>bfi fu x.1 x.2) (nqQ (.s' (.j' [.s' 27 (.b')] [0,2,6,10] .n' .n') (nqQ (nqQ (.r' [.s' 7 (.l' 68 24 (.pr iqQ .s')),.s' 8 iqQ] [] (nqQ (.l' [.s' 7 (.l' 68 24 (.pr iqQ .s')),.s' 8 iqQ,.s' 9 iqQ] .n')) .n')))))
noncomputable def Oj:=kf fu Tryz.func103 [Od fu] [.s'] [.r' (.l' 9 16 .s'),.r' (.c')] (λx=>bfl fu x) (nqQ (nqQ (nqQ (nqQ (.r' [.s' 7 (.l' 9 16 .s')] [] (nqQ (.l' [.s' 7 (.l' 9 16 .s'),.s' 21 iqQ] .n')) .n')))))
noncomputable def Oh:=kf fu Tryz.func75 [bgb fu,bfx,Og fu,Of fu,Oj fu] [.s',.s'] [.r' (.s'),.r' (.c')] (λx=>bfj fu x.1 x.2) (nqQ (nqQ (nqQ (nqQ (nqQ (nqQ (.r' [.w' 8 (.l' 9 16 .s')] [] (nqQ (.l' [.w' 8 (.l' 9 16 .s'),.s' 36 iqQ] .n')) .n')))))))
noncomputable def bbs:=kf fu Tryz.func46 [Oh fu] [.s',.s'] [.r' (.pr .s' .s'),.r' (.c')] (λx=>ajd fu x.1 x.2) (.n')
noncomputable def xQ:=kf fu Tryz.func38 [biq,bgb fu,bbs fu,pX,bei] [.s'] [.r' (.pr .s' .s'),.r' (.c')] (λx=>bct fu x) (nqQ (nqQ (.s' (nqQ (.z' .n')) (nqQ (.s' (nqQ (.z' .n')) .n')))))
noncomputable def Eh:=kf fu Tryz.func21 [LH,bgb fu,bbs fu] [.pr (.r' (.pr .s' .s')) (.r' .c')] [.r' (.pr (.l' 49 32 (.pr .s' .s')) (.l' 5 1 .c')),.r' (.b')] (λx=>avi fu x) (nqQ (nqQ (nqQ (.r' [.o' 4 0 (.l' 49 32 (.pr .s' .s'))] [] (nqQ (.l' [.s' 21 iqQ,.o' 4 0 (.l' 49 32 (.pr .s' .s'))] .n')) .n'))))
noncomputable def Ol:=kf fu Tryz.func47 [] [.r' .c',.r' .c'] [.r' (.b')] (λx=>wN fu x.1 x.2) (.n')
noncomputable def xP:=kf fu Tryz.func22 [Ol fu] [.r' .c',.r' .c'] [.r' (.b')] (λx=>alf fu x.1 x.2) (nqQ (.j' [.s' 4 (.b')] [0,2,4,5,13] .n' .n'))
noncomputable def Sr:=kf fu Tryz.func43 [] [.pr .s' (.pr .s' (.pr iqQ (.pr .s' (.pr (.r' (.pr .s' .s')) (.r' .c'))))),.pr .s' (.pr .s' (.pr iqQ (.pr .s' (.pr (.r' (.pr .s' .s')) (.r' .c')))))] [.r' (.b')] (λx=>Cd fu x.1 x.2) (nqQ (.s' (.j' [.s' 49 (.b')] [0,2,4,5,12,19,26,35] .n' (.z' .n')) (.j' [] [] (nqQ (.l' [.s' 5 iqQ] (nqQ (.s' (nqQ (.z' .n')) .n')))) .n')))
noncomputable def Ar:=kf fu Tryz.func20 [Sr fu] [.pr (.r' (.pr .s' .s')) (.r' .c'),.pr (.r' (.pr .s' .s')) (.r' .c')] [.r' (.b')] (λx=>bed fu x.1 x.2) (.n')
noncomputable def xM:=kf fu Tryz.func99 [] [.c'] [.r' (.b')] (λx=>awi fu x) (nqQ (.s' (.j' [.s' 26 (.b')] [0,1,2,6,14] .n' .n') (nqQ (.r' [] [] (nqQ (.l' [.s' 4 iqQ] .n')) .n'))))
noncomputable def akz:=kf fu Tryz.func65 [xM fu] [.s',.i' .i64] [.r' iqQ] (λx=>bq fu x.1 x.2) (nqQ (nqQ (.j' [.s' 5 iqQ] [] (.l' [.s' 5 iqQ] (.s' (.j' [.s' 20 (.b')] [0,1,3,4] .n' .n') .n')) .n')))
noncomputable def axi:=kf fu Tryz.func39 [akz fu] [.s'] [.r' (.b')] (λx=>y5 fu x) (nqQ (.j' [.s' 2 (.b')] [0,1,2,9] .n' .n'))
noncomputable def Nn:=kf fu Tryz.func17 [axi fu] [.s'] [.r' (.b')] (λx=>bap fu x) (nqQ (.j' [.s' 2 (.b')] [0,2,7] .n' .n'))
noncomputable def bp:=kf fu Tryz.func106 [] [.s'] [.r' (.s')] (λx=>IM fu x) (nqQ (nqQ (.j' [.w' 3 (.y')] [] (nqQ (.l' [.w' 3 (.y'),.s' 4 iqQ] (nqQ (.s' (.j' [.s' 24 (.b')] [0,1,4,5] .n' .n') .n')))) .n')))
end
theorem qC(h:bau fu f=θ a)(C:Gl w):CR Tryz.prog 107 [(bt f)] w λv w'=>v=(str a)/\Hp w [] [] w':=by have A:=Hp.refl w;refine enter Tryz.func107 rfl rfl (aZ rfl) ?_;unfold bau at h;refine sr (wp 1 (nq (sr (lH A [(str (Zz13)),(str (Zz12)),(str (Zz6)),(str [102,70,114,111,109]),(str [105,67,97,108,108,45,73,68]),(str (Zz15)),(str (Zz8)),(str (Zz20)),(str [111,69,118,101,110,116]),(str (Zz17)),(str (Zz21)),(str [116,84,111]),(str (Zz10)),(str [118,86,105,97]),(str (Zz7))] 9 (λb=>(π (dH b) 15 15)) rfl rfl aK λD B k=>wp 1 (wl ?_)))));refine qn (bi h λj g h=>cut (σ:=Unit) [2] (λe=>[]) (λe w'=>Hp w [] [] w'/\.inl e=j) ?_ ?_);refine sr (wp 1 (nq (ce (LC _ 0 k g [0,2,3,4] (λc=>[(4,(Δ .i64 c))]) (λ_=>rfl) ?_))));rintro x c z G d r;rw[vK,bat]at r;refine cs (sr (wp 4 (nq (cd r (λm r=> ?_) (λm r=> ?_)))));refine ck (qn (cs (ce (sr (wp 2 (gi r λu r=>Cq _ 15 15 9 1 .i64 c Tryz.underlying89 aK aK aK _ aB0 u (d.gS 0 rfl) sY aA1 (gi r λt r=> ?_)))))));refine kB _ eS _ 1 c sY (d.gS 0 rfl) (str (el ((Zz22):δ aC) c)) t aA1 aK aK aK (gi r λs r=>na _ .i64 0 Tryz.underlying9 aK aK s (wp 1 (rK (at_ (el ((Zz22):δ aC) c) 0) f aK aK (nq (cd r (λl r=> ?_) (λl r=> ?_))))));refine sr (wp 2 (gi r λq r=>Cq _ 15 15 9 1 .i64 c Tryz.underlying89 aK aK aK _ aB0 q (d.gS 0 rfl) sY aA1 (gi r λp r=>kB _ eS _ 1 c sY (d.gS 0 rfl) (str (el ((Zz22):δ aC) c)) p aA1 aK aK aK (gi r λo r=>oO _ .i64 _ Tryz.underlying9 aK aK o (wp 1 ?_)))));refine nq (ct (lD (st (vG (lD (vG ?_))))));obtain rfl:=oi r;obtain rfl:=oi h;exact rv d.kp;exact ck (bn (qn (cr (wp 1 (gi r λn r=>rA c _ aK aK n (wp 1 (wl (ql (QI _ d.kp r)))))))));refine wI (vH (wJ (wH (ql ?_))));obtain rfl:=oi r;exact⟨(),_,rfl,by kernel_rfl,d.kp,rfl⟩;rintro e y G ⟨i,rfl⟩;refine sr (wp 1 (nq (ct ?_)));obtain rfl:=oi h;exact rv i.kp
theorem ent39:Go.Wk.Enters Tryz.prog 39:=⟨Tryz.f39,_,Tryz.func39,rfl,by kernel_rfl⟩
theorem V3:Go.Wk.Enters Tryz.prog 106:=⟨Tryz.f106,_,Tryz.func106,rfl,by kernel_rfl⟩
theorem V2:Go.Wk.Enters Tryz.prog 107:=⟨Tryz.f107,_,Tryz.func107,rfl,by kernel_rfl⟩
theorem Iw(d:y5 fu a=θ r)(f:Gl w):CR Tryz.prog 39 [str a] w λv c=>v=.bool r/\Hp w [] [] c:=
 RX (x:=a) (y:=r) (axi fu).ok (λx=>[str x]) _ ⟨f,λb e=>by cases e⟩ d
theorem qD(d:IM fu a=θ c)(f:Gl w):CR Tryz.prog 106 [str a] w λv r=>v=str c/\Hp w [] [] r:=
 RX (x:=a) (y:=c) (bp fu).ok (λx=>[str x]) _ ⟨f,λb e=>by cases e⟩ d
theorem Iv{r:(aC×ζ)}(o:tr fu a=θ r)(V:Gl w):CR Tryz.prog 80 [(str a)] w λv w'=>v=(Value.tuple #[(str r.1),(bt r.2)])/\Hp w [] [] w':=by
 have hH:=Hp.refl w;refine enter Tryz.func80 rfl rfl (aZ rfl) ?_;unfold tr at o;refine sr (wp 2 (nq (cs (bi o λv10 t o=>jF hH [0,2,3,16] [(16,(υ v10))] ?_ ?_))));refine cr (wp 1 (bi t λe5 Q t=>wc ent39 hH (Iw Q (V.jD hH)) λf2 D=>wp 1 (wb t (λd2 t=> ?_) (λd2 t=> ?_))));refine wp 4 (wl (ql ?_));obtain rfl:=oi t;exact je D.kp;refine wp 4 (wl (ql ?_));obtain rfl:=oi t;exact je D.kp;intro f1 G B;refine cb o (λd1 o=> ?_) (λd1 o=> ?_);refine sr (wp 2 (nq (ct (st ?_))));obtain rfl:=oi o;exact rv B.kp;refine ck (qn (sr (wp 1 (bi o λj P o=>wc V3 B (qD P (V.jD B)) λf0 z=>wp 1 (nq ?_)))));refine cs (bi o λc6 n o=>jF z [2,3,4,27] [(27,(υ c6))] ?_ ?_);refine cr (wp 3 (wd n (λd0 n=> ?_) (λd0 n=> ?_)));refine wp 1 (gy 22 (gi n λd4 n=>na j .i64 0 Tryz.underlying9 aK aK d4 (gy 22 (bi n λe4 O n=>wc V2 z (qC O (V.jD z)) λe9 U=>wp 2 (wl (ql ?_))))));obtain rfl:=oi n;exact je U.kp;refine wp 5 (wl (ql ?_));obtain rfl:=oi n;exact je z.kp;intro e8 G A;refine cb o (λc9 o=> ?_) (λc9 o=> ?_);refine sr (wp 1 (gi o λd3 o=>na j .i64 _ Tryz.underlying9 aK aK d3 (bi o λe3 N o=>wc V2 A (qC N (V.jD A)) λe7 T=>wp 2 (nq ?_))));refine ct (st ?_);obtain rfl:=oi o;exact rv T.kp;refine ck (qn (sr (lH A [(str ([67,97,108,108,45,73,68]:aC)),(str ([67,83,101,113]:aC)),(str ((Zz19):aC)),(str ([77,105,110,45,83,69]:aC)),(str ([82,65,99,107]:aC)),(str ([82,83,101,113]:aC)),(str ((Zz14):aC))] 9 (λb=>(π (dH b) 7 7)) rfl rfl aK λf3 e6 S=>wp 1 (nq (bi o λc7 R o=>cut (σ:=Unit) [2,3,4] (λE=>[]) (λE w'=>Hp w [] [] w'/\.inl E=c7) ?_ ?_)))));refine sr (wp 1 (nq (ce (LC _ _ S R [2,3,4,5,6] (λk=>[(6,(Δ .i64 k))]) (λ_=>rfl) ?_))));rintro d5 k e2 G p f;rw[vL,bay]at f;refine cs (sr (wp 4 (nq (cd f (λa3 f=> ?_) (λa3 f=> ?_)))));refine ck (qn (cs (ce (sr (wp 2 (gi f λc5 f=>Cq _ 7 7 9 1 .i64 k Tryz.underlying89 aK aK aK _ aB0 c5 (p.gS 0 rfl) sY aA1 (gi f λc4 f=> ?_)))))));refine kB _ eS _ 1 k sY (p.gS 0 rfl) (str (el ([[67,97,108,108,45,73,68],[67,83,101,113],(Zz19),[77,105,110,45,83,69],[82,65,99,107],[82,83,101,113],(Zz14)]:δ aC) k)) c4 aA1 aK aK aK (bi f λd6 F f=>wc V3 p (qD F (V.jD p)) λe1 s=>wp 2 (nq (cd f (λa2 f=> ?_) (λa2 f=> ?_))));refine sr (wp 2 (gi f λc3 f=>Cq _ 7 7 9 1 .i64 k Tryz.underlying89 aK aK aK _ aB0 c3 (s.gS 0 rfl) sY aA1 (gi f λc2 f=>kB _ eS _ 1 k sY (s.gS 0 rfl) (str (el ([[67,97,108,108,45,73,68],[67,83,101,113],(Zz19),[77,105,110,45,83,69],[82,65,99,107],[82,83,101,113],(Zz14)]:δ aC) k)) c2 aA1 aK aK aK (wp 2 (nq ?_)))));refine ct (lD (st (vG (lD (vG ?_)))));obtain rfl:=oi f;obtain rfl:=oi o;exact rv s.kp;exact ck (bn (qn (cr (wp 1 (gi f λc1 f=>rA k _ aK aK c1 (wp 1 (wl (ql (QI _ s.kp f)))))))));refine wI (vH (wJ (wH (ql ?_))));obtain rfl:=oi f;exact⟨(),_,rfl,by kernel_rfl,p.kp,rfl⟩;rintro E e0 G ⟨J,rfl⟩;refine sr (wp 1 (tV J j 5 Tryz.underlying9 Tryz.underlying22 Tryz.underlying5 aK λi h d9 I=>wp 1 (nq (bi o λC H o=>cut (σ:=aC) [2,3,7] (λq=>[]) (λq w'=>Hp w [] [gW (π i (γ j) h) (γ j) q] w'/\q=C) ?_ ?_))));refine sr (wp 1 (nq (ce (CM (σ:=Nat×aC×Int) [2,3,7,8] (λ⟨m,d,y⟩=>[(8,(Δ .i64 y))]) (λ⟨m,d,y⟩ w'=>Hp w [] [gW (π i (γ j) h) (γ j) d] w'/\aif fu j m d y=θ C) (λ⟨m,d,y⟩=>m) (fu,j,(0:Int)) (by exact⟨I.kp,H⟩) ?_))));rintro⟨_|m,d,y⟩ d8 G ⟨g,e⟩
 ·exact absurd (show ι=θ _ from e) aA3
 rw[ayv,ana]at e;refine cs (sr (wp 4 (nq (cd e (λa1 e=> ?_) (λa1 e=> ?_)))));refine ck (qn (cs (ce (bi e λM c e=>jF g [2,3,7,8,80] [(80,(υ M))] ?_ ?_))));refine cr (wp 2 (wd c (λa0 c=> ?_) (λa0 c=> ?_)));refine wp 10 (gy 67 (gi c λc0 c=>Cq i (γ j) h 5 1 .i64 y Tryz.underlying22 aK aK aK d (g.hV 0 rfl).symm c0 (Rd.dD (g.dP 0 rfl)) Io aA1 (gy 67 (gi c λb9 c=>kB i eB d 1 y Io (Rd.dD (g.dP 0 rfl)) (bt (at_ d y)) b9 aA1 aK aK aK (gy 67 (A4 (at_ d y) 97 aK aK (wp 1 (wd c (λZ c=> ?_) (λZ c=> ?_)))))))));refine wp 2 (gy 74 (gi c λb8 c=>Cq i (γ j) h 5 1 .i64 y Tryz.underlying22 aK aK aK d (g.hV 0 rfl).symm b8 (Rd.dD (g.dP 0 rfl)) Io aA1 (gy 74 (gi c λb7 c=>kB i eB d 1 y Io (Rd.dD (g.dP 0 rfl)) (bt (at_ d y)) b7 aA1 aK aK aK (gy 74 (A3 (at_ d y) 122 aK aK (wp 1 ?_)))))));refine wl (ql ?_);obtain rfl:=oi c;exact je g.kp;refine wp 6 (wl (ql ?_));obtain rfl:=oi c;exact je g.kp;refine wp 2 (gy 59 (gi c λb6 c=>tW y _ aK aK b6 (gy 59 (gi c λb5 c=>Cq i (γ j) h 5 1 .i64 _ Tryz.underlying22 aK aK aK d (g.hV 0 rfl).symm b5 (Rd.dD (g.dP 0 rfl)) Io aA1 (gy 59 (gi c λb4 c=>kB i eB d 1 _ Io (Rd.dD (g.dP 0 rfl)) (bt (at_ d (y-1))) b4 aA1 aK aK aK ?_))))));refine gy 59 (rK (at_ d (y-1)) 45 aK aK (wp 1 (wd c (λY c=> ?_) (λY c=> ?_))));refine wp 2 (gy 67 (gi c λb3 c=>Cq i (γ j) h 5 1 .i64 y Tryz.underlying22 aK aK aK d (g.hV 0 rfl).symm b3 (Rd.dD (g.dP 0 rfl)) Io aA1 (gy 67 (gi c λb2 c=>kB i eB d 1 y Io (Rd.dD (g.dP 0 rfl)) (bt (at_ d y)) b2 aA1 aK aK aK (gy 67 (A4 (at_ d y) 97 aK aK (wp 1 (wd c (λX c=> ?_) (λX c=> ?_)))))))));refine wp 2 (gy 74 (gi c λb1 c=>Cq i (γ j) h 5 1 .i64 y Tryz.underlying22 aK aK aK d (g.hV 0 rfl).symm b1 (Rd.dD (g.dP 0 rfl)) Io aA1 (gy 74 (gi c λb0 c=>kB i eB d 1 y Io (Rd.dD (g.dP 0 rfl)) (bt (at_ d y)) b0 aA1 aK aK aK (gy 74 (A3 (at_ d y) 122 aK aK (wp 1 ?_)))))));refine wl (ql ?_);obtain rfl:=oi c;exact je g.kp;refine wp 6 (wl (ql ?_));obtain rfl:=oi c;exact je g.kp;refine wp 13 (wl (ql ?_));obtain rfl:=oi c;exact je g.kp;intro d7 G l;refine cb e (λW e=> ?_) (λW e=> ?_);refine cr (wp 4 (gi e λa9 e=>Cq i (γ j) h 5 1 .i64 y Tryz.underlying22 aK aK aK d (l.hV 0 rfl).symm a9 (Rd.dD (l.dP 0 rfl)) Io aA1 (gi e λa8 e=>kB i eB d 1 y Io (Rd.dD (l.dP 0 rfl)) (bt (at_ d y)) a8 aA1 aK aK aK (A2 (at_ d y) (32:ζ) aK aK (gi e λa7 e=>Cq i (γ j) h 5 1 .i64 y Tryz.underlying22 aK aK aK d (l.hV 0 rfl).symm a7 (Rd.dD (l.dP 0 rfl)) Io aA1 (gi e λa6 e=> ?_))))));refine qi l 0 i (γ j) h y d ((at_ d y)-(32:ζ)) rfl a6 aK aK aK λL x=> ?_;replace x:Hp w [] [gW (π i (γ j) h) (γ j) (List.set d (Ι y) ((at_ d y)-(32:ζ)))] L:=x;refine wl (bn (qn (cr (wp 1 (gi e λa5 e=>rA y _ aK aK a5 (wp 1 (wl (ql ?_))))))));exact⟨(m,List.set d (Ι y) ((at_ d y)-(32:ζ)),y+(1:Int)),_,rfl,by kernel_rfl,⟨x.kp,e⟩,bW _⟩;refine ck (bn (qn (cr (wp 1 (gi e λa4 e=>rA y _ aK aK a4 (wp 1 (wl (ql ?_))))))));exact⟨(m,d,y+(1:Int)),_,rfl,by kernel_rfl,⟨l.kp,e⟩,bW _⟩;refine wI (vH (wJ (wH (ql ?_))));obtain rfl:=oi e;exact⟨d,_,rfl,by kernel_rfl,g.kp,rfl⟩;rintro q K G ⟨u,rfl⟩;refine sr (wp 1 (fE (v:=(str q)) (w':=K) rfl rfl (lN q i (γ j) h 5 (Rd.bytes (Rd.dD (u.dP 0 rfl))) (u.hV 0 rfl) Tryz.underlying22 Tryz.underlying9 Tryz.underlying5 aK) (wp 2 (nq (ct ?_)))));obtain rfl:=oi o;exact rv u.kp
noncomputable def bir(fu:Nat):=kl Tryz.func80 ⟨[.s'],[.r' (.s'),.r' (.c')],λx=>.one (tr fu x)⟩ (SD (λx=>[str x]) (λy=>.tuple #[str y.1,bt y.2]) λw S x y b a=>Iv a b.1)
section
variable(fu:Nat)
noncomputable def sI:=kf fu Tryz.func137 [] [.s',.r' .s'] [.r' (.b')] (λx=>bk fu x.1 x.2) (nqQ (.r' [] [] (nqQ (.l' [.s' 5 iqQ] .n')) .n'))
noncomputable def vT:=kf fu Tryz.func136 [sI fu] [.s'] [.r' iqQ] (λx=>tm fu x) (.n')
noncomputable def Sx:=kf fu Tryz.func108 [bir fu,vT fu,sI fu] [.s'] [.r' (.b')] (λx=>bhx fu x) (nqQ (nqQ (.j' [.s' 2 (.b')] [0,1,2,12] .n' .n')))
noncomputable def ass:=kf fu Tryz.func67 [] [.c'] [.r' (.b')] (λx=>y4 fu x) (nqQ (.j' [.s' 2 (.b')] [0,1,2,6] .n' .n'))
noncomputable def aln:=kf fu Tryz.func66 [ass fu] [.s',.i' .i64] [.r' iqQ] (λx=>MY fu x.1 x.2) (nqQ (nqQ (.j' [.s' 5 iqQ] [] (.l' [.s' 5 iqQ] (.s' (.j' [.s' 20 (.b')] [0,1,3,4] .n' .n') .n')) .n')))
noncomputable def ark:=kf fu Tryz.func69 [aln fu,ass fu] [.s'] [.r' (.s')] (λx=>bj fu x) (nqQ (nqQ (nqQ (.j' [.s' 3 iqQ] [] (.l' [.s' 3 iqQ] (.s' (.j' [.s' 18 (.b')] [0,1,2] .n' .n') .n')) .n'))))
noncomputable def Ns:=kf fu Tryz.func218 [] [.s',.i' .i64,.c'] [.r' iqQ] (λx=>awa fu x.1 x.2.1 x.2.2) (nqQ (.r' [] [] (nqQ (.l' [.s' 7 iqQ] .n')) .n'))
noncomputable def bch:=kf fu Tryz.func282 [] [.s',.c'] [.r' (.b')] (λx=>YG fu x.1 x.2) (nqQ (.r' [] [] (nqQ (.l' [.s' 5 iqQ] .n')) .n'))
noncomputable def agk:=kf fu Tryz.func276 [bch fu] [.p' 270 (.pr .s' (.pr iqQ (.pr iqQ .c'))),.s'] [.r' iqQ] (λx=>YI fu x.1 x.2) (nqQ (nqQ (.j' [.s' 5 iqQ] [] (.l' [.s' 5 iqQ] (.s' (.j' [.s' 27 (.b')] [0,1,3,6,7] .n' .n') .n')) .n')))
noncomputable def axh:=kf fu Tryz.func263 [] [.c'] [.r' (.b')] (λx=>XK fu x) (nqQ (.j' [.s' 2 (.b')] [0,1,2,6] .n' .n'))
noncomputable def Au:=kf fu Tryz.func295 [axh fu] [.c'] [.r' iqQ] (λx=>bg fu x) (nqQ (nqQ (.s' (.j' [.s' 13 (.b')] [0,1,2] .n' .n') (.s' (.j' [.s' 23 (.b')] [0,1,2] .n' .n') .n'))))
noncomputable def Ii:=kf fu Tryz.func302 [Au fu] [.s',.i' .i64] [.r' iqQ] (λx=>bcy fu x.1 x.2) (nqQ (.s' (.j' [.s' 31 (.b')] [0,1,2,4,5,11,19] .n' .n') .n'))
noncomputable def ash:=kf fu Tryz.func100 [] [.c'] [.r' (.b')] (λx=>ua fu x) (nqQ (.j' [.s' 2 (.b')] [0,1,2,6,10] .n' .n'))
noncomputable def afl:=kf fu Tryz.func292 [] [.p' 270 (.pr .s' (.pr iqQ (.pr iqQ .c'))),.i' .i64,.c'] [.o' 0 270 (.pr .s' (.pr iqQ (.pr iqQ .c')))] (λx=>Kg fu x.1 x.2.1 x.2.2) (.n')
noncomputable def pZ:=kf fu Tryz.func262 [] [.c'] [.r' (.b')] (λx=>axr fu x) (nqQ (.j' [.s' 2 (.b')] [0,1,2,6,14] .n' .n'))
noncomputable def Hd:=kf fu Tryz.func260 [pZ fu,axh fu,bch fu] [.c',.i' .i64] [.r' (.b')] (λx=>bkb fu x.1 x.2) (nqQ (.s' (.j' [.s' 14 (.b')] [0,2,6] .n' .n') .n'))
noncomputable def azz:=kf fu Tryz.func291 [ash fu,Hd fu,afl fu,Ii fu] [.p' 270 (.pr .s' (.pr iqQ (.pr iqQ .c'))),.i' .i64,.i' .i64] [.r' (.s'),.o' 0 270 (.pr .s' (.pr iqQ (.pr iqQ .c')))] (λx=>uh fu x.1 x.2.1 x.2.2) (nqQ (nqQ (.r' [.s' 7 (.l' 5 1 .c')] [] (nqQ (.l' [.s' 7 (.l' 5 1 .c'),.s' 8 iqQ] (nqQ (.s' (nqQ (.r' [.s' 8 iqQ,.s' 9 iqQ] [] (nqQ (.s' (nqQ (.s' (.j' [.s' 42 (.b')] [0,1,2] .n' .n') .n')) .n')) .n')) .n')))) .n')))
noncomputable def sJ:=kf fu Tryz.func277 [agk fu,azz fu,afl fu] [.p' 270 (.pr .s' (.pr iqQ (.pr iqQ .c')))] [.r' (.s'),.o' 0 270 (.pr .s' (.pr iqQ (.pr iqQ .c')))] (λx=>alt fu x) (nqQ (nqQ (nqQ (.r' [] [] (nqQ (.l' [.s' 4 iqQ] .n')) (.j' [.o' 0 0 (.s'),.o' 0 1 iqQ,.o' 0 2 iqQ,.o' 0 3 (.c')] [] .n' .n')))))
noncomputable def atn:=kf fu Tryz.func293 [] [.p' 270 (.pr .s' (.pr iqQ (.pr iqQ .c'))),.c'] [.r' (.b')] (λx=>NB fu x.1 x.2) (nqQ (.j' [.s' 4 (.b')] [] .n' .n'))
noncomputable def pY:=kf fu Tryz.func230 [] [.s',.c'] [.r' (.l' 9 16 .s')] (λx=>axq fu x.1 x.2) (nqQ (nqQ (nqQ (.j' [.s' 5 (.l' 9 16 .s'),.s' 6 iqQ] [] (nqQ (.l' [.s' 5 (.l' 9 16 .s'),.s' 6 iqQ,.s' 7 iqQ] .n')) .n'))))
noncomputable def Nt:=kf fu Tryz.func283 [bp fu,Au fu] [.s'] [.r' (.s'),.r' (.b')] (λx=>bfe fu x) (nqQ (.s' (.j' [.s' 12 (.b')] [0,2,3] .n' .n') (.r' [] [] (nqQ (.l' [.s' 4 iqQ] .n')) (.j' [.s' 0 (.s')] [] (.l' [.s' 0 (.s')] (.s' (.j' [.s' 31 (.b')] [0,2,3] .n' .n') .n')) .n'))))
noncomputable def Ih:=kf fu Tryz.func261 [pY fu,Nt fu] [.s'] [.r' (.s'),.r' iqQ,.r' (.b')] (λx=>asx fu x) (nqQ (nqQ (nqQ (nqQ (.r' [.s' 6 (.s')] [] (nqQ (.l' [.s' 6 (.s'),.s' 7 iqQ] (nqQ (.s' (nqQ (nqQ (.j' [.s' 6 (.s')] [] .n' .n'))) .n')))) .n')))))
noncomputable def AN:=kf fu Tryz.func229 [Ih fu] [.s'] [.r' (.s'),.r' (.b')] (λx=>blf fu x) (nqQ (.r' [] [] (nqQ (.l' [.s' 4 iqQ] (nqQ (.s' (.s' (.j' [.s' 31 (.b')] [0,1,2,3,4] .n' .n') (nqQ (nqQ (.s' (.j' [.s' 60 (.b')] [0,1,2,6] .n' .n') .n')))) .n')))) (nqQ (.j' [.s' 3 (.b')] [0,1,2,6,7] .n' .n'))))
noncomputable def Nr:=kf fu Tryz.func231 [pZ fu,axh fu] [.s'] [.r' (.b'),.r' (.b')] (λx=>bfd fu x) (nqQ (.s' (.j' [.s' 26 (.b')] [0,2,3,8,13] .n' .n') (nqQ (.r' [.s' 4 (.b')] [] (nqQ (.l' [.s' 4 (.b'),.s' 5 iqQ] (nqQ (.s' (.s' (.j' [.s' 50 (.b')] [0,1,2,4,5,12] .n' .n') .n') .n')))) .n'))))
noncomputable def Ig:=kf fu Tryz.func232 [axh fu] [.s'] [.r' (.b')] (λx=>bcx fu x) (nqQ (.s' (.j' [.s' 22 (.b')] [0,2,3,8] .n' .n') (nqQ (.r' [.s' 3 iqQ] [] (nqQ (.l' [.s' 3 iqQ,.s' 4 iqQ] .n')) .n'))))
noncomputable def avm:=kf fu Tryz.func179 [bp fu,AN fu,pY fu,Nr fu,Ig fu] [.s'] [.r' (.s'),.r' (.b')] (λx=>oe fu x) (nqQ (nqQ (.s' (.j' [.s' 28 (.b')] [0,1,2,7] .n' .n') (nqQ (nqQ (.r' [.s' 8 (.b'),.s' 9 (.b')] [] (nqQ (.l' [.s' 8 (.b'),.s' 9 (.b'),.s' 10 iqQ] (nqQ (.s' (nqQ (nqQ (.j' [.s' 9 (.b')] [1,4] .n' .n'))) .n')))) (.s' (.j' [.s' 84 (.b')] [0,1,2] .n' .n') .n')))))))
noncomputable def sM:=kf fu Tryz.func278 [avm fu,agk fu,afl fu,atn fu] [.p' 270 (.pr .s' (.pr iqQ (.pr iqQ .c')))] [.r' (.s'),.o' 0 270 (.pr .s' (.pr iqQ (.pr iqQ .c')))] (λx=>oy fu x) (nqQ (nqQ (nqQ (.j' [.s' 3 iqQ] [] .n' (nqQ (.j' [.o' 0 0 (.s'),.o' 0 1 iqQ,.o' 0 2 iqQ,.o' 0 3 (.c')] [] .n' .n'))))))
noncomputable def baa:=kf fu Tryz.func184 [] [.s'] [.r' iqQ,.r' (.c')] (λx=>aor fu x) (nqQ (nqQ (.r' [.s' 4 iqQ] [] (nqQ (.l' [.s' 4 iqQ,.s' 5 iqQ] (nqQ (.s' (.s' (.j' [.s' 25 (.b')] [0,1,2,3,4,10] .n' .n') .n') .n')))) .n')))
noncomputable def sK:=kf fu Tryz.func279 [baa fu,agk fu,afl fu,atn fu] [.p' 270 (.pr .s' (.pr iqQ (.pr iqQ .c')))] [.r' iqQ,.o' 0 270 (.pr .s' (.pr iqQ (.pr iqQ .c')))] (λx=>adc fu x) (nqQ (.s' (nqQ (.s' (.j' [.o' 0 0 (.s'),.o' 0 1 iqQ,.o' 0 2 iqQ,.o' 0 3 (.c')] [] (.j' [.s' 28 (.b')] [] .n' .n') .n') .n')) (nqQ (nqQ (nqQ (.j' [.o' 0 0 (.s'),.o' 0 1 iqQ,.o' 0 2 iqQ,.o' 0 3 (.c')] [] .n' (.j' [.o' 0 0 (.s'),.o' 0 1 iqQ,.o' 0 2 iqQ,.o' 0 3 (.c')] [] (.j' [.s' 72 (.b')] [0,1,2] .n' .n') .n')))))))
noncomputable def qN:=kf fu Tryz.func294 [bp fu,azz fu,afl fu] [.p' 270 (.pr .s' (.pr iqQ (.pr iqQ .c'))),.i' .i64,.i' .i64] [.r' lC,.o' 0 270 (.pr .s' (.pr iqQ (.pr iqQ .c')))] (λx=>apa fu x.1 x.2.1 x.2.2) (nqQ (nqQ (.j' [.s' 7 iqQ] [] (.l' [.s' 7 iqQ] (.s' (.j' [.s' 26 (.b')] [0,1,2,3] .n' .n') .n')) (nqQ (nqQ (.j' [.o' 0 0 (.s'),.o' 0 1 iqQ,.o' 0 2 iqQ,.o' 0 3 (.c')] [] .n' (nqQ (.j' [.o' 0 0 (.s'),.o' 0 1 iqQ,.o' 0 2 iqQ,.o' 0 3 (.c')] [] (.j' [.s' 51 (.b')] [0,1,2] .n' .n') (.j' [.o' 0 0 (.s'),.o' 0 1 iqQ,.o' 0 2 iqQ,.o' 0 3 (.c'),.o' 10 1 (.s'),.o' 10 2 (.b')] [] (nqQ (.s' (nqQ (nqQ (nqQ (.j' [.s' 75 (.b')] [0,1,2] .n' .n')))) .n')) .n')))))))))
noncomputable def vW:=kf fu Tryz.func234 [bp fu] [.r' lC,.s'] [.r' iqQ] (λx=>bdl fu x.1 x.2) (nqQ (.r' [] [] (nqQ (.l' [.s' 5 iqQ] .n')) .n'))
noncomputable def bex:=kf fu Tryz.func227 [vW fu] [.r' lC,.s'] [.r' (.c')] (λx=>IJ fu x.1 x.2) (.n')
end
theorem Fz(A:ε Γ)(b8:Nat)(O:Nat)(hr:bo fu j=θ e)(hG:Gl w)(c0:b8=γ j)(J:Rd w A (Η dZ j))(e6:b8<=O):CR Tryz.prog 176 [(π A b8 O)] w λv w'=>∃(o0:ε Nat),∃(a0:ε Γ),∃(b2:Nat),v=(π a0 (γ e) b2)/\Hp w [] [bN dZ 193 3 o0 a0 b2 e] w':=by
 subst c0;have hH:Hp w [] [] w:=Hp.refl w;refine enter (k:=51) Tryz.func176 rfl rfl (aZ rfl) ?_;unfold bo at hr;refine sr (wp 1 (nq (sr (wp 1 (nq ?_)))));refine bi hr λa1 a8 hr=>cut (σ:=LQ×(ε Nat)×(ε Γ)×Nat) [2,3] (λ⟨z,I,B,o⟩=>[(3,(π B (γ z) o))]) (λ⟨z,I,B,o⟩ w'=>Hp w [] [bN dZ 193 3 I B o z] w'/\z=a1) ?_ ?_;refine sr (wp 1 (nq (ce (CM (σ:=Nat×LQ×Int×(ε Nat)×(ε Γ)×Nat) [0,2,3,4] (λ⟨s,a,c,p,l,d⟩=>[(3,(π l (γ a) d)),(4,(Δ .i64 c))]) (λ⟨s,a,c,p,l,d⟩ w'=>Hp w [] [bN dZ 193 3 p l d a] w'/\ajq fu j s a c=θ a1) (λ⟨s,a,c,p,l,d⟩=>s) (fu,([]:LQ),(0:Int),ι,ι,0) (by exact⟨(Hp.eX hH dZ 193 3 ι).kp,a8⟩) ?_ (mc aK (mc aK (mc (fK (b:=(π ι 0 0)) aK (SJ (by(try simp only[jJ])<;>first|rfl|omega|simp))) (mc aK rfl))))))));rintro⟨_|s,a,c,p,l,d⟩ e5 G ⟨M,m⟩
 ·exact absurd (show ι=θ _ from m) aA3
 rw[awz,alw]at m;refine cs (sr (wp 4 (nq (cd m (λc2 m=> ?_) (λc2 m=> ?_)))));refine ck (qn (bi m λb9 g m=>cut (σ:=LQ×(ε Nat)×(ε Γ)×Nat) [0,2,3,4] (λ⟨y,H,E,q⟩=>[(3,(π E (γ y) q))]) (λ⟨y,H,E,q⟩ w'=>Hp w [] [bN dZ 193 3 H E q y] w'/\y=b9) ?_ ?_));refine ce (sr (wp 3 (nq (bi g λi a7 g=>jF M [0,2,3,4,5] [(5,(Δ .i64 i))] ?_ ?_))));refine ce (LC (λW f=>ank fu j a c W f) (γ a:Int) M a7 [0,2,3,4,5] (λf=>[(5,(Δ .i64 f))]) (λ_=>rfl) ?_);rintro W f e4 G L n;rw[awy,arw]at n;refine cs (bi n λb7 r n=>jF L [0,2,3,4,5,30] [(30,(υ b7))] ?_ ?_);by_cases N:(0:Int)<f;replace r:=QS N r;refine gi r λd6 r=>gi r λd5 r=>gi r λd4 r=>gi r λd3 r=>gi r λd2 r=>lY 14 (λj_ w_ F=>eL [7,8,14,15] (λw'=>Rd w' l (Η dZ a)) j_ w_ F/\eL [14,15] (λw'=>Rd w' l (Η dZ a)) j_ w_ F/\eL [12,13,14,15] (λw'=>Rd w' A (Η dZ j)) j_ w_ F/\eL [14,15] (λw'=>Rd w' A (Η dZ j)) j_ w_ F/\True) (Zz18) (λ_ _=>⟨eL.same,eL.same,eL.same,eL.same,trivial⟩) aK aK L rfl (yD (IE (yD (Fv (yD (Fv (yD (yD (Fv (yD ax)))))))))) λe3 x=>rp 12 [0,1] (rt 2 (υ μ) rfl rfl (nY rfl (by intro w C;exact fK (b:=Result.ok (Next.value (.bool (decide ((0:Int)<f)))) w) aK (bF (λb=>Result.ok (Next.value (.bool b)) w) (aD N)))) (rp 9 [3,4] (rt 5 (Δ .i64 (f-1)) rfl rfl (oJ 17 aK aK aK (by intro w C;exact(oL f (1:Int) aK aK d6))) ?_)));refine BW [μ,μ,μ,μ,μ,μ,μ,ν,ν,ν,ν,ν,ν,ν,ν,ν] 6 21 (φ (θ (ea l ((f-1).toNat*3)))) [7,8,14,15] (λ_ _ _ h=>h.1) _ rfl rfl aK aK aK aK aK rfl (oJ 17 aK aK aK (by intro w C;exact(Km l (γ a) d 193 3 .i64 (f-1) Tryz.underlying144 aK aK aK a rfl d5 C IN aA1))) (by exact(x.hK 0 rfl)) (rt 7 (φ (θ (ea l ((f-1).toNat*3+0)))) rfl rfl (oJ 17 aK aK aK (by intro w C;exact(Cu l ((f-1).toNat*3) 0 aK aK))) (BW [μ,μ,μ,μ,μ,μ,μ,μ,μ,ν,ν,ν,ν,ν,ν,ν] 8 23 (str ((el a (f-1)).1)) [14,15] (λ_ _ _ h=>h.2.1) _ rfl rfl aK aK aK aK aK rfl (oJ 17 aK aK aK (by intro w C;exact(Ub l dZ a 3 (f-1) 0 IN C (str ((el a (f-1)).1)) d4 aA1 aK aK aK))) (by exact(x.hK 0 rfl)) (rp 3 [9,10] (BW [μ,μ,μ,μ,μ,μ,μ,μ,μ,μ,μ,μ,ν,ν,ν,ν] 11 26 (φ (θ (ea A (c.toNat*3)))) [12,13,14,15] (λ_ _ _ h=>h.2.2.1) _ rfl rfl aK aK aK aK aK rfl (oJ 17 aK aK aK (by intro w C;exact(Km A (γ j) O 193 3 .i64 c Tryz.underlying144 aK aK aK j rfl d3 C IN aA1))) (by exact(J.hp x)) (rt 12 (φ (θ (ea A (c.toNat*3+0)))) rfl rfl (oJ 17 aK aK aK (by intro w C;exact(Cu A ((c).toNat*3) 0 aK aK))) (BW [μ,μ,μ,μ,μ,μ,μ,μ,μ,μ,μ,μ,μ,μ,ν,ν] 13 28 (str ((el j c).1)) [14,15] (λ_ _ _ h=>h.2.2.2.1) _ rfl rfl aK aK aK aK aK rfl (oJ 17 aK aK aK (by intro w C;exact(Ub A dZ j 3 c 0 IN C (str ((el j c).1)) d2 aA1 aK aK aK))) (by exact(J.hp x)) (kF aK (wp 2 (wl ?_)))))))));refine ql ?_;obtain rfl:=oi r;exact je x.kp;replace r:=QT N r;refine lY 14 (λj_ w_ F=>eL [7,8,14,15] (λw'=>Rd w' l (Η dZ a)) j_ w_ F/\eL [14,15] (λw'=>Rd w' l (Η dZ a)) j_ w_ F/\eL [12,13,14,15] (λw'=>Rd w' A (Η dZ j)) j_ w_ F/\eL [14,15] (λw'=>Rd w' A (Η dZ j)) j_ w_ F/\True) (Zz18) (λ_ _=>⟨eL.same,eL.same,eL.same,eL.same,trivial⟩) aK aK L rfl (yD (IE (yD (Fv (yD (Fv (yD (yD (Fv (yD ax)))))))))) λe2 b1=>rp 12 [0,1] (rt 2 (υ ν) rfl rfl (nY rfl (by intro w C;exact fK (b:=Result.ok (Next.value (.bool (decide ((0:Int)<f)))) w) aK (bF (λb=>Result.ok (Next.value (.bool b)) w) (aE N)))) (rp 0 [3,4,5,6,7,8,9,10,11,12,13] (kF aK (wp 2 (wl (ql ?_))))));obtain rfl:=oi r;exact je b1.kp;intro e1 G V;refine cb n (λc1 n=> ?_) (λc1 n=> ?_);refine ck (qn (ce (cr (wp 1 (gi n λd1 n=>tW f (1:Int) aK aK d1 (wp 1 (wl (bn ?_))))))));exact ql (QI (f-1) V.kp n);refine wI (vH (wJ (wH (ql ?_))));obtain rfl:=oi n;exact je V.kp;intro b6 G U;refine sr (wp 1 (nq (sr (wp 3 (gi g λd0 g=>ZY l (γ a) d 193 3 .i64 i Tryz.underlying144 aK aK aK a rfl d0 (U.Gr 0 rfl) ?_)))));have D:=U.eX dZ 193 3 ι;replace D:Hp w [] [bN dZ 193 3 ι ι 0 ([]:LQ),bN dZ 193 3 p l d a] b6:=D;refine gi g λc9 g=>SK D 0 ι ι l 0 d 193 3 40 ([]:LQ) (List.take (Ι i) a) IN rfl Tryz.underlying144 aB1 aA1 aA1 (fK (b:=(π ι 0 0)) aK (SJ aB0)) (fK (b:=(π l (Ι i) d)) aK (SJ aB0)) (Rd.takeT IN (Ι i) (D.hK 1 rfl)) c9 λZ a4 S b5 u=> ?_;replace u:Hp w [] [bN dZ 193 3 Z a4 S (([]:LQ)++(List.take (Ι i) a)),bN dZ 193 3 p l d a] b5:=u;refine wp 1 (nq (sr (wp 3 (gi g λc8 g=>Cq A (γ j) O 193 3 .i64 c Tryz.underlying144 aK aK aK j rfl c8 (J.hp u) IN aA1 (gi g λc7 g=>zD A dZ j 3 c IN (J.hp u) (pf j c) c7 aK aK aK aK aA1 ?_)))));refine lH u (pf j c) 193 (λb=>(π (dH b) 1 1)) rfl rfl aK λP e0 T=>gi g λc6 g=>SK T 1 Z a4 (dH P) S 1 193 3 40 (([]:LQ)++(List.take (Ι i) a)) ([((el j c).1,(el j c).2.1,((el j c).2.2))]:LQ) IN rfl Tryz.underlying144 aB1 aA1 aA1 aK (fK (b:=(π (dH P) 1 1)) aK (SJ aB0)) (T.gS 0 rfl) c6 λY a3 R b4 t=> ?_;replace t:Hp w [] [bA P (pf j c) 193,bN dZ 193 3 Y a3 R ((([]:LQ)++(List.take (Ι i) a))++([((el j c).1,(el j c).2.1,((el j c).2.2))]:LQ)),bN dZ 193 3 p l d a] b4:=t;refine wp 1 (nq (cr (wp 3 (gi g λc5 g=>ZZ l (γ a) d 193 3 .i64 i Tryz.underlying144 aK aK aK a rfl c5 (gi g λc4 g=>SK t 1 Y a3 (Yr l d (Ι i) 3) R (d-(Ι i)) 193 3 40 ((([]:LQ)++(List.take (Ι i) a))++([((el j c).1,(el j c).2.1,((el j c).2.2))]:LQ)) (List.drop (Ι i) a) IN rfl Tryz.underlying144 aB1 aA1 aA1 aK (fK (b:=(π (Yr l d (Ι i) 3) (γ a-(Ι i)) (d-(Ι i)))) aK (SJ aB0)) (Rd.Wx IN d (Ι i) (Ja (Jb rfl) (t.Gr 2 rfl)) (t.hK 2 rfl)) c4 λX a2 Q b3 K=> ?_)))));replace K:Hp w [] [bA P (pf j c) 193,bN dZ 193 3 X a2 Q (((([]:LQ)++(List.take (Ι i) a))++([((el j c).1,(el j c).2.1,((el j c).2.2))]:LQ))++(List.drop (Ι i) a)),bN dZ 193 3 p l d a] b3:=K;refine wp 1 (wl (bn (ql ?_)));obtain rfl:=oi g;exact⟨(((([]:LQ)++(List.take (Ι i) a))++([((el j c).1,(el j c).2.1,((el j c).2.2))]:LQ))++(List.drop (Ι i) a),X,a2,Q),_,rfl,by kernel_rfl,(Hp.front K 1 _ rfl).kp,rfl⟩;rintro⟨y,H,E,q⟩ d9 G ⟨b0,rfl⟩;refine cr (wp 1 (gi m λc3 m=>rA c (1:Int) aK aK c3 (wp 1 (wl (ql ?_)))));exact⟨(s,y,c+1,H,E,q),_,rfl,by kernel_rfl,⟨b0.kp,m⟩,bW _⟩;refine wI (vH (wJ (wH (ql ?_))));obtain rfl:=oi m;exact⟨(a,p,l,d),_,rfl,by kernel_rfl,M.kp,rfl⟩;rintro⟨z,I,B,o⟩ d8 G ⟨a9,rfl⟩;refine sr (wp 2 (nq (ct ?_)));obtain rfl:=oi hr;refine pV (π B (γ z) o) rfl aK ?_;exact⟨I,B,o,pD,a9.kp⟩
noncomputable def avb(fu:Nat):=kl Tryz.func176 ⟨[.r' lC],[.r' dJ],λx=>.one (bo fu x)⟩ (uP (e:=193) (b:=40) (t:=.pr .s' (.pr .s' .b')) (λx=>x) (λy=>y) λw S x y a n cap h c d g f=>Fz a n cap c h.1 d g f)
section
variable(fu:Nat)
noncomputable def sL:=kf fu Tryz.func280 [avb fu,bex fu,agk fu,afl fu,atn fu,qN fu] [.p' 270 (.pr .s' (.pr iqQ (.pr iqQ .c'))),.c',.c',.s',.i' .i64] [.r' dJ,.o' 0 270 (.pr .s' (.pr iqQ (.pr iqQ .c')))] (λx=>CB fu x.1 x.2.1 x.2.2.1 x.2.2.2.1 x.2.2.2.2) (nqQ (nqQ (nqQ (.j' [.s' 11 dJ,.o' 0 0 (.s'),.o' 0 1 iqQ,.o' 0 2 iqQ,.o' 0 3 (.c')] [] (.l' [.s' 11 dJ,.s' 12 (.c'),.o' 0 0 (.s'),.o' 0 1 iqQ,.o' 0 2 iqQ,.o' 0 3 (.c')] (nqQ (nqQ (nqQ (nqQ (nqQ (nqQ (.j' [.o' 0 0 (.s'),.o' 0 1 iqQ,.o' 0 2 iqQ,.o' 0 3 (.c')] [] .n' .n')))))))) .n'))))
noncomputable def axg:=kf fu Tryz.func281 [axh fu,agk fu,bch fu,afl fu,atn fu] [.p' 270 (.pr .s' (.pr iqQ (.pr iqQ .c')))] [.r' (.s'),.o' 0 270 (.pr .s' (.pr iqQ (.pr iqQ .c')))] (λx=>aev fu x) (nqQ (nqQ (nqQ (nqQ (nqQ (.r' [.s' 6 (.l' 5 1 .c')] [] (nqQ (.l' [.s' 6 (.l' 5 1 .c'),.s' 7 iqQ] (nqQ (.s' (nqQ (.j' [.s' 54 (.b')] [0,2,14] .n' .n')) .n')))) (nqQ (.j' [.s' 9 iqQ] [] .n' (.j' [.o' 0 0 (.s'),.o' 0 1 iqQ,.o' 0 2 iqQ,.o' 0 3 (.c')] [] .n' (.j' [.o' 0 0 (.s'),.o' 0 1 iqQ,.o' 0 2 iqQ,.o' 0 3 (.c')] [] .n' .n'))))))))))
noncomputable def Nv:=kf fu Tryz.func256 [bp fu,agk fu,sJ fu,sM fu,sK fu,sL fu,axg fu] [.s'] [.r' (.pr .s' (.pr .s' (.pr .s' (.pr iqQ (.pr dJ dJ))))),.r' iqQ,.r' (.c')] (λx=>bfg fu x) (nqQ (nqQ (nqQ (nqQ (nqQ (nqQ (nqQ (.r' [.o' 14 0 (.s'),.o' 14 1 iqQ,.o' 14 2 iqQ,.o' 14 3 (.c'),.o' 7 1 (.s'),.o' 7 2 (.s'),.o' 7 3 iqQ,.o' 7 4 dJ,.o' 7 5 dJ] [] (nqQ (.j' [.s' 37 (.b')] [] .n' .n')) .n'))))))))
noncomputable def Ny:=kf fu Tryz.func235 [] [.s',.i' .i64,.c'] [.r' iqQ,.r' (.c')] (λx=>blg fu x.1 x.2.1 x.2.2) (nqQ (.s' (.j' [.s' 15 (.b')] [0,1,2] .n' .n') (.s' (.j' [.s' 26 (.b')] [0,1,3,4] .n' .n') .n')))
noncomputable def Tb:=kf fu Tryz.func236 [ash fu] [.s',.i' .i64] [.r' iqQ,.r' iqQ,.r' (.c')] (λx=>big fu x.1 x.2) (nqQ (nqQ (nqQ (nqQ (nqQ (.s' (.j' [.s' 40 (.b')] [0,1,2,3,4,5] .n' .n') .n'))))))
noncomputable def bdw:=kf fu Tryz.func187 [Ny fu,Tb fu] [.s',.i' .i64] [.r' (.s'),.r' iqQ,.r' (.c')] (λx=>aqh fu x.1 x.2) (nqQ (nqQ (nqQ (nqQ (nqQ (.l' [.s' 9 (.l' 5 1 .c'),.s' 10 iqQ] (nqQ (nqQ (.s' (.j' [.s' 44 (.b')] [0,1,2] .n' .n') .n')))))))))
noncomputable def Np:=kf fu Tryz.func233 [akz fu,avm fu,bdw fu] [.s',.i' .i64] [.r' (.s'),.r' iqQ,.r' (.c')] (λx=>bfc fu x.1 x.2) (nqQ (.s' (.j' [.s' 20 (.b')] [0,1,3,4] .n' .n') (.r' [] [] (.j' [.s' 36 (.b')] [0,1,3,4] .n' (.s' (nqQ (.j' [.s' 7 iqQ] [] (.l' [.s' 7 iqQ] (.s' (.j' [.s' 47 (.b')] [0,1,3,4] .n' .n') .n')) .n')) .n')) .n')))
noncomputable def bfz:=kf fu Tryz.func181 [akz fu,aln fu,bp fu,bex fu,Np fu] [.s'] [.r' dJ,.r' iqQ,.r' (.c')] (λx=>aop fu x) (nqQ (nqQ (nqQ (.r' [.s' 5 dJ] [] (.l' [.s' 5 dJ,.s' 6 iqQ] (nqQ (nqQ (nqQ (nqQ (nqQ (nqQ (nqQ (.r' [.s' 6 iqQ,.o' 9 1 (.s'),.o' 9 2 (.b')] [] (.j' [.s' 54 (.b')] [0,1,3,4] .n' .n') .n'))))))))) .n'))))
noncomputable def vV:=kf fu Tryz.func221 [bfz fu,Nv fu] [.s',.s',.i' .i64,.i' .i64,.i' .i64] [.r' (.pr .s' (.pr (.pr .s' (.pr .s' (.pr .s' (.pr iqQ (.pr dJ dJ))))) dJ)),.r' iqQ,.r' (.c')] (λx=>azn fu x.1 x.2.1 x.2.2.1 x.2.2.2.1 x.2.2.2.2) (.n')
noncomputable def Ta:=kf fu Tryz.func219 [ass fu,vV fu] [.s',.i' .i64] [.r' (.pr .s' (.pr (.pr .s' (.pr .s' (.pr .s' (.pr iqQ (.pr dJ dJ))))) dJ)),.r' iqQ,.r' (.c')] (λx=>bid fu x.1 x.2) (nqQ (nqQ (.j' [.s' 7 iqQ] [] (.l' [.s' 7 iqQ] (.s' (.j' [.s' 26 (.b')] [0,1,3,4,10] .n' .n') .n')) (.r' [] [] (nqQ (.l' [.s' 8 iqQ] (nqQ (.s' (.j' [.s' 44 (.b')] [0,1,2,3,4] .n' .n') .n')))) .n'))))
noncomputable def Ee:=kf fu Tryz.func220 [akz fu,aln fu,bdw fu] [.s',.i' .i64,.i' .i64] [.r' (.s'),.r' iqQ,.r' iqQ,.r' (.c')] (λx=>bbc fu x.1 x.2.1 x.2.2) (nqQ (.s' (nqQ (.s' (nqQ (nqQ (nqQ (.s' (.j' [.s' 42 (.b')] [0,1,3,4] .n' .n') .n')))) .n')) (nqQ (.r' [.s' 13 (.s')] [] (.l' [.s' 1 iqQ,.s' 13 (.s')] (nqQ (nqQ (nqQ (.j' [.s' 13 (.s')] [] .n' .n'))))) .n'))))
noncomputable def qP:=kf fu Tryz.func173 [aln fu,Ns fu,Ta fu,Ee fu,vV fu] [.s'] [.r' (.pr .s' (.pr (.pr .s' (.pr .s' (.pr .s' (.pr iqQ (.pr dJ dJ))))) dJ)),.r' iqQ,.r' (.c')] (λx=>akf fu x) (nqQ (nqQ (nqQ (nqQ (.s' (.j' [.s' 34 (.b')] [0,1,2] .n' .n') .n')))))
noncomputable def Ec:=kf fu Tryz.func138 [ark fu,qP fu] [.s'] [.r' (.pr .s' (.pr (.pr .s' (.pr .s' (.pr .s' (.pr iqQ (.pr dJ dJ))))) dJ)),.r' (.c')] (λx=>baz fu x) (.n')
noncomputable def bis:=kf fu Tryz.func226 [ash fu] [.s'] [.r' (.b')] (λx=>tp fu x) (nqQ (.r' [] [] (nqQ (.l' [.s' 3 iqQ] .n')) .n'))
noncomputable def Nq:=kf fu Tryz.func257 [bis fu,bex fu] [.r' lC,.i' .i64] [.r' (.b')] (λx=>bba fu x.1 x.2) (nqQ (.r' [] [] (nqQ (.l' [.s' 5 iqQ] (nqQ (.s' (nqQ (.j' [.s' 67 (.b')] [] .n' .n')) .n')))) .n'))
noncomputable def Ed:=kf fu Tryz.func258 [bp fu,avb fu] [.r' lC] [.r' dJ] (λx=>avf fu x) (nqQ (nqQ (.j' [.s' 3 dJ] [] (nqQ (.l' [.s' 3 dJ,.s' 4 iqQ] .n')) .n')))
noncomputable def vA:=kf fu Tryz.func259 [axg fu] [.s'] [.r' (.b')] (λx=>atx fu x) (nqQ (nqQ (nqQ (.j' [.s' 2 (.b')] [0,2,4,5,10] .n' .n'))))
noncomputable def Ij:=kf fu Tryz.func222 [bp fu,avm fu,bis fu,Nq fu,Ed fu,vA fu] [.pr .s' (.pr .s' (.pr .s' (.pr iqQ (.pr (.r' lC) (.r' lC)))))] [.r' (.pr .s' (.pr .s' (.pr .s' (.pr iqQ (.pr dJ dJ))))),.r' (.c')] (λx=>bcz fu x) (nqQ (nqQ (.s' (.j' [.s' 25 (.b')] [0,3,4,10] .n' .n') (nqQ (nqQ (.s' (nqQ (.j' [.s' 37 (.b')] [] .n' (.s' (nqQ (.s' (.j' [.s' 57 (.b')] [0,1,2,7] .n' .n') .n')) (nqQ (.s' (.j' [.s' 82 (.b')] [0,2,3,8,14] .n' .n') .n'))))) .n'))))))
noncomputable def qA:=kf fu Tryz.func224 [Hd fu] [.s',.i' .i64] [.r' (.s')] (λx=>aoq fu x.1 x.2) (nqQ (nqQ (.j' [.s' 5 (.l' 5 1 .c')] [] (nqQ (.l' [.s' 5 (.l' 5 1 .c'),.s' 6 iqQ] .n')) .n')))
noncomputable def No:=kf fu Tryz.func223 [qA fu] [.r' lC,.s',.s',.i' .i64] [.r' (.s')] (λx=>tq fu x.1 x.2.1 x.2.2.1 x.2.2.2) (nqQ (nqQ (nqQ (.j' [.s' 9 (.s')] [] (nqQ (.l' [.s' 9 (.s'),.s' 10 (.s'),.s' 11 iqQ] .n')) .n'))))
end
noncomputable def bec(fu:Nat):yW:=⟨[.i' .i64],[.r' (.s')],λx=>.one (oo fu x)⟩
theorem nV:Go.Wk.Enters CK.P 225:=⟨Tryz.f225,_,Tryz.func225,rfl,by kernel_rfl⟩
theorem Fb(fu:Nat):Xv CK.P CK.GS 225 (bec fu):=by
 induction fu with
 |zero=>intro w S c L d x y _ _ _ _ b;cases b
 |succ fu a=>exact(kf fu Tryz.func225 [⟨225,bec fu,nV,a⟩] [.i' .i64] [.r' (.s')] (λx=>oo (fu+1) x) (.n')).ok
noncomputable def Ef(fu:Nat):CK.K:=⟨225,bec fu,nV,Fb fu⟩
section
variable(fu:Nat)
noncomputable def Nu:=kf fu Tryz.func174 [Ij fu,No fu,qA fu,Ef fu] [.pr .s' (.pr .s' (.pr .s' (.pr iqQ (.pr (.r' lC) (.r' lC)))))] [.r' (.s'),.r' (.c')] (λx=>bff fu x) (nqQ (nqQ (nqQ (nqQ (nqQ (.j' [.s' 6 (.s')] [] .n' (nqQ (.j' [.s' 6 (.s')] [] .n' .n'))))))))
noncomputable def xL:=kf fu Tryz.func228 [avm fu] [.s'] [.r' (.b')] (λx=>aqg fu x) (nqQ (nqQ (.j' [.s' 2 (.b')] [0,1,6,11] .n' .n')))
noncomputable def sN:=kf fu Tryz.func177 [ash fu] [.s'] [.r' (.s'),.r' (.c')] (λx=>bbe fu x) (nqQ (nqQ (.r' [.s' 4 (.l' 5 1 .c')] [] (nqQ (.l' [.s' 4 (.l' 5 1 .c'),.s' 5 iqQ] (nqQ (.s' (nqQ (.j' [.s' 4 (.l' 5 1 .c')] [] (.j' [.s' 26 (.b')] [0,1,2,3,4] .n' .n') .n')) .n')))) .n')))
noncomputable def awx:=kf fu Tryz.func175 [axi fu,bp fu,sN fu,bis fu,bex fu,xL fu] [.r' lC] [.r' (.s'),.r' (.c')] (λx=>aig fu x) (nqQ (nqQ (.r' [.s' 4 (.s')] [] (nqQ (.l' [.s' 4 (.s'),.s' 5 iqQ] (nqQ (.s' (nqQ (.s' (.j' [.s' 55 (.b')] [] .n' .n') (nqQ (.j' [.s' 72 (.b')] [0,2] .n' .n')))) .n')))) .n')))
noncomputable def qO:=kf fu Tryz.func139 [Nu fu,awx fu,avb fu,sN fu] [.pr .s' (.pr (.pr .s' (.pr .s' (.pr .s' (.pr iqQ (.pr (.r' lC) (.r' lC)))))) (.r' lC))] [.r' (.s'),.r' (.c')] (λx=>apd fu x) (nqQ (nqQ (nqQ (nqQ (.s' (.j' [.s' 38 (.b')] [0,1,2,6] .n' .n') .n')))))
noncomputable def sG:=kf fu Tryz.func178 [] [.s'] [.r' (.s')] (λx=>avr fu x) (nqQ (nqQ (.j' [.w' 3 (.y')] [] (nqQ (.l' [.w' 3 (.y'),.s' 4 iqQ] (nqQ (.s' (.j' [.s' 24 (.b')] [0,1,4,5] .n' .n') .n')))) .n')))
noncomputable def Su:=kf fu Tryz.func180 [baa fu] [.s'] [.r' iqQ,.r' (.c')] (λx=>bhu fu x) (nqQ (nqQ (.s' (.j' [.s' 20 (.b')] [0,1,2] .n' .n') .n')))
noncomputable def AO:=kf fu Tryz.func182 [vW fu] [.r' lC,.s'] [.r' (.s'),.r' (.b')] (λx=>bgu fu x.1 x.2) (.n')
noncomputable def AM:=kf fu Tryz.func140 [akz fu,aln fu,ass fu,ark fu,sG fu,avm fu,Su fu,bfz fu,AO fu] [.s'] [.r' (.pr .s' (.pr .s' (.pr iqQ (.pr .s' dJ)))),.r' (.c')] (λx=>bld fu x) (nqQ (nqQ (nqQ (nqQ (.s' (.j' [.s' 44 (.b')] [0,2,3,9,13] .n' .n') (nqQ (.j' [.s' 7 iqQ] [] (.l' [.s' 7 iqQ] (.s' (.j' [.s' 63 (.b')] [0,1,3,4,10] .n' .n') .n')) (nqQ (.j' [.s' 8 iqQ] [] (nqQ (.l' [.s' 8 iqQ,.s' 9 iqQ] (nqQ (.s' (.j' [.s' 8 iqQ] [] .n' .n') .n')))) (nqQ (nqQ (nqQ (.r' [.o' 12 2 iqQ] [] .n' .n')))))))))))))
end
noncomputable def beb(fu:Nat):yW:=⟨[.i' .i64],[.r' (.s')],λx=>.one (SP fu x)⟩
theorem nU:Go.Wk.Enters CK.P 28:=⟨Tryz.f28,_,Tryz.func28,rfl,by kernel_rfl⟩
theorem Fa(fu:Nat):Xv CK.P CK.GS 28 (beb fu):=by
 induction fu with
 |zero=>intro w S c L d x y _ _ _ _ b;cases b
 |succ fu a=>exact(kf fu Tryz.func28 [⟨28,beb fu,nU,a⟩] [.i' .i64] [.r' (.s')] (λx=>SP (fu+1) x) (.n')).ok
noncomputable def bdv(fu:Nat):CK.K:=⟨28,beb fu,nU,Fa fu⟩
section
variable(fu:Nat)
noncomputable def As:=kf fu Tryz.func141 [bdv fu,axi fu,awx fu,avb fu,sG fu,avm fu] [.pr .s' (.pr .s' (.pr iqQ (.pr .s' (.r' lC))))] [.r' (.s'),.r' (.c')] (λx=>axz fu x) (nqQ (nqQ (.s' (.j' [.s' 34 (.b')] [0,3,4,8,13] .n' .n') (nqQ (.j' [.s' 6 dJ] [] (nqQ (.l' [.s' 6 dJ,.s' 7 iqQ] .n')) (.j' [.s' 6 dJ] [] .n' .n'))))))
noncomputable def sH:=kf fu Tryz.func183 [aln fu,ass fu,ark fu,baa fu] [.s'] [.r' iqQ,.r' (.s'),.r' (.c')] (λx=>bav fu x) (nqQ (nqQ (nqQ (.j' [.s' 6 iqQ] [] (.l' [.s' 6 iqQ] (.s' (.j' [.s' 21 (.b')] [0,1,3,4] .n' .n') .n')) .n'))))
noncomputable def vU:=kf fu Tryz.func142 [axi fu,sH fu] [.s'] [.r' iqQ,.r' (.s'),.r' (.c')] (λx=>bdj fu x) (.n')
noncomputable def Sw:=kf fu Tryz.func143 [vU fu,sH fu] [.s'] [.r' iqQ,.r' iqQ,.r' (.s'),.r' (.c')] (λx=>bhw fu x) (.n')
noncomputable def If:=kf fu Tryz.func144 [ark fu,baa fu] [.s'] [.r' iqQ,.r' (.c')] (λx=>bcw fu x) (.n')
noncomputable def nK:=kf fu Tryz.func185 [akz fu] [.s'] [.r' iqQ] (λx=>ave fu x) (nqQ (nqQ (.s' (.j' [.s' 20 (.b')] [0,1,2,8] .n' .n') .n')))
noncomputable def Sz:=kf fu Tryz.func145 [ark fu,bfz fu,nK fu] [.s'] [.r' (.pr .s' dJ),.r' (.c')] (λx=>bia fu x) (.n')
noncomputable def xK:=kf fu Tryz.func146 [awx fu,avb fu,nK fu] [.pr .s' (.r' lC)] [.r' (.s'),.r' (.c')] (λx=>avu fu x) (nqQ (nqQ (.s' (.j' [.s' 28 (.b')] [] .n' .n') .n')))
noncomputable def Ss:=kf fu Tryz.func109 [bdv fu,ash fu,vT fu,Ec fu,qO fu,AM fu,As fu,vU fu,Sw fu,If fu,Sz fu,xK fu] [.s',.s'] [.r' (.s'),.r' (.c')] (λx=>bdi fu x.1 x.2) (nqQ (.s' (nqQ (nqQ (.s' (.s' (.j' [.s' 31 (.b')] [0,1,2] .n' .n') .n') (nqQ (nqQ (nqQ (nqQ (nqQ (nqQ (nqQ (nqQ (.j' [.s' 108 (.b')] [] .n' .n')))))))))))) (.r' [] [] (nqQ (.l' [.s' 21 iqQ] .n')) .n')))
noncomputable def Nw:=kf fu Tryz.func186 [aln fu,ark fu] [.s',.i' .i64,.i' .i64] [.r' (.pr iqQ .s')] (λx=>bbd fu x.1 x.2.1 x.2.2) (.n')
noncomputable def Nz:=kf fu Tryz.func147 [ass fu,Nw fu,bdw fu] [.s',.c'] [.r' (.l' 68 24 (.pr iqQ .s')),.r' iqQ,.r' (.c')] (λx=>bfh fu x.1 x.2) (nqQ (.s' (.j' [.s' 26 (.b')] [0,2,6,10] .n' .n') (nqQ (nqQ (.r' [.s' 7 (.l' 68 24 (.pr iqQ .s')),.s' 8 iqQ] [] (.l' [.s' 7 (.l' 68 24 (.pr iqQ .s')),.s' 8 iqQ,.s' 9 iqQ] (nqQ (nqQ (nqQ (nqQ (nqQ (nqQ (nqQ (nqQ (nqQ (.s' (.j' [.s' 9 iqQ] [] (.l' [.s' 9 iqQ] (.s' (.j' [.s' 78 (.b')] [0,1,3,4] .n' .n') .n')) .n') .n'))))))))))) .n')))))
noncomputable def Sy:=kf fu Tryz.func110 [Nz fu] [.s'] [.r' (.l' 9 16 .s'),.r' (.c')] (λx=>bhz fu x) (nqQ (nqQ (nqQ (nqQ (.r' [.s' 7 (.l' 9 16 .s')] [] (nqQ (.l' [.s' 7 (.l' 9 16 .s'),.s' 8 iqQ] .n')) .n')))))
noncomputable def Sv:=kf fu Tryz.func81 [ark fu,bir fu,Sx fu,Ss fu,Sy fu] [.s',.s'] [.r' (.s'),.r' (.c')] (λx=>bhv fu x.1 x.2) (nqQ (nqQ (nqQ (nqQ (nqQ (nqQ (nqQ (.r' [.s' 9 (.s')] [] (nqQ (.l' [.s' 9 (.s'),.s' 10 iqQ] (nqQ (.s' (nqQ (nqQ (.j' [.s' 9 (.s')] [] .n' .n'))) .n')))) .n'))))))))
noncomputable def Ie:=kf fu Tryz.func49 [bir fu,Sv fu] [.pr .s' .s',.i' .i64] [.r' (.pr .s' .s'),.r' (.c')] (λx=>bcv fu x.1 x.2) (nqQ (nqQ (nqQ (nqQ (nqQ (nqQ (.s' (.j' [.s' 41 (.b')] [0,2,3] .n' .n') .n')))))))
noncomputable def Ic:=kf fu Tryz.func24 [Ie fu] [.pr (.r' (.pr .s' .s')) (.r' .c')] [.r' (.pr (.l' 49 32 (.pr .s' .s')) (.l' 5 1 .c')),.r' (.b')] (λx=>axn fu x) (nqQ (nqQ (.r' [.o' 4 0 (.l' 49 32 (.pr .s' .s'))] [] (nqQ (.l' [.s' 5 iqQ,.o' 4 0 (.l' 49 32 (.pr .s' .s'))] .n')) .n')))
noncomputable def Hb:=kf fu Tryz.func29 [] [.s',.i' .i64,.s'] [.r' (.b')] (λx=>oa fu x.1 x.2.1 x.2.2) (nqQ (.j' [.s' 6 (.b')] [0,1,2,11,22] .n' .n'))
noncomputable def Nl:=kf fu Tryz.func25 [Hb fu] [.s',.i' .i64,.s'] [.r' (.b')] (λx=>bao fu x.1 x.2.1 x.2.2) (nqQ (.j' [.s' 6 (.b')] [0,1,2,3,5,15] .n' .n'))
end
open Go.Value renaming slice → Vs, int → Vi, bool → Vb, pointer → Vp
open Go.Value renaming tuple → Tz
open List renaming flatMap → gY
open Tryz
theorem bkc(d:aqq fu a=θ r)(f:Gl w):CR prog 14 [str a] w λv c=>v=.bool r/\Hp w [] [] c:=
 RX (x:=a) (y:=r) (Ei fu).ok (λx=>[str x]) (λr=>.bool r) ⟨f,λb e=>by cases e⟩ d
variable {g:oG}{d:(oG×η)}
theorem Cj(j:ε Γ)(f:Nat)(i:Nat)(h:ε Γ)(e:Nat)(r:Nat)(q:avi fu g=θ d)(t:Gl w)(D:f=γ g.1)(C:Rd w j (gY qU g.1))(B:f<=i)(A:e=γ g.2)(z:Rd w h (gY eB g.2))(u:e<=r):CR prog 21 [(Value.agg #[(Vs j f i),(Vs h e r)])] w λv w'=>∃(n:ε Nat),∃(l:ε Γ),∃(c:Nat),∃(m:ε Nat),∃(k:ε Γ),∃(a:Nat),v=(Tz #[(Value.agg #[(Vs l (γ d.1.1) c),(Vs k (γ d.1.2) a)]),(Vb d.2)])/\Hp w [] [bN qU 49 2 n l c d.1.1,bN eB 5 1 m k a d.1.2] w':=
 GX (x:=g) (y:=d) (Eh fu).ok [(j,f,i),(h,e,r)] [(Value.agg #[(Vs j f i),(Vs h e r)])] 49 32 (.pr .s' .s') d.1.1 5 1 .c' d.1.2 (λl p c k o a=>(Tz #[(Value.agg #[(Vs l p c),(Vs k o a)]),(Vb d.2)])) ⟨t,λb s=>by cases s⟩ q (.intro (.intro D (.intro C B)) (.intro (.intro A (.intro z u)) trivial))
variable {A h:δ ζ}
theorem bhd(g:ε Γ)(c:Nat)(f:Nat)(e:ε Γ)(a:Nat)(d:Nat)(i:alf fu A h=θ r)(k:Gl w)(q:c=γ A)(p:Rd w g (gY eB A))(o:c<=f)(n:a=γ h)(m:Rd w e (gY eB h))(l:a<=d):CR prog 22 [(Vs g c f),(Vs e a d)] w λv w'=>v=(Vb r)/\Hp w [] [] w':=
 GY (x:=(A,h)) (y:=r) (xP fu).ok [(g,c,f),(e,a,d)] [(Vs g c f),(Vs e a d)] (Vb r) ⟨k,λb j=>by cases j⟩ i (.intro (.intro q (.intro p o)) (.intro (.intro n (.intro m l)) trivial))
theorem azo{r:(Int×(Int×η))×η}(f:amd fu a m c=θ r)(h:Gl w):CR prog 15 [str a,.int .i64 m,str c] w λv e=>v=.tuple #[.agg #[.int .i64 r.1.1,.int .i64 r.1.2.1,.bool r.1.2.2],.bool r.2]/\Hp w [] [] e:=
 RX (x:=(a,m,c)) (y:=r) (bks fu).ok (λx=>[str x.1,.int .i64 x.2.1,str x.2.2]) (λr=>.tuple #[.agg #[.int .i64 r.1.1,.int .i64 r.1.2.1,.bool r.1.2.2],.bool r.2]) ⟨h,λb g=>by cases g⟩ f
theorem vO{r:(aC×aC)×ζ}(d:bct fu a=θ r)(f:Gl w):CR prog 38 [str a] w λv c=>v=.tuple #[.agg #[str r.1.1,str r.1.2],bt r.2]/\Hp w [] [] c:=
 RX (x:=a) (y:=r) (xQ fu).ok (λx=>[str x]) (λr=>.tuple #[.agg #[str r.1.1,str r.1.2],bt r.2]) ⟨f,λb e=>by cases e⟩ d
theorem bes(d:ud fu f=θ r)(a:Gl w):CR prog 57 [bt f] w λv c=>v=.bool r/\Hp w [] [] c:=
 RX (x:=f) (y:=r) (arl fu).ok (λx=>[bt x]) (λr=>.bool r) ⟨a,λb e=>by cases e⟩ d
theorem Ix{r:Int×η}(d:blh fu a=θ r)(f:Gl w):CR prog 60 [str a] w λv c=>v=.tuple #[.int .i64 r.1,.bool r.2]/\Hp w [] [] c:=
 RX (x:=a) (y:=r) (Oa fu).ok (λx=>[str x]) (λr=>.tuple #[.int .i64 r.1,.bool r.2]) ⟨f,λb e=>by cases e⟩ d
theorem qW(e:arq fu a c=θ r)(g:Gl w):CR prog 32 [str a,str c] w λv d=>v=.bool r/\Hp w [] [] d:=
 RX (x:=(a,c)) (y:=r) (bej fu).ok (λx=>[str x.1,str x.2]) (λr=>.bool r) ⟨g,λb f=>by cases f⟩ e
theorem yJ{a:oG}(o:ε Γ)(c:Nat)(n:Nat)(m:ε Γ)(f:Nat)(l:Nat)(k:ε Γ)(e:Nat)(j:Nat)(i:ε Γ)(d:Nat)(h:Nat)(p:bed fu g a=θ r)(s:Gl w)(I:c=γ g.1)(H:Rd w o (gY qU g.1))(G:c<=n)(F:f=γ g.2)(E:Rd w m (gY eB g.2))(D:f<=l)(C:e=γ a.1)(B:Rd w k (gY qU a.1))(A:e<=j)(z:d=γ a.2)(u:Rd w i (gY eB a.2))(t:d<=h):CR prog 20 [(Value.agg #[(Vs o c n),(Vs m f l)]),(Value.agg #[(Vs k e j),(Vs i d h)])] w λv w'=>v=(Vb r)/\Hp w [] [] w':=
 GY (x:=(g,a)) (y:=r) (Ar fu).ok [(o,c,n),(m,f,l),(k,e,j),(i,d,h)] [(Value.agg #[(Vs o c n),(Vs m f l)]),(Value.agg #[(Vs k e j),(Vs i d h)])] (Vb r) ⟨s,λb q=>by cases q⟩ p (.intro (.intro I (.intro H G)) (.intro (.intro F (.intro E D)) (.intro (.intro C (.intro B A)) (.intro (.intro z (.intro u t)) trivial))))
theorem Ch(d:SP fu m=θ a)(f:Gl w):CR prog 28 [.int .i64 m] w λv c=>v=str a/\Hp w [] [] c:=
 RX (x:=m) (y:=a) (bdv fu).ok (λx=>[.int .i64 x]) (λa=>str a) ⟨f,λb e=>by cases e⟩ d
theorem CG(f:oa fu a m c=θ r)(h:Gl w):CR prog 29 [str a,.int .i64 m,str c] w λv e=>v=.bool r/\Hp w [] [] e:=
 RX (x:=(a,m,c)) (y:=r) (Hb fu).ok (λx=>[str x.1,.int .i64 x.2.1,str x.2.2]) (λr=>.bool r) ⟨h,λb g=>by cases g⟩ f
theorem Fy(j:ε Γ)(f:Nat)(i:Nat)(h:ε Γ)(e:Nat)(r:Nat)(q:axn fu g=θ d)(t:Gl w)(D:f=γ g.1)(C:Rd w j (gY qU g.1))(B:f<=i)(A:e=γ g.2)(z:Rd w h (gY eB g.2))(u:e<=r):CR prog 24 [(Value.agg #[(Vs j f i),(Vs h e r)])] w λv w'=>∃(n:ε Nat),∃(l:ε Γ),∃(c:Nat),∃(m:ε Nat),∃(k:ε Γ),∃(a:Nat),v=(Tz #[(Value.agg #[(Vs l (γ d.1.1) c),(Vs k (γ d.1.2) a)]),(Vb d.2)])/\Hp w [] [bN qU 49 2 n l c d.1.1,bN eB 5 1 m k a d.1.2] w':=
 GX (x:=g) (y:=d) (Ic fu).ok [(j,f,i),(h,e,r)] [(Value.agg #[(Vs j f i),(Vs h e r)])] 49 32 (.pr .s' .s') d.1.1 5 1 .c' d.1.2 (λl p c k o a=>(Tz #[(Value.agg #[(Vs l p c),(Vs k o a)]),(Vb d.2)])) ⟨t,λb s=>by cases s⟩ q (.intro (.intro D (.intro C B)) (.intro (.intro A (.intro z u)) trivial))
theorem Iu(d:bap fu a=θ r)(f:Gl w):CR prog 17 [str a] w λv c=>v=.bool r/\Hp w [] [] c:=
 RX (x:=a) (y:=r) (Nn fu).ok (λx=>[str x]) (λr=>.bool r) ⟨f,λb e=>by cases e⟩ d
theorem It(f:bao fu a m c=θ r)(h:Gl w):CR prog 25 [str a,.int .i64 m,str c] w λv e=>v=.bool r/\Hp w [] [] e:=
 RX (x:=(a,m,c)) (y:=r) (Nl fu).ok (λx=>[str x.1,.int .i64 x.2.1,str x.2.2]) (λr=>.bool r) ⟨h,λb g=>by cases g⟩ f
open Go.Wk Go.Px
open Go.Lib renaming index → cE
open Int renaming toNat → bH
open List renaming drop → cC, flatMap → gY, replicate → iZ, set → kZ
theorem so:Wk.Enters prog 14:=⟨f14,_,func14,rfl,aK⟩
theorem ent21:Wk.Enters prog 21:=⟨f21,_,func21,rfl,aK⟩
theorem sk:Wk.Enters prog 22:=⟨f22,_,func22,rfl,aK⟩
theorem ent23:Wk.Enters prog 23:=⟨f23,_,func23,rfl,aK⟩
theorem ent26:Wk.Enters prog 26:=⟨f26,_,func26,rfl,aK⟩
theorem ent27:Wk.Enters prog 27:=⟨f27,_,func27,rfl,aK⟩
theorem si:Wk.Enters prog 48:=⟨f48,_,func48,rfl,aK⟩
theorem ent50:Wk.Enters prog 50:=⟨f50,_,func50,rfl,aK⟩
theorem Iy{j:δ Int}(e:Nat)(z:ε Γ)(I:Nat)(E:Nat){r:δ Int}(J:bfn fu j A=θ r)(R:Gl w)(d2:I=γ A)(d3:Rd w z (gY eB A))(d4:I<=E)(d5:z=ι->E=0)(P:Hp w (eK [Ib e j]) [Ib e j] w)(O:∀b∈eK [Ib e j],9<=b)(d6:gY eB A≠[]->∀p,z=θ p->p.block∉eK [Ib e j]):CR prog 26 [(Value.map (θ e)),(Vs z I E)] w λv w'=>v=(Tz #[])/\Hp w (eK [Ib e j]) [Ib e r] w':=by
 subst d2;have Q:Hp w (eK [Ib e j]) [Ib e j] w:=P;refine enter (k:=57) func26 rfl rfl lT ?_;unfold bfn at J;refine sr (lH Q [(bt 45),(bt 45),(bt 98)] 5 (λb=>(Vs (dH b) 3 3)) rfl rfl aK λo w2 d7=>Ji d7 0 o 3 5 _ ((rE):δ ζ) rfl rfl rfl underlying22 underlying5 aK λN H=> ?_);replace H:Hp w (eK [Ib e j]) [gW (Vs (dH o) 3 3) 3 ((rE):δ ζ),Ib e j] N:=H;refine wp 1 (nq (ce (CM (σ:=Nat×(δ ζ)×(δ Int)×(ε Γ)×Nat) [0,1,4] (λ⟨u,a,t,f,c⟩=>[(1,(Vs f (γ a) c))]) (λ⟨u,a,t,f,c⟩ w'=>Hp w (eK [Ib e j]) [gW (Vs (dH o) 3 3) 3 ((rE):δ ζ),Ib e t] w'/\(Rd w f (gY eB a)/\γ a<=c/\(f=ι->c=0)/\(gY eB a≠[]->∀p,f=θ p->p.block∉(eK [Ib e j])))/\aqp fu u a t=θ r) (λ⟨u,a,t,f,c⟩=>u) (fu,A,j,z,E) (by exact⟨(Hp.front (Hp.front H 1 _ rfl) 1 _ rfl).kp,⟨(d3),d4,d5,d6⟩,J⟩) ?_)));rintro⟨_|u,a,t,f,c⟩ d8 G ⟨D,⟨C,s,M,B⟩,i⟩
 ·exact yS i
 rw[bha,aum]at i;refine ce (sr (wp 2 (da 50 #[] [(Vs f (γ a) c),(Vs (dH o) 3 3)] ent50 aK aK (enter (k:=23) func50 rfl rfl lT (sr (wp 3 (wl ?_)))))));refine qn (cs (sr (wp 2 (gi i λd9 i=>wK 48 #[] [(Vs f (γ a) c),(Vs (dH o) 3 3)] _ si aK aK (OO f (dH o) (γ a) c 3 3 a ((rE):δ ζ) d8 rfl (by first|rfl|(simp;done)|omega|(simp;omega)) (C.XX D B) (Rd.dD (D.dP 0 rfl)) s M d9 (R.hp D O)) ?_))));rintro _ g0 ⟨rfl,L⟩;have K:=D.call L;clear L;refine wp 1 (nq (sr (wp 2 (nq (cd i (λe0 i=> ?_) (λe0 i=> ?_))))));refine cs (gi i λe1 i=>gi i λZ i=>gi i λY i=>cdr 10 K (IE (IE ax)) λg1 X=>rp 8 [0,1] (rt 2 (Vs f (bH (cE a ((rE):δ ζ))) c) rfl rfl (nY rfl (by intro w x;exact(JM f (γ a) c 5 1 .i64 (cE a ((rE):δ ζ)) underlying22 aK aK aK a rfl e1 s))) (rp 3 [3,4,5,6] (rt 7 (Vi .i64 ((cE a ((rE):δ ζ))+3)) rfl rfl (nY rfl (by intro w x;exact(Jg (cE a ((rE):δ ζ)) (3:Int) aK aK Z))) (rt 8 (Vs (Yr f c (bH ((cE a ((rE):δ ζ))+3)) 1) (γ a-(bH ((cE a ((rE):δ ζ))+3))) (c-(bH ((cE a ((rE):δ ζ))+3)))) rfl rfl (nY rfl (by intro w x;exact(Kl f (γ a) c 5 1 .i64 ((cE a ((rE):δ ζ))+3) underlying22 aK aK aK a rfl Y))) ?_)))));refine rp 0 [9] (kF aK (wp 2 (nq (ct (st (Zg (Vs f (bH (cE a ((rE):δ ζ))) c) (Vs (Yr f c (bH ((cE a ((rE):δ ζ))+3)) 1) (γ a-(bH ((cE a ((rE):δ ζ))+3))) (c-(bH ((cE a ((rE):δ ζ))+3)))) (Vb μ) rfl aK aK aK (wp 7 (wl ?_))))))));refine qn (cs (sr (wp 2 (nq (mr aK (ck (qn ?_)))))));refine sr (wp 1 (nq (bi i λd0 W i=>cut (σ:=(δ Int)) [0,1,4,6] (λy=>[]) (λy w'=>Hp w (eK [Ib e j]) [gW (Vs (dH o) 3 3) 3 ((rE):δ ζ),Ib e y] w'/\y=d0) ?_ ?_)));refine sr (wp 3 (nq (ce (CM (σ:=Nat×Int×Int×(δ Int)) [0,1,4,6,8,22,23,24] (λ⟨q,l,g,m⟩=>[(8,(Vi .i64 l)),(24,(Vi .i64 g))]) (λ⟨q,l,g,m⟩ w'=>Hp w (eK [Ib e j]) [gW (Vs (dH o) 3 3) 3 ((rE):δ ζ),Ib e m] w'/\alg fu a q l g m=θ d0) (λ⟨q,l,g,m⟩=>q) (fu,(0:Int),(0:Int),t) (by exact⟨(Hp.front (Hp.front X 1 _ rfl) 1 _ rfl).kp,W⟩) ?_))));rintro⟨_|q,l,g,m⟩ g2 G ⟨n,d⟩
 ·exact yS d
 rw[azc,anw]at d;refine sr (wp 1 (nq (cs (cd d (λV d=> ?_) (λV d=> ?_)))));refine ck (qn (cs (ce (sr (wp 1 (gi d λU d=>Cq _ (γ a-(bH ((cE a ((rE):δ ζ))+3))) (c-(bH ((cE a ((rE):δ ζ))+3))) 5 1 .i64 g underlying22 aK aK aK _ aA7 U (Rd.Wx Io c _ (oF (Jb rfl) s) (C.XX n B)) Io aA1 (gi d λT d=> ?_)))))));refine kB _ eB _ 1 g Io (Rd.Wx Io c _ (oF (Jb rfl) s) (C.XX n B)) (bt (at_ (cC (bH ((cE a ((rE):δ ζ))+3)) a) g)) T aA1 aK aK aK (wp 2 (nq (cs (bi d λS h d=>jF n [0,1,4,6,8,10,22,23,24,46] [(46,(Vb S))] ?_ ?_))));refine cr (wp 1 (vf (at_ (cC (bH ((cE a ((rE):δ ζ))+3)) a) g) (48:ζ) aK aK (wd h (λf0 h=> ?_) (λf0 h=> ?_))));refine wp 15 (wl (ql ?_));obtain rfl:=oi h;exact je (Hp.front (Hp.front n 1 _ rfl) 1 _ rfl).kp;refine wp 1 (gy 31 (vg (at_ (cC (bH ((cE a ((rE):δ ζ))+3)) a) g) (57:ζ) aK aK (wp 1 (wd h (λf1 h=> ?_) (λf1 h=> ?_)))));refine wp 11 (wl (ql ?_));obtain rfl:=oi h;exact je (Hp.front (Hp.front n 1 _ rfl) 1 _ rfl).kp;refine wp 3 (wd h (λf2 h=> ?_) (λf2 h=> ?_));refine wp 7 (wl (ql ?_));obtain rfl:=oi h;exact je (Hp.front (Hp.front n 1 _ rfl) 1 _ rfl).kp;refine wp 2 (gy 39 (wd h (λf3 h=> ?_) (λf3 h=> ?_)));refine wp 4 (wl (ql ?_));obtain rfl:=oi h;exact je (Hp.front (Hp.front n 1 _ rfl) 1 _ rfl).kp;refine wp 4 (wl (ql ?_));obtain rfl:=oi h;exact je (Hp.front (Hp.front n 1 _ rfl) 1 _ rfl).kp;intro g3 G d1;refine cb d (λf4 d=> ?_) (λf4 d=> ?_);refine wI (vH (MP aK (vH (wJ (wH (ql ?_))))));obtain rfl:=oi d;exact⟨m,_,rfl,by kernel_rfl,(Hp.front (Hp.front d1 1 _ rfl) 1 _ rfl).kp,rfl⟩;refine ck (qn (sr (wp 1 (gi d λf5 d=>cp (10:Int) l aK aK f5 (wp 1 (A2 (at_ (cC (bH ((cE a ((rE):δ ζ))+3)) a) g) (48:ζ) aK aK (OC .i64 .u8 (((at_ (cC (bH ((cE a ((rE):δ ζ))+3)) a) g)-(48:ζ)).toNat:Int) underlying5 underlying3 aK (Gh _) ?_)))))));refine gi d λf6 d=>rA ((10:Int)*l) _ aK aK f6 (wp 1 (nq (cr (wp 2 (vd d1 1 e m (((10:Int)*l)+(((at_ (cC (bH ((cE a ((rE):δ ζ))+3)) a) g)-(48:ζ)).toNat:Int)) rfl underlying54 underlying3 aK aK aK λf7 F=> ?_)))));replace F:Hp w (eK [Ib e j]) [gW (Vs (dH o) 3 3) 3 ((rE):δ ζ),Ib e (To m (((10:Int)*l)+(((at_ (cC (bH ((cE a ((rE):δ ζ))+3)) a) g)-(48:ζ)).toNat:Int)))] f7:=F;refine wl (bn (qn (cr (gi d λf8 d=>rA g _ aK aK f8 (wp 1 (wl (ql ?_)))))));exact⟨(q,((10:Int)*l)+(((at_ (cC (bH ((cE a ((rE):δ ζ))+3)) a) g)-(48:ζ)).toNat:Int),g+1,To m (((10:Int)*l)+(((at_ (cC (bH ((cE a ((rE):δ ζ))+3)) a) g)-(48:ζ)).toNat:Int))),_,rfl,by kernel_rfl,⟨(Hp.front (Hp.front F 1 _ rfl) 1 _ rfl).kp,d⟩,yQ _⟩;refine wI (vH (wJ (wH (ql ?_))));obtain rfl:=oi d;exact⟨m,_,rfl,by kernel_rfl,(Hp.front (Hp.front n 1 _ rfl) 1 _ rfl).kp,rfl⟩;rintro y g4 G ⟨f9,rfl⟩;refine cr (wp 2 (wl (bn (ql ?_))));exact⟨(u,cC (bH ((cE a ((rE):δ ζ))+3)) a,y,(Yr f c (bH ((cE a ((rE):δ ζ))+3)) 1),(c-(bH ((cE a ((rE):δ ζ))+3)))),_,rfl,(mc aK (mc (fK (b:=(Vs (Yr f c (bH ((cE a ((rE):δ ζ))+3)) 1) (γ a-(bH ((cE a ((rE):δ ζ))+3))) (c-(bH ((cE a ((rE):δ ζ))+3))))) aK (SJ lsy)) (mc aK rfl))),⟨(Hp.front (Hp.front f9 1 _ rfl) 1 _ rfl).kp,⟨(Rd.Wx Io c _ (oF (Jb rfl) s) (C)),(oF (Jb (by first|rfl|(simp;done)|omega)) (Nat.sub_le_sub_right s _)),(ed M),(vv B)⟩,i⟩,yQ _⟩;refine ck (qn (sr (wp 4 (nq (ct (Zg (Vs f (γ a) c) (Vs ι 0 0) (Vb ν) rfl aK aK aK (wp 7 ?_)))))));refine nq (cs (sr (wp 2 (nq (tG aK (ct ?_))))));refine st (lD (vG (lD ?_)));obtain rfl:=oi i;refine Mj rfl ?_;exact⟨pD,(Hp.front K 1 _ rfl).kp⟩
variable {B:fF}
theorem bhe(t:ε Γ)(A:Nat)(z:Nat)(d:Nat->(PA×PA))(f:aij fu B=θ a)(x:Gl w)(T:A=γ B)(J:Rd w t (gY eY (gz d B)))(Y:A<=z)(s:∀i:Int,0<=i/\i<(γ B:Int)->(Rd w (d (bH i)).1.2.1 (gY qU ((el B i).1))/\γ ((el B i).1)<=(d (bH i)).1.2.2/\((d (bH i)).1.2.1=ι->(d (bH i)).1.2.2=0))/\(Rd w (d (bH i)).2.2.1 (gY eB ((el B i).2))/\γ ((el B i).2)<=(d (bH i)).2.2.2/\((d (bH i)).2.2.1=ι->(d (bH i)).2.2.2=0))):CR prog 12 [(Vs t A z)] w λv w'=>v=(str a)/\Hp w [] [] w':=by
 subst T;have K:=Hp.refl w;refine enter func12 rfl rfl lT ?_;unfold aij at f;refine sr (wp 1 (nq (sr (cq K λu U S=>wp 1 (wl ?_)))));refine qn (bi f λI R f=>cut (σ:=(δ Int)) [2,3] (λp=>[]) (λp w'=>Hp w [] [Ib u p] w'/\p=I) ?_ ?_);refine sr (wp 3 (nq (ce (CM (σ:=Nat×Int×_) [2,3,8,9,10] (λ⟨o,c,n⟩=>[(10,(Vi .i64 c))]) (λ⟨o,c,n⟩ w'=>Hp w [] [Ib u n] w'/\afb fu B o c n=θ I) (λ⟨o,c,n⟩=>o) (fu,0,[]) (by exact⟨S.kp,R⟩) ?_))));rintro⟨_|o,c,n⟩ X G ⟨q,e⟩
 ·exact yS e
 rw[ahk,aem]at e;refine sr (wp 1 (nq (cs (cd e (λd0 e=> ?_) (λd0 e=> ?_)))));refine ck (qn (cs (ce (sr (gi e λd1 e=>Cq t (γ B) z 42 2 .i64 c underlying23 aK aK aK _ (Rq _ _).symm (Kd _ _ d1) (J.hp q) Ir aA1 (gi e λm e=>zD t eY _ 2 c Ir (J.hp q) [(Vs ((d _).1.2.1) _ _),(Vs ((d _).2.2.1) _ _)] (Kd _ _ m) (by rw[sS _ _ _ m];rfl) aK aK aK aA1 ?_))))));refine lH q (NC) 42 (λb=>(Vp (dH b))) rfl rfl aK λH W d2=>iI d2 0 H 0 _ (Da d B c) 42 _ rfl lT aK aK rfl aK rfl λV F=>nq (cr (wp 2 (nX F 0 H 1 _ 42 _ rfl rfl aK aK (bi e λd3 d4 e=> ?_))));have l:=F.front 1 _ rfl;refine wK 26 #[] [(Value.map _),(Vs ((d _).2.2.1) _ _)] _ ent26 aK aK (Iy u ((d _).2.2.1) _ _ d4 (x.jD l) rfl (((s c m).2).1.hp l) ((s c m).2).2.1 ((s c m).2).2.2 (l.hand) (l.sR x (λ_ h=>absurd h aA3) 1 rfl) (l.Bz 1 ((s c m).2).1 (λ_ _ _ h=>absurd h aA3) rfl)) ?_;rintro _ f0 ⟨rfl,E⟩;have d5:=Hp.eG l E;clear E;refine wl (bn (qn (cr (gi e λd6 e=>rA c _ aK aK d6 (wp 1 (wl (ql ?_)))))));exact⟨(o,c+1,d3),_,rfl,by kernel_rfl,⟨d5.kp,e⟩,yQ _⟩;refine wI (vH (wJ (wH (ql ?_))));obtain rfl:=oi e;exact⟨n,_,rfl,by kernel_rfl,q.kp,rfl⟩;rintro p f1 G ⟨d7,rfl⟩;refine sr (wp 1 (nq (bi f λd8 d9 f=>cut (σ:=Int) [2,6] (λk=>[(6,(Vi .i64 k))]) (λk w'=>Hp w [] [] w'/\k=d8) ?_ ?_)));refine ce (LC (λD j=>agq fu p D j) _ d7 d9 [2,3,6] (λj=>[(6,(Vi .i64 j))]) (λ_=>rfl) ?_);rintro D j f2 G y g;rw[bbl,ame]at g;refine cs (sr (wp 2 (ve y 0 u p j rfl underlying54 underlying3 aK aK aK (nq (cd g (λQ g=> ?_) (λQ g=> ?_))))));refine ck (qn (ce (cr (wp 1 (gi g λP g=>rA j _ aK aK P (wp 1 (wl (bn ?_))))))));exact ql (QI _ y.kp g);refine wI (vH (wJ (wH (ql ?_))));obtain rfl:=oi g;exact⟨j,_,rfl,by kernel_rfl,y.kp,rfl⟩;rintro k O G ⟨C,rfl⟩;refine sr (wp 1 (gi f λN f=>wK 27 #[] [(Vi .i64 k)] _ ent27 aK aK (OQ k O N (x.jD C)) ?_));rintro _ f3 ⟨rfl,r⟩;have M:=C.call r;clear r;refine gi f λL f=>Qt _ _ aK aK L (wp 1 (nq (ct ?_)));obtain rfl:=oi f;exact rv M.kp
theorem yM(f:ε Γ)(j:Nat)(e:Nat)(d:ε Γ)(i:Nat)(c:Nat)(g:asp fu A h=θ r)(l:Gl w)(u:j=γ A)(t:Rd w f (gY eB A))(s:j<=e)(q:f=ι->e=0)(p:i=γ h)(o:Rd w d (gY eB h))(z:i<=c)(y:d=ι->c=0):CR prog 23 [(Vs f j e),(Vs d i c)] w λv w'=>v=(Vb r)/\Hp w [] [] w':=by subst u;subst p;have a:=Hp.refl w;refine enter func23 rfl rfl lT ?_;unfold asp at g;refine sr (wp 1 (nq (sr (wp 2 (gi g λm g=>wK 48 #[] [(Vs f (γ A) e),(Vs d (γ h) c)] _ si aK aK (OO f d (γ A) e (γ h) c A h w rfl rfl (t.hp a) (o.hp a) s q m (l.jD a)) ?_)))));rintro _ x ⟨rfl,k⟩;have n:=a.call k;clear k;refine wp 2 (nq (ct ?_));obtain rfl:=oi g;exact rv n.kp
theorem qF(g9:ε Γ)(i6:Nat)(i7:Nat)(z:Nat->(PA×PA)){w:ο}{r:((δ ζ)×ζ)}(d:awn fu B a=θ r)(hG:Gl w)(m9:i6=γ B)(k2:Rd w g9 (gY eY (gz z B)))(v0:i6<=i7)(h0:∀i:Int,0<=i/\i<(γ B:Int)->(Rd w (z (bH i)).1.2.1 (gY qU ((el B i).1))/\γ ((el B i).1)<=(z (bH i)).1.2.2/\((z (bH i)).1.2.1=ι->(z (bH i)).1.2.2=0))/\(Rd w (z (bH i)).2.2.1 (gY eB ((el B i).2))/\γ ((el B i).2)<=(z (bH i)).2.2.2/\((z (bH i)).2.2.1=ι->(z (bH i)).2.2.2=0))):CR prog 10 [(Vs g9 i6 i7),(str a)] w λv w'=>∃(o0:ε Nat),∃(a0:ε Γ),∃(R:Nat),v=(Tz #[(Vs a0 (γ r.1) R),(bt r.2)])/\Hp w [] [bN eB 5 1 o0 a0 R r.1] w':=by
 subst m9;have hH:=Hp.refl w;refine enter func10 rfl rfl lT ?_;unfold awn at d;refine sr (wp 2 (nq (cs (bi d λn0 P d=>jF hH [0,1,4,5,31] [(31,(Vb n0))] ?_ ?_))));refine cr (wp 1 (bi P λv1 n1 P=>wc so hH (bkc n1 (hG.jD hH)) λv2 i9=>wp 1 (wb P (λn2 P=> ?_) (λn2 P=> ?_))));refine wp 9 (wl (ql ?_));obtain rfl:=oi P;exact je i9.kp;refine wp 4 (wd P (λn3 P=> ?_) (λn3 P=> ?_));refine wp 4 (wl (ql ?_));obtain rfl:=oi P;exact je i9.kp;refine wp 4 (wl (ql ?_));obtain rfl:=oi P;exact je i9.kp;intro v3 G k3;refine cb d (λn4 d=> ?_) (λn4 d=> ?_);refine sr (wp 2 (nq (ct (st ?_))));obtain rfl:=oi d;refine rX (Vs ι 0 0) (bt 2) rfl aK aK ?_;exact⟨ι,ι,0,pD,(Hp.eX k3 eB 5 1 ι).kp⟩;refine ck (qn (sr (wp 2 (gi d λn5 d=>cy (f:=eY) k3 42 2 48 .i64 .i64 _ (([]:mA),([]:δ ζ)) ((ι,ι,0),(ι,ι,0)) underlying23 aB1 aA1 aA1 aK aK aK n5 λo k m n6 j0=> ?_))));replace j0:Hp w [] (bN eY 42 2 o k m _::(gI jP gNq _++[])) n6:=Hp.giNil (L:=[bN eY 42 2 o k m _]) (inn:=jP) (([]:mA),([]:δ ζ)) ((ι,ι,0),(ι,ι,0)) (bH (γ B:Int)) [] (by intro r d;unfold jP at d;simp only[aQ,lJ,or_false]at d;rcases d with d|d<;>subst d<;>exact⟨rfl,.inl ⟨rfl,rfl,rfl,rfl⟩⟩) j0;refine wp 1 (nq (bi d λk4 n7 d=>cut (σ:=(δ _)×(Nat->(PA×PA))) [1,4,5,6] (λ⟨e,c⟩=>[(6,(Vs k (γ e) m))]) (λ⟨e,c⟩ w'=>Hp w [] (bN eY 42 2 o k m (gz c e)::(gI jP c e++[])) w'/\γ e=γ (iZ (bH (γ B:Int)) (([]:mA),([]:δ ζ)))/\.inl e=k4) ?_ ?_));refine sr (wp 3 (nq (ce (CM (σ:=Nat×_×Int×_) [1,4,5,6,35,36,37] (λ⟨e6,y,s,J⟩=>[(6,(Vs k (γ y) m)),(37,(Vi .i64 s))]) (λ⟨e6,y,s,J⟩ w'=>Hp w [] (bN eY 42 2 o k m (gz J y)::(gI jP J y++[])) w'/\γ y=γ (iZ _ _)/\aii fu B e6 y s=θ k4) (λ⟨e6,y,s,J⟩=>e6) (fu,iZ _ _,0,gNq) (by exact⟨(j0.FQ 1 1 aA1),lsz,n7⟩) ?_))));rintro⟨_|e6,y,s,J⟩ v4 G ⟨h1,v5,q⟩
 ·exact yS q
 rw[azh,aob]at q;refine sr (wp 1 (nq (cs (cd q (λn8 q=> ?_) (λn8 q=> ?_)))));refine ck (qn (cs (ce (sr (wp 1 (gi q λn9 q=>Cq g9 (γ B) i7 42 2 .i64 s underlying23 aK aK aK _ (Rq _ _).symm (Kd _ _ n9) (k2.hp h1) Ir aA1 (gi q λe7 q=> ?_)))))));refine zD g9 eY _ 2 s Ir (k2.hp h1) [(Vs ((z _).1.2.1) _ _),(Vs ((z _).2.2.1) _ _)] (Kd _ _ e7) (by rw[sS _ _ _ e7];rfl) aK aK aK aA1 (lH h1 (NC) 42 (λb=>(Vp (dH b))) rfl rfl aK λX v6 o1=>wp 1 (iI o1 0 X 0 _ (Da z B s) 42 _ rfl lT aK aK rfl aK rfl λv7 f6=>nq (sr (vQ f6 0 X 0 2 _ _ 42 rfl rfl rfl aK aK aK (bi q λI o2 q=> ?_)))));refine wK 21 #[] [(Value.agg #[(Vs ((z (bH s)).1.2.1) (γ ((el B s).1)) ((z _).1.2.2)),(Vs ((z (bH s)).2.2.1) (γ ((el B s).2)) ((z _).2.2.2))])] _ ent21 aK aK (Cj _ _ _ _ _ _ o2 (hG.jD f6) rfl (((h0 s e7).1).1.hp f6) ((h0 s e7).1).2.1 rfl (((h0 s e7).2).1.hp f6) ((h0 s e7).2).2.1) ?_;rintro _ v8 ⟨Z,d4,d5,Y,d6,d7,rfl,k5⟩;have o4:=Hp.eG (L1:=[]) (L2:=(bA X (Da z B s) 42::bN eY 42 2 o k m (gz J y)::(gI jP J y++[]))) f6 k5;clear k5;refine wp 3 (lH o4 (NC) 42 (λb=>(Vp (dH b))) rfl rfl aK λf0 v9 o5=>iI o5 0 f0 0 _ [(Vs d4 (γ I.1.1) d5),(Vs d6 (γ I.1.2) d7)] 42 _ rfl lT aK aK rfl aK rfl λk6 h2=>wp 1 (nq (cs (sr (wp 2 ?_)))));refine nq (cb q (λo6 q=> ?_) (λo6 q=> ?_));refine sr (wp 2 (nq (ct (st (lD (st (vG ?_)))))));refine lD (vG ?_);obtain rfl:=oi q;obtain rfl:=oi d;refine rX (Vs ι 0 0) (bt 2) rfl aK aK ?_;exact⟨ι,ι,0,pD,(Hp.eX h2 eB 5 1 ι).kp⟩;refine ck (qn (cr (wp 2 (vQ h2 0 f0 0 2 _ _ 42 rfl rfl rfl aK aK aK (gi q λo7 q=>Cq k (γ y) m 42 2 .i64 s underlying23 aK aK aK _ (Rq _ _).symm (Kd _ _ o7) (h2.hK 4 rfl) Ir aA1 (gi q λk7 q=> ?_))))));have j1:=h2.E3 om 1 rfl;replace j1:Hp w [] (bA f0 _ 42::Th qU Z d4 d5 I.1.1::bN eB 5 1 Y d6 d7 I.1.2::bA X _ 42::bN eY 42 2 o k m _::(gI jP J y++[])) k6:=j1;have j2:=j1.E3 Io 2 rfl;replace j2:Hp w [] (bA f0 _ 42::Th qU Z d4 d5 I.1.1::Th eB Y d6 d7 I.1.2::bA X _ 42::bN eY 42 2 o k m _::(gI jP J y++[])) k6:=j2;refine w_stE j2 4 o k m 42 2 s _ (I.1,((Z,d4,d5),(Y,d6,d7))) rfl Ir [(Vs d4 (γ I.1.1) d5),(Vs d6 (γ I.1.2) d7)] (Kd _ _ k7) aK aK aK aA1 aK λo8 h3=> ?_;rw[R7]at h3;replace h3:Hp w [] (bA f0 _ 42::Th qU Z d4 d5 I.1.1::Th eB Y d6 d7 I.1.2::bA X _ 42::bN eY 42 2 o k m _::(gI jP J y++[])) o8:=h3;have o9:=h3.front 2 _ rfl;have p0:=o9.front 2 _ rfl;have p1:=Hp.giSet (L:=[bA f0 _ 42,bA X _ 42,bN eY 42 2 o k m _]) (inn:=jP) (g:=J) (l:=y) I.1 ((Z,d4,d5),(Y,d6,d7)) [] s k7 p0;refine wl (bn (qn (cr (gi q λp2 q=>rA s _ aK aK p2 (wp 1 (wl (ql ?_)))))));exact⟨(e6,kZ y _ I.1,s+1,WC J (bH s) ((Z,d4,d5),(Y,d6,d7))),_,rfl,(mc aK (mc aK (mc aK (mc (fK aK (SJ lsy)) (mc aK (mc aK (mc aK rfl))))))),⟨((Hp.front p1 2 _ rfl).FQ 1 3 aA1),lsz,q⟩,yQ _⟩;refine wI (vH (wJ (wH (ql ?_))));obtain rfl:=oi q;exact⟨(y,J),_,rfl,by kernel_rfl,(h1.FQ 1 1 aA1),lsz,rfl⟩;rintro⟨e,c⟩ w1 G ⟨p3,w2,rfl⟩;refine sr (wp 1 (gi d λp4 d=>Qt _ a aK aK p4 (tV p3 ([45,45]++a) 5 underlying9 underlying22 underlying5 aK λH F w3 p5=>wp 1 (nq (bi d λp6 p7 d=>cut (σ:=Unit) [1,4,5,6] (λj3=>[]) (λj3 w'=>Hp w [] (bN eY 42 2 o k m (gz c e)::(gI jP c e++[])) w'/\.inl j3=p6) ?_ ?_)))));refine sr (wp 3 (nq (ce (LC (λk8 n=>aih fu a e k8 n) 0 p5 p7 [1,4,5,6,11,57,58,59] (λn=>[(59,(Vi .i64 n))]) (λ_=>rfl) ?_))));rintro k8 n w4 G h4 x;rw[azg,aoa]at x;refine sr (wp 1 (nq (cs (cd x (λp8 x=> ?_) (λp8 x=> ?_)))));refine ck (qn (cs (ce (sr (gi x λp9 x=>Cq k (γ e) m 42 2 .i64 n underlying23 aK aK aK _ (Rq _ _).symm (Kd _ _ p9) (h4.hK 1 rfl) Ir aA1 (gi x λd1 x=>zD k eY _ 2 n Ir (h4.hK 1 rfl) [(Vs ((c _).1.2.1) _ _),(Vs ((c _).2.2.1) _ _)] (Kd _ _ d1) (by rw[sS _ _ _ d1];rfl) aK aK aK aA1 ?_))))));refine lH h4 (NC) 42 (λb=>(Vp (dH b))) rfl rfl aK λA w5 q0=>iI q0 0 A 0 _ (Da c e n) 42 _ rfl lT aK aK rfl aK rfl λw6 k9=>nq (bi x λq1 N x=>cut (σ:=η) [1,4,5,6,11,57,58,59,75] (λh5=>[(75,(Vb h5))]) (λh5 w'=>Hp w [] (gW (Vs H (γ (([45,45]:aC)++a)) F) (γ (([45,45]:aC)++a)) (([45,45]:aC)++a)::bN eY 42 2 o k m (gz c e)::(gI jP c e++[])) w'/\h5=q1) ?_ ?_);refine bi N λl0 l1 N=> ?_;rcases Bool.eq_false_or_eq_true l0 with f7|f7;replace N:=cft f7 N;refine lY 11 (λj_ w_ Q=>eL [3,4,5,6,7,8,9,10,11,12] (λw'=>w'.heap[A]? =θ (.cells (Da c e n).toArray 42 (0,0))) j_ w_ Q/\True) _ (λ_ _=>⟨eL.same,trivial⟩) aK aK k9 rfl (yD (Fv (IE (yD (Fv (yD ax)))))) λw7 W=>rp 10 [0] (BW _ 1 64 _ _ (λ_ _ _ h=>h.1) _ rfl rfl aK aK aK aK aK rfl (nY rfl aD7) (by exact W.dV 0 rfl) (rp 8 [2] (ro 3 rfl (wc sk W (bhd ((c (bH n)).2.2.1) (γ ((el e n).2)) ((c (bH n)).2.2.2) H (γ (([45,45]:aC)++a)) F l1 (hG.jD W) rfl ((YH W (λr d=>(IZ (i:=3) (l:=(bA A (Da c e n) 42::gW (Vs H (γ (([45,45]:aC)++a)) F) (γ (([45,45]:aC)++a)) (([45,45]:aC)++a)::bN eY 42 2 o k m (gz c e)::(gI jP c e++[]))) (Ki _ d))) n d1).2).1 ((YH W (λr d=>(IZ (i:=3) (l:=(bA A _ 42::gW (Vs H _ F) _ ([45,45]++a)::bN eY 42 2 o k m _::(gI jP c e++[]))) (Ki _ d))) n d1).2).2.1 rfl (Rd.dD (W.dP 1 rfl)) (W.HY 1 rfl)) λq2 f8=>wl (oZ (by exact⟨eL.out rfl,trivial⟩) (rt 4 (Vb μ) rfl rfl (nY rfl (by intro w C;exact fK aK (bF (λb=>Result.ok (Next.value (.bool b)) w) f7))) (rp 3 [5,6,9] ?_)))))));refine ro 7 rfl (wp 1 (wl (oZ (by exact⟨eL.same,trivial⟩) (ro 8 rfl (wp 1 (wl (oZ (by exact⟨eL.same,trivial⟩) (ro 10 rfl (wp 1 ?_)))))))));refine wl (oZ (by exact⟨eL.same,trivial⟩) (kF aK (wp 2 (wl (ql ?_)))));obtain rfl:=oi N;exact⟨μ,_,rfl,by kernel_rfl,((Hp.front (Hp.front f8 2 _ rfl) 2 _ rfl).FQ 2 3 aA1),rfl⟩;replace N:=cff f7 N;refine gi N λq3 N=>lY 11 (λj_ w_ Q=>eL [3,4,5,6,7,8,9,10,11,12] (λw'=>w'.heap[A]? =θ (.cells (Da c e n).toArray 42 (0,0))) j_ w_ Q/\eL [11,12] (λw'=>w'.heap[A]? =θ (.cells (Da c e n).toArray 42 (0,0))) j_ w_ Q/\True) _ (λ_ _=>⟨eL.same,eL.same,trivial⟩) aK aK k9 rfl (yD (Fv (IE (yD (Fv (yD ax)))))) λw8 V=>rp 10 [0] (BW _ 1 64 _ _ (λ_ _ _ h=>h.1) _ rfl rfl aK aK aK aK aK rfl (nY rfl aD7) (by exact V.dV 0 rfl) (rp 8 [2] (ro 3 rfl (wc sk V (bhd ((c (bH n)).2.2.1) (γ ((el e n).2)) ((c (bH n)).2.2.2) H (γ (([45,45]:aC)++a)) F l1 (hG.jD V) rfl ((YH V (λr d=>(IZ (i:=3) (l:=(bA A (Da c e n) 42::gW (Vs H (γ (([45,45]:aC)++a)) F) (γ (([45,45]:aC)++a)) (([45,45]:aC)++a)::bN eY 42 2 o k m (gz c e)::(gI jP c e++[]))) (Ki _ d))) n d1).2).1 ((YH V (λr d=>(IZ (i:=3) (l:=(bA A (Da c e n) 42::gW (Vs H (γ (([45,45]:aC)++a)) F) (γ (([45,45]:aC)++a)) (([45,45]:aC)++a)::bN eY 42 2 o k m (gz c e)::(gI jP c e++[]))) (Ki _ d))) n d1).2).2.1 rfl (Rd.dD (V.dP 1 rfl)) (V.HY 1 rfl)) λq2 f8=>wl (oZ (by exact⟨eL.out rfl,eL.new (f8.dV 0 rfl),trivial⟩) (rt 4 (Vb ν) rfl rfl (nY rfl (by intro w C;exact fK (b:=Result.ok (Next.value (.bool l0)) w) aK (bF (λb=>Result.ok (Next.value (.bool b)) w) f7))) ?_))))));refine rp 5 [5] (BW _ 6 69 _ _ (λ_ _ _ h=>h.2.1) _ rfl rfl aK aK aK aK aK rfl (oJ 67 aK aK aK aD7) (by exact f8.dV 0 rfl) (rp 3 [9] (ro 7 rfl (gy 67 (lH f8 [(bt (13:ζ)),(bt (10:ζ))] 5 (λb=>(Vs (dH b) 2 2)) rfl rfl aK λU w9 l2=>wl (oZ (by exact⟨eL.out rfl,eL.new (l2.dV 1 rfl),trivial⟩) (ro 8 rfl (gy 67 ?_))))))));refine Ji l2 0 U 2 5 _ ((YJ):δ ζ) rfl rfl rfl underlying22 underlying5 aK λq4 f1=> ?_;replace f1:Hp w [] (gW (Vs (dH U) 2 2) 2 ((YJ):δ ζ)::bA A (Da c e n) 42::gW (Vs H (γ (([45,45]:aC)++a)) F) (γ (([45,45]:aC)++a)) (([45,45]:aC)++a)::bN eY 42 2 o k m (gz c e)::(gI jP c e++[])) q4:=f1;refine wl (oZ (by exact⟨eL.out rfl,eL.new (f1.dV 1 rfl),trivial⟩) (ro 10 rfl (gy 67 (JT f1 U H 2 F 5 1 1 ((YJ):δ ζ) (([45,45]:aC)++a) Io (Rd.dD (f1.dP 0 rfl)) rfl underlying22 aB1 aA1 aA1 aK aK (Rd.dD (f1.dP 2 rfl)) q3 λh6 f9 g0 q5 O=> ?_))));replace O:Hp w [] (bN eB 5 1 h6 f9 g0 (((YJ):δ ζ)++(([45,45]:aC)++a))::gW (Vs (dH U) 2 2) 2 ((YJ):δ ζ)::bA A (Da c e n) 42::gW (Vs H (γ (([45,45]:aC)++a)) F) (γ (([45,45]:aC)++a)) (([45,45]:aC)++a)::bN eY 42 2 o k m (gz c e)::(gI jP c e++[])) q5:=O;refine wl (oZ (by exact⟨eL.out rfl,eL.new (O.dV 2 rfl),trivial⟩) (kF aK (gy 67 (bi N λq6 q7 N=>wc ent23 O (yM ((c (bH n)).2.2.1) (γ ((el e n).2)) ((c (bH n)).2.2.2) f9 (γ (((YJ):δ ζ)++(([45,45]:aC)++a))) g0 q7 (hG.jD O) rfl ((YH O (λr d=>(IZ (i:=5) (l:=(bN eB 5 1 h6 f9 g0 (((YJ):δ ζ)++(([45,45]:aC)++a))::gW (Vs (dH U) 2 2) 2 ((YJ):δ ζ)::bA A (Da c e n) 42::gW (Vs H (γ (([45,45]:aC)++a)) F) (γ (([45,45]:aC)++a)) (([45,45]:aC)++a)::bN eY 42 2 o k m (gz c e)::(gI jP c e++[]))) (Ki _ d))) n d1).2).1 ((YH O (λr d=>(IZ (i:=5) (l:=(bN eB 5 1 h6 f9 g0 (((YJ):δ ζ)++(([45,45]:aC)++a))::gW (Vs (dH U) 2 2) 2 ((YJ):δ ζ)::bA A (Da c e n) 42::gW (Vs H (γ (([45,45]:aC)++a)) F) (γ (([45,45]:aC)++a)) (([45,45]:aC)++a)::bN eY 42 2 o k m (gz c e)::(gI jP c e++[]))) (Ki _ d))) n d1).2).2.1 ((YH O (λr d=>(IZ (i:=5) (l:=(bN eB 5 1 h6 f9 g0 (((YJ):δ ζ)++(([45,45]:aC)++a))::gW (Vs (dH U) 2 2) 2 ((YJ):δ ζ)::bA A (Da c e n) 42::gW (Vs H (γ (([45,45]:aC)++a)) F) (γ (([45,45]:aC)++a)) (([45,45]:aC)++a)::bN eY 42 2 o k m (gz c e)::(gI jP c e++[]))) (Ki _ d))) n d1).2).2.2 rfl (O.hK 0 rfl) (O.Gr 0 rfl) (O.zrw 0 rfl)) λx0 q8=>wp 1 (wl (ql ?_))))));obtain rfl:=oi N;exact⟨q6,_,rfl,by kernel_rfl,((Hp.front (Hp.front q8 4 _ rfl) 4 _ rfl).FQ 2 5 aA1),rfl⟩;rintro h5 x2 G ⟨l3,rfl⟩;refine cb x (λq9 x=> ?_) (λq9 x=> ?_);refine sr (wp 2 (nq (ct (lD (st (vG (lD ?_)))))));refine vG ?_;obtain rfl:=oi x;obtain rfl:=oi d;refine rX (Vs ι 0 0) (bt (7:ζ)) rfl aK aK ?_;exact⟨ι,ι,0,pD,(Hp.eX l3 eB 5 1 ι).kp⟩;exact ck (bn (qn (cr (gi x λr0 x=>rA n _ aK aK r0 (wp 1 (wl (ql (QI (n+(1:Int)) ((Hp.front (Hp.front l3 1 _ rfl) 1 _ rfl).FQ 2 2 aA1) x))))))));refine wI (vH (wJ (wH (ql ?_))));obtain rfl:=oi x;exact⟨(),_,rfl,by kernel_rfl,((Hp.front h4 1 _ rfl).FQ 1 2 aA1),rfl⟩;rintro j3 x3 G ⟨r1,rfl⟩;refine sr (wp 1 (nq (bi d λl4 r2 d=>cut (σ:=(δ ζ)×(ε Nat)×(ε Γ)×Nat) [1,4,5,14] (λ⟨d8,h7,g1,g2⟩=>[(14,(Vs g1 (γ d8) g2))]) (λ⟨d8,h7,g1,g2⟩ w'=>Hp w [] [bN eB 5 1 h7 g1 g2 d8] w'/\.inl d8=l4) ?_ ?_)));refine sr (wp 3 (nq (ce (CM (σ:=Nat×(δ ζ)×Int×(ε Nat)×(ε Γ)×Nat) [1,4,5,14,77,78,79] (λ⟨f2,d0,j,f3,T,S⟩=>[(14,(Vs T (γ d0) S)),(79,(Vi .i64 j))]) (λ⟨f2,d0,j,f3,T,S⟩ w'=>Hp w [] (bN eY 42 2 o k m (gz c e)::bN eB 5 1 f3 T S d0::(gI jP c e++[])) w'/\ali fu a e f2 d0 j=θ l4) (λ⟨f2,d0,j,f3,T,S⟩=>f2) (fu,([]:δ ζ),(0:Int),ι,ι,0) (by exact⟨((Hp.front (Hp.eX r1 eB 5 1 ι) 1 _ rfl).FQ 2 2 aA1),r2⟩) ?_ (mc aK (mc aK (mc aK (mc (fK (b:=(Vs ι 0 0)) aK (SJ lsy)) (mc aK (mc aK (mc aK rfl)))))))))));rintro⟨_|f2,d0,j,f3,T,S⟩ x4 G ⟨h8,M⟩
 ·exact yS M
 rw[azf,anz]at M;refine sr (wp 1 (nq (cs (cd M (λr3 M=> ?_) (λr3 M=> ?_)))));refine ck (qn (bi M λr4 p M=>cut (σ:=(δ ζ)×(ε Nat)×(ε Γ)×Nat) [1,4,5,14,77,78,79] (λ⟨f4,h9,g3,g4⟩=>[(14,(Vs g3 (γ f4) g4))]) (λ⟨f4,h9,g3,g4⟩ w'=>Hp w [] (bN eY 42 2 o k m (gz c e)::bN eB 5 1 h9 g3 g4 f4::(gI jP c e++[])) w'/\.inl f4=r4) ?_ ?_));refine ce (sr (gi p λr5 p=>Cq k (γ e) m 42 2 .i64 j underlying23 aK aK aK _ (Rq _ _).symm (Kd _ _ r5) (h8.hK 0 rfl) Ir aA1 (gi p λg5 p=>zD k eY (gz c e) 2 j Ir (h8.hK 0 rfl) (Da c e j) (Kd _ _ g5) (by rw[sS _ _ _ g5];rfl) aK aK aK aA1 (lH h8 (NC) 42 (λb=>(Vp (dH b))) rfl rfl aK λE x5 r6=>iI r6 0 E 0 _ (Da c e j) 42 _ rfl lT aK aK rfl aK rfl λx6 r7=>wl ?_))));refine qn (sr (wp 2 (gi p λr8 p=>Qt _ a aK aK r8 (gi p λr9 p=>Qt _ _ aK aK r9 (gi p λs0 p=>wS r7 2 f3 T S 5 d0 _ rfl underlying22 underlying9 aB1 aK aK aK s0 λl5 l6 l7 s1 i0=> ?_)))));replace i0:Hp w [] (bA E (Da c e j) 42::bN eY 42 2 o k m (gz c e)::bN eB 5 1 l5 l6 l7 (d0++((([45,45]:aC)++a)++([13,10]:aC)))::(gI jP c e++[])) s1:=i0;refine wp 1 (nq (bi p λl8 s2 p=>cut (σ:=(δ ζ)×(ε Nat)×(ε Γ)×Nat) [1,4,5,14,16,77,78,79] (λ⟨D,i1,g6,g7⟩=>[(14,(Vs g6 (γ D) g7))]) (λ⟨D,i1,g6,g7⟩ w'=>Hp w [] (bA E (Da c e j) 42::bN eY 42 2 o k m (gz c e)::bN eB 5 1 i1 g6 g7 D::(gI jP c e++[])) w'/\D=l8) ?_ ?_));refine sr (wp 1 (nX i0 0 E 0 _ 42 _ rfl rfl aK aK (wp 2 (nq (ce (CM (σ:=Nat×(δ ζ)×Int×(ε Nat)×(ε Γ)×Nat) [1,4,5,14,16,77,78,79,89,90,91] (λ⟨f5,K,u,d9,d2,d3⟩=>[(14,(Vs d2 (γ K) d3)),(91,(Vi .i64 u))]) (λ⟨f5,K,u,d9,d2,d3⟩ w'=>Hp w [] (bA E (Da c e j) 42::bN eY 42 2 o k m (gz c e)::bN eB 5 1 d9 d2 d3 K::(gI jP c e++[])) w'/\alh fu e j f5 K u=θ l8) (λ⟨f5,K,u,d9,d2,d3⟩=>f5) (fu,d0++((([45,45]:aC)++a)++([13,10]:aC)),(0:Int),l5,l6,l7) (by exact⟨((Hp.front (Hp.front (Hp.front i0 2 _ rfl) 2 _ rfl) 2 _ rfl).FQ 3 3 aA1),s2⟩) ?_))))));rintro⟨_|f5,K,u,d9,d2,d3⟩ x7 G ⟨i2,t⟩
 ·exact yS t
 rw[aze,anx]at t;refine sr (wp 1 (nq (cs (cd t (λs3 t=> ?_) (λs3 t=> ?_)))));refine ck (qn (cs (ce (sr (gi t λs4 t=>Cq _ (γ ((el e j).1)) ((c (bH j)).1.2.2) 49 2 .i64 u underlying40 aK aK aK _ rfl s4 ((YH i2 (λr d=>(IZ (i:=3) (l:=(bA E (Da c e j) 42::bN eY 42 2 o k m (gz c e)::bN eB 5 1 d9 d2 d3 K::(gI jP c e++[]))) (Ki _ d))) j g5).1).1 om aA1 (gi t λs5 t=>zD ((c (bH j)).1.2.1) qU ((el e j).1) 2 u om ((YH i2 (λr d=>(IZ (i:=3) (l:=(bA E (Da c e j) 42::bN eY 42 2 o k m (gz c e)::bN eB 5 1 d9 d2 d3 K::(gI jP c e++[]))) (Ki _ d))) j g5).1).1 [(str ((el ((el e j).1) u).1)),(str ((el ((el e j).1) u).2))] s5 aK aK aK aK aA1 ?_))))));refine lH i2 [(str ([]:aC)),(str ([]:aC))] 49 (λb=>(Vp (dH b))) rfl rfl aK λi3 x8 s6=>iI s6 0 i3 0 _ [(str ((el ((el e j).1) u).1)),(str ((el ((el e j).1) u).2))] 49 _ rfl lT aK aK rfl aK rfl λx9 j4=>nq (cr (wp 2 (nX j4 0 i3 0 _ 49 _ rfl rfl aK aK (gi t λs7 t=>Qt _ _ aK aK s7 (wp 1 ?_)))));refine nX j4 0 i3 1 _ 49 _ rfl rfl aK aK (gi t λs8 t=>Qt _ _ aK aK s8 (gi t λs9 t=>Qt _ _ aK aK s9 (gi t λt0 t=>wS j4 3 d9 d2 d3 5 K _ rfl underlying22 underlying9 aB1 aK aK aK t0 λl9 m0 m1 t1 j5=> ?_)));replace j5:Hp w [] (bA i3 [(str ((el ((el e j).1) u).1)),(str ((el ((el e j).1) u).2))] 49::bA E (Da c e j) 42::bN eY 42 2 o k m (gz c e)::bN eB 5 1 l9 m0 m1 (K++(((((el ((el e j).1) u).1)++([58,32]:aC))++((el ((el e j).1) u).2))++([13,10]:aC)))::(gI jP c e++[])) t1:=j5;refine wp 1 (wl (bn (qn (cr (gi t λt2 t=>rA u _ aK aK t2 (wp 1 (wl (ql ?_))))))));exact⟨(f5,K++(((((el ((el e j).1) u).1)++([58,32]:aC))++((el ((el e j).1) u).2))++([13,10]:aC)),u+(1:Int),l9,m0,m1),_,rfl,by kernel_rfl,⟨((Hp.front (Hp.front (Hp.front j5 3 _ rfl) 3 _ rfl) 3 _ rfl).FQ 3 4 aA1),t⟩,yQ _⟩;refine wI (vH (wJ (wH (ql ?_))));obtain rfl:=oi t;exact⟨(K,d9,d2,d3),_,rfl,by kernel_rfl,((Hp.front (Hp.front (Hp.front i2 2 _ rfl) 2 _ rfl) 2 _ rfl).FQ 3 3 aA1),rfl⟩;rintro⟨D,i1,g6,g7⟩ y0 G ⟨t3,rfl⟩;refine sr (wp 1 (gi p λt4 p=>wS t3 2 i1 g6 g7 5 D _ rfl underlying22 underlying9 aB1 aK aK aK t4 λj6 j7 j8 t5 g8=> ?_));replace g8:Hp w [] (bA E (Da c e j) 42::bN eY 42 2 o k m (gz c e)::bN eB 5 1 j6 j7 j8 (D++([13,10]:aC))::(gI jP c e++[])) t5:=g8;refine wp 1 (nq (sr (wp 2 (nX g8 0 E 1 _ 42 _ rfl rfl aK aK (gi p λt6 p=>SK g8 2 j6 j7 ((c (bH j)).2.2.1) j8 ((c (bH j)).2.2.2) 5 1 1 (D++([13,10]:aC)) _ Io rfl underlying22 aB1 aA1 aA1 aK aK ((YH g8 (λr d=>(IZ (i:=3) (l:=(bA E (Da c e j) 42::bN eY 42 2 o k m (gz c e)::bN eB 5 1 j6 j7 j8 (D++([13,10]:aC))::(gI jP c e++[]))) (Ki _ d))) j g5).2).1 t6 λm2 m3 m4 t7 j9=> ?_)))));replace j9:Hp w [] (bA E (Da c e j) 42::bN eY 42 2 o k m (gz c e)::bN eB 5 1 m2 m3 m4 ((D++([13,10]:aC))++((el e j).2))::(gI jP c e++[])) t7:=j9;refine wp 1 (nq (sr (wp 1 (gi p λt8 p=>wS j9 2 m2 m3 m4 5 ((D++([13,10]:aC))++((el e j).2)) _ rfl underlying22 underlying9 aB1 aK aK aK t8 λm5 m6 m7 t9 i4=> ?_))));replace i4:Hp w [] (bA E (Da c e j) 42::bN eY 42 2 o k m (gz c e)::bN eB 5 1 m5 m6 m7 (((D++([13,10]:aC))++((el e j).2))++([13,10]:aC))::(gI jP c e++[])) t9:=i4;refine wp 1 (nq (sr (wp 3 (nq (cd p (λu0 p=> ?_) (λu0 p=> ?_))))));refine sr (wp 2 (nq (ct (lD (vG ?_)))));obtain rfl:=oi p;refine vG (lD (vG ?_));obtain rfl:=oi M;obtain rfl:=oi d;refine rX (Vs ι 0 0) (bt (4:ζ)) rfl aK aK ?_;exact⟨ι,ι,0,pD,(Hp.eX i4 eB 5 1 ι).kp⟩;refine ck (bn (ql ?_));obtain rfl:=oi p;exact⟨(((D++([13,10]:aC))++((el e j).2))++([13,10]:aC),m5,m6,m7),_,rfl,by kernel_rfl,((Hp.front (Hp.front i4 2 _ rfl) 2 _ rfl).FQ 2 3 aA1),rfl⟩;rintro⟨f4,h9,g3,g4⟩ y1 G ⟨u1,rfl⟩;refine cr (gi M λu2 M=>rA j _ aK aK u2 (wp 1 (wl (ql ?_))));exact⟨(f2,f4,j+(1:Int),h9,g3,g4),_,rfl,by kernel_rfl,⟨((Hp.front (Hp.front u1 1 _ rfl) 1 _ rfl).FQ 2 2 aA1),M⟩,yQ _⟩;refine wI (vH (wJ (wH (ql ?_))));obtain rfl:=oi M;exact⟨(d0,f3,T,S),_,rfl,by kernel_rfl,(Hp.front h8 1 _ rfl).kp,rfl⟩;rintro⟨d8,h7,g1,g2⟩ y2 G ⟨u3,rfl⟩;refine sr (wp 2 (gi d λu4 d=>Qt _ a aK aK u4 (gi d λu5 d=>Qt _ _ aK aK u5 (gi d λu6 d=>wS u3 0 h7 g1 g2 5 d8 _ rfl underlying22 underlying9 aB1 aK aK aK u6 λm8 k0 k1 u7 i5=> ?_))));replace i5:Hp w [] [bN eB 5 1 m8 k0 k1 (d8++((([45,45]:aC)++a)++([45,45,13,10]:aC)))] u7:=i5;refine wp 1 (nq (cs (sr (wp 3 (nq (cd d (λu9 d=> ?_) (λu9 d=> ?_)))))));refine sr (wp 2 (nq (ct (st ?_))));obtain rfl:=oi d;refine rX (Vs ι 0 0) (bt (4:ζ)) rfl aK aK ?_;exact⟨ι,ι,0,pD,(Hp.eX i5 eB 5 1 ι).kp⟩;refine ck (qn (sr (wp 3 (nq (ct ?_)))));obtain rfl:=oi d;refine rX (Vs k0 (γ (d8++((([45,45]:aC)++a)++([45,45,13,10]:aC)))) k1) (bt (0:ζ)) rfl aK aK ?_;exact⟨m8,k0,k1,pD,i5.kp⟩
end Go.Proofs
