/-
  The law BodiesBack holds (part 8 of 9).
-/
import Derived.Test.YtomjpealmhpciaaGreatDoorYe7
import Derived.Test.YtomjpealmhpciaaGreatDoorRows
import Derived.ProofKit
import Derived.OpenShut
import Derived.Deep.DeepHandedRow
import Derived.Lib.LaidTab
import Derived.Shelf.Vars
import Derived.ChangeSame
import Derived.WalkKit
import Derived.SevenTiedAt
import Derived.Deep.Slices
import Derived.ReadAgain
import Derived.Test.YtomjpealmhpciaaGreatDoorProg
import Derived.Shelf.Strings.Builder1
import Derived.Shelf.Strings.Builder2
import Derived.Shelf.Strings.OnBuilder
import Derived.Shelf.Strings.Trim
import Derived.Shelf.Small.Utf8
import Derived.Shelf.Small.Strs
import Derived.Shelf.Small.Wraps
import Derived.Shelf.Strings.BuilderF
import Derived.Shelf.Strings.BuilderK
import Derived.Shelf.Utf8.RuneCount
import Derived.Shelf.Strings.Builder2Cap
import Derived.Shelf.Strconv.Itoa0
import Derived.Shelf.Strconv.Itoa1
import Derived.Shelf.LaysM
import Derived.Shelf.Strconv.Itoa2
import Derived.Shelf.Strconv.Itoa3
import Derived.Shelf.Strings.Search1
import Derived.Shelf.Strings.Search2
import Derived.Shelf.Strings.Search3
import Derived.Shelf.Strings.Cut
import Derived.Shelf.Strings.Count
import Derived.Shelf.Strings.Shaped
import Derived.Shelf.Strings.LastIndex
import Derived.Shelf.Strings.Prefix
import Derived.Shelf.Strings.Split
import Derived.Shelf.Strings.SplitShaped
import Derived.Shelf.Unicode.Decode
import Derived.Shelf.Strings.Runes
import Derived.Shelf.Strings.RuneCount
import Derived.Shelf.Strings.IndexAny
import Derived.Shelf.Strings.AsciiSet
import Derived.Shelf.Strings.IndexAnyAll
import Derived.Shelf.Strings.Explode
import Derived.Shelf.Unicode.DecodeSlow
import Derived.Shelf.Unicode.DecodeAny
import Derived.Shelf.Unicode.DecodeLast
import Derived.Shelf.Strings.BuilderCap
import Derived.Shelf.Bytes.SlIndexSmall
import Derived.Shelf.Bytes.SlIndexAt
import Derived.Shelf.Bytes.SlSearch0
import Derived.Shelf.Bytes.SlSearch1
import Derived.Shelf.Bytes.SlSearch2
import Derived.Shelf.Bytes.SlIndexWhole
import Derived.Ground.SlbCloneProg
import Derived.Shelf.Bytes.SlClone
import Derived.Shelf.Bytes.SlSmallAll
import Derived.Shelf.Bytes.SlEqualAll
import Derived.Ground.SlbtProg
import Derived.Shelf.Bytes.SlCut
import Derived.Ground.PaProg
import Derived.Shelf.Path.Small
import Derived.Shelf.Bytes.Small
import Derived.Shelf.Bytes.IndexByte
import Derived.Shelf.Strings.SlTrimAscii
open Bool renaming false → η, true → ζ
open Go renaming Addr → χ, IntKind → Α, Program → ω, TypeId → φ, Value → θ, World → ν
open Go.Shelf renaming Ren → Ε
open Go.Utf8 renaming decode → Δ, encode → ο
open Go.Value renaming bool → ι, func → Γ, int → υ, pointer → ς, slice → μ
open List renaming length → γ
open Option renaming none → ε, some → δ
set_option linter.unusedVariables false
set_option linter.unusedSimpArgs false
set_option maxRecDepth 20000
namespace Go.Proofs
open Go.Wk Go.Px Go.RowKit
theorem lenOf{s:ByteArray}(h:s.size<=maxLen):γ s.data.toList<=9223372036854775807:=Ja (by rw [Array.length_toList];exact h) (show maxLen<=9223372036854775807 by decide)
theorem Nc{P:ω}{w:ν}:∀{l:List (String×DataW Unit)} {c:List MemPlace},DataW.LaidVars P w l c->∀(i:Nat) {n:String} {d:DataW Unit},l[i]? =δ (n,d)->
  ∃g t cs a p,P.globalNamed n=δ g/\(P.globals[g]?).map (·.type)=δ t/\w.var? P n=δ cs/\DataW.trod (λ_=>()) P w 0 (λ_=>ζ) η a t cs.toList=δ (d,p)
 |[],_,_,i,n,d,b=>by simp at b
 |(n',d')::l,c,h,0,n,d,b=>by obtain⟨g,t,cs,a,p,q,m,k,j,f,_,_⟩:=h;simp only [List.getElem?_cons_zero,aW,bR]at b;obtain⟨rfl,rfl⟩:=b;exact⟨g,t,cs,a,p,m,k,j,f⟩
 |(n',d')::l,c,h,i+1,n,d,b=>by obtain⟨g,t,cs,a,p,q,_,_,_,_,e,_⟩:=h;exact Nc e i aB6
variable {P:ω}{w:ν}{g:Nat}{a:Array θ}
theorem ay{n:String}(c:P.globalNamed n=δ g)(h:w.var? P n=δ a):Vr w g a.toList:=by
 simp only [World.var?,c,cL]at h;split at h
 ·rename_i b t f e;cases h;exact⟨t,f,by rw [e]⟩
 ·cases h
theorem chunks{a:Type}{f:a->List θ}{sz:Nat}:∀(zs:List a) (cs:List θ),γ cs=γ zs*sz->(∀(i:Nat) (z:a),zs[i]? =δ z->(cs.drop (i*sz)).take sz=f z)->cs=zs.flatMap f
 |[],cs,b,_=>by simpa using b
 |z::zs,cs,b,h=>by have c:=h 0 z rfl;simp only [Nat.zero_mul,Qs]at c;have e:=chunks (f:=f) (sz:=sz) zs (cs.drop sz) (by rw [HS,b,dM,dB];omega) (λi z' d=>by have:=h (i+1) z' aC9;rw [List.drop_drop,Nat.add_comm,<-dB];exact this);rw [List.flatMap_cons,<-c,<-e,WS]
variable {e:φ}{cs:List θ}{p:List MemPlace}{d:Type}
theorem Qa{n sz:Nat}{a:φ}{dz:d->DataW Unit}{f:d->List θ}(zs:List d)
  (v:P.underlying e=δ (.array n a)) (m:P.cellsOf a=sz) (l:P.cellsOf e=n*sz) (s:γ zs=n)
  (k:∀g c z p,DataW.trod (λ_=>()) P w 0 (λ_=>ζ) η g a c=δ (dz z,p)->c=f z)
  (h:DataW.trod (λ_=>()) P w 0 (λ_=>ζ) η g e cs=δ (.agg (zs.map dz),p)):cs=zs.flatMap f:=by
 cases g with
 |zero=>simp [DataW.trod]at h
 |succ g=>
  simp only [DataW.trod,v,m,l]at h;split at h
  ·rename_i y;obtain⟨r,x,hx⟩:=bT.1 h;have t:r.map (·.1)=zs.map dz:=by have:=aV Prod.fst hx;simpa using this
   refine chunks zs cs (by rw [y,s]) λi z u=> ?_;have j:i<n:=by rw [<-s];exact(aD.1 u).1
   obtain⟨b,B,A⟩:=Lib.mapM_at x i i (by simp [j]);have o:b.1=dz z:=by
    have q:(r.map (·.1))[i]? =δ b.1:=by simp [B]
    rw [t]at q;simp only [bE,u,Option.map_some,aW]at q;exact q.symm
   exact k g _ z b.2 (by rw [A,<-o])
  ·cases h
theorem Xn{p:List MemPlace}(b:P.underlying e=δ .string)(z:List UInt8)
  (h:DataW.trod (λ_=>()) P w 0 (λ_=>ζ) η g e cs=δ (.lit (.string z),p)):cs=eS z:=by
 obtain⟨s,rfl,hx,_⟩:=DataW.trod_string b h;simp only [bR,DataW.lit.injEq,Lit.string.injEq]at hx;obtain⟨rfl,_⟩:=hx;rfl
variable {k:Α}
theorem ik{p:List MemPlace}(b:P.underlying e=δ (.int k))(z:Int)
  (h:DataW.trod (λ_=>()) P w 0 (λ_=>ζ) η g e cs=δ (.lit (.int k z),p)):cs=[.int k z]:=by
 obtain⟨n,rfl,hx,_⟩:=DataW.trod_int b h;simp only [bR,DataW.lit.injEq,Lit.int.injEq]at hx;obtain⟨⟨_,rfl⟩,_⟩:=hx;rfl
theorem G8{a b:φ}{f0 f1:Field}{p:List MemPlace}(A:P.underlying e=δ (.struct #[f0,f1]))(D:P.underlying a=δ .string)(C:P.underlying b=δ (.int k))
  (n:(f0.type,f0.offset,f1.type,f1.offset)=(a,0,b,1)) (l:P.cellsOf a=1) (j:P.cellsOf b=1) (B:P.cellsOf e=2) (z:List UInt8×Int)
  (h:DataW.trod (λ_=>()) P w 0 (λ_=>ζ) η g e cs=δ (.agg [.lit (.string z.1),.lit (.int k z.2)],p)):cs=[str z.1,.int k z.2]:=by
 obtain⟨q,o⟩:=z;simp only [bR]at n;obtain⟨t0,x,t1,t⟩:=n;cases g with
 |zero=>simp [DataW.trod]at h
 |succ g=>
  simp only [DataW.trod,A,B]at h;split at h
  ·rename_i y;obtain⟨G,m,hx⟩:=bT.1 h;simp only [List.mapM_cons,List.mapM_nil,Option.bind_eq_bind,iR,Option.pure_def,aW,t0,t1,x,t,l,j,Qs]at m;obtain⟨s,i,I,⟨r,c,H,rfl,rfl⟩,rfl⟩:=m;simp only [eR,eG,bR,DataW.agg.injEq,cU,tZ]at hx;obtain⟨⟨F,E⟩,_⟩:=hx;have f:=Xn D q (p:=s.2) (by rw [i,<-F]);have d:=ik C o (p:=r.2) (by rw [c,<-E])
   match cs,y,f,d with
   |[u,v],_,f,d=>simp only [fG,Qq,List.drop_succ_cons,Qs,eS,cU,tZ]at f d;rw [f,d]
  ·cases h
theorem yj{t:φ}{zero:Array θ}(h:w.ShapedOpen P)(b:g<P.globals.size)
  (c:((begin P (λ_ _=>0) default).world.heap[g]?).bind Obj.row? =δ (zero,t)) (d:zero.size=1)
  (p:P.buildable t=ζ) (o:P.cellTypes P.depth t=δ [t]) (f:P.underlying t=δ (.int k)):∃m,Vr w g [.int k m]:=by
 obtain⟨m,j⟩:=cell_of_shapedOpen_int h b c d p o f;obtain⟨cs,a,s,_⟩:=h.1 g zero t b c;refine⟨m,t,(0,0), ?_⟩;rw [a];have r:cs.size=1:=aA0
 have q:cs[0]? =δ (.int k m):=by
  have:w.cell? ⟨g,0,ε⟩=cs[0]? :=by simp [World.cell?,a]
  rw [<-this];exact j
 have e:cs=[υ k m].toArray:=by
  apply ae
  ·simp [r]
  ·intro i n l;have:i=0:=aA0;subst this;simpa [n] using q
 rw [e]
theorem M9(h:w.ShapedOpen P)(b:g<P.globals.size)(d:(((begin P (λ_ _=>0) default).world.heap[g]?).bind Obj.row?).isSome=ζ):g+1<=w.heap.size:=by obtain⟨⟨zero,t⟩,c⟩:=AW.1 d;obtain⟨cs,a,_⟩:=h.1 g zero t b c;exact(bW.1 a).1
theorem yb{l:List (String×DataW Unit)}(h:laidMetH P l w)(b:(l.filter λx=>x.2.handleName?.isSome)=[]):∃a,DataW.LaidVars P w l a:=by unfold laidMetH at h;rw [b]at h;obtain⟨a,c,_⟩:=h;exact⟨a,c⟩
theorem postOf{enc:φ×θ->d}{f:Func}{s:ChangeSpec}{H fresh c:Bool}{m:ν}{v:θ}{l gs:List (DataW d)}{pa pv:List MemPlace}
  (n:DataW.Whole enc P f.params.toList s.vars H w a.toList l gs p)
  (k:∀(b:Nat) (g:Nat->Bool) (r:Bool),DataW.TrodAll enc P m b g r f.resultTypes.toList (v.resultList f.resultTypes.size) (s.fn d (l++gs)).results [])
  (j:∀g:Nat->Bool,(∀W∈p,g W.block=ζ)->DataW.TrodAll enc P m 0 g ζ f.params.toList a.toList (s.fn d (l++gs)).args pa)
  (i:∀g:Nat->Bool,(∀W∈p,g W.block=ζ)->DataW.TrodVars enc P m g s.vars (s.fn d (l++gs)).vars pv)
  (q:w.keptBut m (λW=>W∈p/\(W∈([]:List MemPlace)\/W∈pa\/W∈pv))):s.post enc P f H fresh c η w a v m:=by
 have e:∀W∈p,(λb=>decide (b<w.heap.size)) W.block=ζ:=λW o=>by simpa using n.lt W o
 exact⟨l,gs,p,[],pa,pv,n,k _ _ _,j _ e,i _ e,q,λh=>by cases h⟩
end Go.Proofs
set_option maxRecDepth 100000
namespace Go.Proofs
open Go.Wk Go.Px Go.RowKit
variable {W:ν}
theorem glOf(q:laidMetH Tryz.prog YtomjpealmhpciaaGreatDoor.Rows.bodiesBackRow.laid W)(j:W.ShapedOpen Tryz.prog)(o:9<=W.heap.size):Gl W:=by
 obtain⟨r,h⟩:=yb q aF;have v0:Vr W 0 (List.flatMap eS W6):=by obtain⟨g,t,cs,b,p,a,i,d,c⟩:=Nc h 5 rfl;obtain rfl := aJ ((show Tryz.prog.globalNamed "dialtone/header.specials" = δ 0 by kernel_rfl).symm.trans a);obtain rfl:=aJ ((show(Tryz.prog.globals[0]?).map (·.type)=δ 92 by kernel_rfl).symm.trans i);have e:=Qa (dz:=λs=>.lit (.string s)) (f:=eS) W6 Tryz.underlying92 (show Tryz.prog.cellsOf 9=1 by kernel_rfl) aF rfl (λ_ _ z _ h=>Xn Tryz.underlying9 z h) c;have:=ay a d;rw [e]at this;exact this
 have n:Vr W 2 (List.flatMap Fp Iq):=by obtain⟨g,t,cs,b,p,a,i,d,c⟩:=Nc h 6 rfl;obtain rfl := aJ ((show Tryz.prog.globalNamed "dialtone/header.kinds" = δ 2 by kernel_rfl).symm.trans a);obtain rfl:=aJ ((show(Tryz.prog.globals[2]?).map (·.type)=δ 167 by kernel_rfl).symm.trans i);have e:=Qa (dz:=λz=>.agg [.lit (.string z.1),.lit (.int .i64 z.2)]) (f:=Fp) Iq Tryz.underlying167 (show Tryz.prog.cellsOf 166=2 by kernel_rfl) aF rfl (λ_ _ z _ h=>G8 Tryz.underlying166 Tryz.underlying9 Tryz.underlying114 rfl aF aF aF z h) c;have:=ay a d;rw [e]at this;exact this
 have v4:Vr W 4 (List.flatMap eS z7):=by obtain⟨g,t,cs,b,p,a,i,d,c⟩:=Nc h 4 rfl;obtain rfl := aJ ((show Tryz.prog.globalNamed "dialtone/address.classes" = δ 4 by kernel_rfl).symm.trans a);obtain rfl:=aJ ((show(Tryz.prog.globals[4]?).map (·.type)=δ 245 by kernel_rfl).symm.trans i);have e:=Qa (dz:=λs=>.lit (.string s)) (f:=eS) z7 Tryz.underlying245 (show Tryz.prog.cellsOf 9=1 by kernel_rfl) aF rfl (λ_ _ z _ h=>Xn Tryz.underlying9 z h) c;have:=ay a d;rw [e]at this;exact this
 have l:Vr W 3 (Lib.pow10Tab.map λz=>υ .u64 z):=by obtain⟨g,t,cs,b,p,a,i,d,c⟩:=Nc h 2 rfl;obtain rfl := aJ ((show Tryz.prog.globalNamed "internal/strconv.uint64pow10" = δ 3 by kernel_rfl).symm.trans a);obtain rfl:=aJ ((show(Tryz.prog.globals[3]?).map (·.type)=δ 224 by kernel_rfl).symm.trans i);have e:=Lib.cells_of_tab (zs:=Lib.pow10Tab) (k:=.u64) Tryz.underlying224 Tryz.underlying196 aF aF c;have:=ay a d;rw [e]at this;exact this
 have v1:∃m,Vr W 1 [.int .i64 m]:=yj (zero:= #[.int .i64 0]) (t:=3) j (bU aF) aF rfl aF aF Tryz.underlying3;exact {gs:=o,specials:=v0,kinds:=n,classes:=v4,pow10:=l,maxlen:=v1}
def UG(g:Nat)(o:Obj):Obj:=
 match o with
 |.cells c t a=>.cells (match g with
  |7=>(([0,1,28,2,29,14,24,3,30,22,20,15,25,17,4,8,31,27,13,23,21,19,16,7,26,12,18,6,11,5,10,9]:List Int).map (υ .u8)).toArray
  |8=>(([0,1,56,2,57,49,28,3,61,58,42,50,38,29,17,4,62,47,59,36,45,43,51,22,53,39,33,30,24,18,12,5,63,55,48,27,60,41,37,16,46,35,44,21,52,32,23,11,54,26,40,15,34,20,31,10,25,14,19,9,13,8,7,6]:List Int).map (υ .u8)).toArray
  |3=>(([1,10,100,1000,10000,100000,1000000,10000000,100000000,1000000000,10000000000,100000000000,1000000000000,10000000000000,100000000000000,1000000000000000,10000000000000000,100000000000000000,1000000000000000000,10000000000000000000]:List Int).map (υ .u64)).toArray
  |6=>(([128,191,160,191,128,159,144,191,128,143,0,0,0,0,0,0,0,0,0,0,0,0,0,0,0,0,0,0,0,0,0,0]:List Int).map (υ .u8)).toArray
  |4=> #[str [38,61,43,36,44,59,63,47],str [91,93,47,58,38,43,36],str [91,93,47,63,58,43,36]]
  |0=> #[str [67,97,108,108,45,73,68],str [67,83,101,113],str [77,73,77,69,45,86,101,114,115,105,111,110],str [77,105,110,45,83,69],str [82,65,99,107],str [82,83,101,113],str [87,87,87,45,65,117,116,104,101,110,116,105,99,97,116,101]]
  |2=> #[str [70,114,111,109],.int .i64 1,str [84,111],.int .i64 1,str [67,111,110,116,97,99,116],.int .i64 1,str [82,111,117,116,101],.int .i64 1,str [82,101,99,111,114,100,45,82,111,117,116,101],.int .i64 1,str [80,97,116,104],.int .i64 1,str [83,101,114,118,105,99,101,45,82,111,117,116,101],.int .i64 1,str [82,101,102,101,114,45,84,111],.int .i64 1,str [82,101,102,101,114,114,101,100,45,66,121],.int .i64 1,str [82,101,112,108,121,45,84,111],.int .i64 1,str [86,105,97],.int .i64 2,str [67,83,101,113],.int .i64 3,str [82,65,99,107],.int .i64 4,str [67,111,110,116,101,110,116,45,76,101,110,103,116,104],.int .i64 5,str [69,120,112,105,114,101,115],.int .i64 5,str [77,97,120,45,70,111,114,119,97,114,100,115],.int .i64 5,str [77,105,110,45,69,120,112,105,114,101,115],.int .i64 5,str [82,83,101,113],.int .i64 5,str [67,111,110,116,101,110,116,45,68,105,115,112,111,115,105,116,105,111,110],.int .i64 6,str [67,111,110,116,101,110,116,45,84,121,112,101],.int .i64 6,str [69,118,101,110,116],.int .i64 6,str [77,105,110,45,83,69],.int .i64 6,str [83,101,115,115,105,111,110,45,69,120,112,105,114,101,115],.int .i64 6,str [83,117,98,115,99,114,105,112,116,105,111,110,45,83,116,97,116,101],.int .i64 6,str [65,99,99,101,112,116],.int .i64 7,str [65,108,108,111,119],.int .i64 7,str [65,108,108,111,119,45,69,118,101,110,116,115],.int .i64 7,str [80,114,111,120,121,45,82,101,113,117,105,114,101],.int .i64 7,str [82,101,113,117,105,114,101],.int .i64 7,str [83,117,112,112,111,114,116,101,100],.int .i64 7,str [85,110,115,117,112,112,111,114,116,101,100],.int .i64 7]
  |5=>(Go.Pinned.utf8FirstZ.map λ(z:Nat)=>υ .u8 (z:Int)).toArray
  |_=>c) t a
 |o=>o
noncomputable def Ep(a:Os):ν:={World.holding Tryz.prog a ⟨#[], #[],[]⟩with heap:=(World.holding Tryz.prog a ⟨#[], #[],[]⟩).heap.mapIdx UG}
theorem own:ownKnob Tryz.prog.godebug=ε:=by kernel_rfl
open YtomjpealmhpciaaGreatDoor.Rows (uptoBulk uptoBulkAll)
theorem JI{a:ν}(h:Below W.heap.size W a){p:MemPlace}(c:p.block<W.heap.size):W.sameAt a p:=by
 cases p with
 |cell b off=>show a.cell? _=W.cell? _;unfold World.cell?;rw [h.block b c]
 |map b=>exact h.block b c
theorem HD{H:Type}{enc:φ×θ->H}{P:ω}{W g:ν}{c:Nat->Bool}:∀{b:List φ} {vs:List θ} {f:List (DataW H)} {a:List MemPlace},DataW.TrodAll enc P W 0 c ζ b vs f a->(∀p∈a,W.sameAt g p)->DataW.TrodAll enc P g 0 c ζ b vs f a
 |[],[],[],_,h,_=>h
 |_::_,_::_,_::_,_,⟨p,q,⟨n,j⟩,i,e⟩,d=>⟨p,q,⟨n,DataW.trod_carry n _ _ _ j λx hx=>d x (by rw [e];exact List.mem_append_left _ hx)⟩,HD i λx hx=>d x (by rw [e];exact List.mem_append_right _ hx),e⟩
theorem again{H:Type}{enc:φ×θ->H}{P:ω}{W j:ν}{b:List φ}{vs:List θ}{i:List (DataW H)}{a:List MemPlace}(n:laidOutB P=ζ)(m:mapsRowed P=ζ)
  (o:((List.range P.types.size).all λt=>match P.underlying t with|some (.slice e)=>decide (0<P.cellsOf e)|_=>ζ)=ζ) (c:(b.all λt=>decide (t<P.types.size))=ζ)
  (h:DataW.TrodAll enc P W 0 (λ_=>ζ) ζ b vs i a) (q:Below W.heap.size W j) (f:∀p∈a,p.block<W.heap.size) (g:Nat->Bool) (d:∀p∈a,g p.block=ζ):DataW.TrodAll enc P j 0 g ζ b vs i a:=by
 refine HD (DataW.TrodAll.respare (kids_rows n m) (slices_full_of P o) (λt k=> ?_) h d) λp l=>JI q (f p l);have:=aT.1 c t k;simpa using this
def Dec(P:ω)(w:ν){H:Type}(enc:φ×θ->H){c:Type}(t:φ)(f:c->List θ)(a:c->Prop)(sz:c->Nat):Prop:=
 ∀(base:Nat) (d:Nat->Bool) (e:Bool) (b:Nat) (cs:List θ) (x:DataW H×List MemPlace),DataW.trod enc P w base d e b t cs=δ x->∃z,cs=f z/\a z/\sz z<=uptoBulk x.1
section
variable {P:ω}{w:ν}{H:Type}{enc:φ×θ->H}{t:φ}
theorem awd(b:P.underlying t=δ .string):Dec P w enc t eS (λs=>γ s<=9223372036854775807) (λs=>γ s):=by intro base d e a cs x h;obtain⟨s,rfl,hx,c⟩:=DataW.trod_string b h;refine⟨s.data.toList,rfl,lenOf c, ?_⟩;rw [hx];simp [uptoBulk]
theorem kc{k:Α}(b:P.underlying t=δ (.int k)):Dec P w enc t (eI k) (λn=>(Lit.int k n).wf=ζ) (λ_=>0):=by intro base d e a cs x h;obtain⟨n,rfl,hx,c⟩:=DataW.trod_int b h;exact⟨n,rfl,c,Nat.zero_le _⟩
variable {b:Type}
theorem LG{n:Nat}{D:Nat->DataW H}{sz:b->Nat}:∀(zs:List b),γ zs=n->(∀i (h:i<γ zs),sz zs[i]<=uptoBulk (D i))->(zs.map sz).sum<=uptoBulkAll ((List.range n).map D):=by
 intro zs;induction zs generalizing n D with
 |nil=>intro a _;subst a;simp
 |cons z zs d=>intro a h;subst a;have c:=h 0 aA2;have:=d (n:=γ zs) (D:=λi=>D (i+1)) rfl (λi e=>by have:=h (i+1) aA4;simpa using this);rw [dM,List.range_succ_eq_map,eR,eR,List.sum_cons,uptoBulkAll,jN];simp only [List.getElem_cons_zero]at c;exact Nat.add_le_add c this
variable {a n:Nat}{cs:List θ}
theorem VT{f:χ}(h:w.cells? a f n=δ cs):γ cs=n/\∀j v,cs[j]? =δ v->w.cell? (f.add j)=δ v:=by obtain⟨e,d,c⟩:=World.cells?_some h;exact⟨d,λj v b=>(c j (by have:=(aD.1 b).1;omega)).trans b⟩
variable {e:φ}{J:Nat->Bool}{S:Bool}{x:DataW H×List MemPlace}
theorem vC{f:b->List θ}{c:b->Prop}{sz:b->Nat}(L:P.underlying t=δ (.slice e))(R:Dec P w enc e f c sz)
  (h:DataW.trod enc P w a J S n t cs=δ x):∃q Z cap,∃zs:List b,cs=[.slice q Z cap]/\Z=γ zs/\Z<=cap/\Rd w q (zs.flatMap f)/\(∀z∈zs,c z)/\(zs.map sz).sum<=uptoBulk x.1:=by
 rcases Deep.open_slice L h with⟨rfl,rfl⟩|⟨q,len,cap,m,Z,D,Y,rfl,X,O,V,B,rfl,hx⟩
 ·exact⟨ε,0,0,[],rfl,rfl,rE _,λj v g=>by simp at g,λz u=>by simp at u,Nat.zero_le _⟩
 ·have N:len<=m:=by rw [B];split<;>omega
  have key:∀k,k<=len->∃zs:List b,γ zs=k/\(∀z∈zs,c z)/\(∀i (r:i<γ zs),sz zs[i]<=uptoBulk (D i))/\γ (zs.flatMap f)=k*P.cellsOf e/\∀j v,(zs.flatMap f)[j]? =δ v->w.cell? (q.add j)=δ v:=by
   intro k;induction k with
   |zero=>intro _;exact⟨[],rfl,λz u=>by simp at u,λi r=>by simp at r,aA2,λj v g=>by simp at g⟩
   |succ k K=>
    intro W;obtain⟨zs,d,I,G,s,F⟩:=K aA0;obtain⟨U,T,A⟩:=hx k aA0;obtain⟨z,rfl,Q,M⟩:=R _ _ _ _ _ _ A;obtain⟨C,E⟩:=VT T;refine⟨zs++[z],by simp [d],λy l=> ?_,λi r=> ?_, ?_,λj v g=> ?_⟩
    ·rcases aR.1 l with l|l
     ·exact I y l
     ·rw [aE.1 l];exact Q
    ·by_cases p:i<γ zs
     ·rw [List.getElem_append_left p];exact G i p
     ·have:i=k:=by simp at r;omega
      subst this;simp only [d.symm,List.getElem_concat_length];rw [d];exact M
    ·simp [s,C,dB]
    ·rw [List.flatMap_append,MF]at g;by_cases o:j<γ (zs.flatMap f)
     ·rw [aI o]at g;exact F j v g
     ·rw [aN aA0,s]at g;have:=E _ _ g;rw [s]at o;have e:(q.add (k*P.cellsOf e)).add (j-k*P.cellsOf e)=q.add j:=by rw [Go.Wk.add_add];congr 1;omega
      rw [e]at this;exact this
  obtain⟨zs,d,I,G,s,F⟩:=key len (rE _);refine⟨δ q,len,cap,zs,rfl,d.symm,O,λj v g=>⟨q,rfl,F j v g⟩,I, ?_⟩;have:=LG (sz:=sz) zs d G;simp only [uptoBulk];omega
theorem jz(b:P.underlying t=δ (.int .u8)):Dec P w enc t eB (λ_=>True) (λ_=>1):=by
 intro base d e a cs x h;obtain⟨n,rfl,hx,c⟩:=DataW.trod_int b h;have f:0<=n/\n<=255:=by simpa [Lit.wf,show IntKind.u8.min=0 by decide,show IntKind.u8.max=255 by decide] using c
 refine⟨UInt8.ofNat n.toNat, ?_,trivial, ?_⟩
 ·have:((UInt8.ofNat n.toNat).toNat:Int)=n:=by rw [qO];omega
  simp only [eB,bt,this]
 ·rw [hx];simp [uptoBulk]
theorem NB{b:Type}:∀l:List b,(l.map λ_=>1).sum=γ l
 |[]=>rfl
 |a::l=>by rw [eR,List.sum_cons,NB l,dM];omega
theorem Vv(f:P.underlying t=δ (.slice e))(g:P.underlying e=δ (.int .u8))
  (h:DataW.trod enc P w a J S n t cs=δ x):∃i d cap,∃zs:List UInt8,cs=[.slice i d cap]/\d=γ zs/\d<=cap/\Rd w i (zs.flatMap eB)/\(∀z∈zs,True)/\γ zs<=uptoBulk x.1:=by
 obtain⟨i,d,cap,zs,o,m,l,k,j,c⟩:=vC f (jz g) h;rw [NB]at c;exact⟨i,d,cap,zs,o,m,l,k,j,c⟩
def qv:TypeDesc->Bool
 |.struct _=>η
 |.array _ _=>η
 |_=>ζ
theorem TT{v x:θ}{ty:TypeDesc}(b:P.underlying t=δ ty)(d:Value.okWide P w .any a t v)(c:qv ty=ζ)(e:v.cells.toList=[x]):v=x:=by
 cases v with
 |agg cs=>exfalso;unfold Value.okWide Cell.okWide Cell.ok at d;rw [b]at d;cases ty<;>first|(simp [qv]at c;done)|simp at d
 |_=>simpa [Value.cells] using e
end
open Go.Wk Go.Px Go.RowKit
open YtomjpealmhpciaaGreatDoor.Rows (uptoBulk uptoBulkAll)
theorem GU{P:ω}{w:ν}{H:Type}{enc:φ×θ->H}{t e:φ}(g:P.underlying t=δ (.slice e)){base:Nat}{f:Nat->Bool}{i:Bool}{c:Nat}{a:Option χ}{n cap:Nat}{x:DataW H×List MemPlace}
  (h:DataW.trod enc P w base f i c t [.slice a n cap]=δ x):a=ε->cap=0:=by
 intro j;rcases Deep.open_slice g h with⟨b,_⟩|⟨a',len,d,m,n',D,k,b,_⟩
 ·simp at b;exact b.2.2
 ·simp at b;rw [j]at b;cases b.1
def gOf(zs:List (qL×(PA×PA))):Nat->PA×PA:=λi=>(zs[i]?.map (·.2)).getD ((ε,ε,0),(ε,ε,0))
theorem gz_of(zs:List (qL×(PA×PA))):gz (gOf zs) (zs.map (·.1))=zs:=by
 apply bV;intro j;rw [Hd,bE];cases h:zs[j]? with
 |none=>rfl
 |some z=>simp [gOf,h]
end Go.Proofs
set_option maxRecDepth 20000
namespace Go.Proofs
open Go.Wk Go.Px Go.RowKit
open YtomjpealmhpciaaGreatDoor.Rows (uptoBulk uptoBulkAll)
variable {W:ν}{H:Type}{a:φ×θ->H}
theorem dec_gh:Dec Tryz.prog W a 37 dA (λz=>γ z.1<=9223372036854775807/\γ z.2<=9223372036854775807) (λz=>γ z.1+γ z.2):=by
 intro base t w f cs x h;obtain⟨l,n,_,rfl,d,y,e⟩:=DataW.trod_struct Tryz.underlying37 h;rw [show Tryz.prog.cellsOf 37=2 by kernel_rfl]at d
 match cs,d with
 |[q,p],_=>
 match l,y with
 |[s,r],_=>
 obtain⟨k,i,o,v⟩:=awd Tryz.underlying9 _ _ _ _ _ _ (e 0 _ rfl);obtain⟨j,g,m,u⟩:=awd Tryz.underlying9 _ _ _ _ _ _ (e 1 _ rfl);have c:[q]=_:=i;have b:[p]=_:=g;clear i g;refine⟨(k,j), ?_,⟨o,m⟩, ?_⟩
 ·simp only [eS,cU,tZ]at c b;subst c b;rfl
 ·simp only [eR,eG,uptoBulk,uptoBulkAll]at*;omega
def O1(W:ν)(z:qL×(PA×PA)):Prop:=
 (Rd W z.2.1.2.1 (z.1.1.flatMap dA)/\γ z.1.1<=z.2.1.2.2/\(z.2.1.2.1=ε->z.2.1.2.2=0))/\(Rd W z.2.2.2.1 (z.1.2.flatMap eB)/\γ z.1.2<=z.2.2.2.2/\(z.2.2.2.1=ε->z.2.2.2.2=0))
theorem ka:Dec Tryz.prog W a 40 cE (O1 W) (λz=>(z.1.1.map λh=>γ h.1+γ h.2).sum+γ z.1.2):=by
 intro base F J p cs x h;obtain⟨u,n,_,rfl,m,O,o⟩:=DataW.trod_struct Tryz.underlying40 h;rw [show Tryz.prog.cellsOf 40=2 by kernel_rfl]at m
 match cs,m with
 |[A,y],_=>
 match u,O with
 |[E,D],_=>
 have t0:=o 0 _ rfl;have t1:=o 1 _ rfl;obtain⟨C,I,c,t,r,e,g,j,L,N⟩:=vC Tryz.underlying22 dec_gh t0;obtain⟨B,G,b,s,q,d,f,i,K,M⟩:=Vv Tryz.underlying23 Tryz.underlying5 t1;have w:=GU Tryz.underlying22 (r▸t0);have v:=GU Tryz.underlying23 (q▸t1);have l:[A]=_:=r;have k:[y]=_:=q;subst e d;refine⟨((t,s),((ε,C,c),(ε,B,b))), ?_,⟨⟨j,g,w⟩,⟨i,f,v⟩⟩, ?_⟩
 ·simp only [cU,tZ]at l k;subst l k;rfl
 ·simp only [eR,eG,uptoBulk,uptoBulkAll]at*;omega
theorem yl(zs:List (qL×(PA×PA)))(c:∀z∈zs,O1 W z)(i:Int)(b:0<=i/\i<(γ (zs.map (·.1)):Int)):O1 W (el (zs.map (·.1)) i,gOf zs (Int.toNat i)):=by
 rw [List.length_map]at b;have a:i.toNat<γ zs:=aA0;have e:el (zs.map (·.1)) i=zs[i.toNat].1:=by simp [el,a]
 have d:gOf zs i.toNat=zs[i.toNat].2:=by simp [gOf,a]
 rw [e,d];exact c _ (yN a)
theorem Js:∀(l:List Nat) (n:Nat),n∈l->n<=l.sum
 |a::l,n,h=>by
  rw [List.sum_cons];rcases aP.1 h with rfl|h
  ·omega
  ·have:=Js l n h;omega
theorem I6(zs:List (qL×(PA×PA)))(c:(zs.map λz=>(z.1.1.map λh=>γ h.1+γ h.2).sum+γ z.1.2).sum<=1048576):∀x∈zs.map (·.1),∀h∈x.1,γ h.1<=4194304:=by intro x hx h b;obtain⟨z,a,rfl⟩:=cJ.1 hx;have e:=Js _ _ (cJ.2 ⟨z,a,rfl⟩:_∈zs.map λz=>(z.1.1.map λh=>γ h.1+γ h.2).sum+γ z.1.2);have d:=Js _ _ (cJ.2 ⟨h,b,rfl⟩:_∈z.1.1.map λh=>γ h.1+γ h.2);omega
theorem N0(l:cD)(b:(l.map λh=>γ h.1+γ h.2).sum<=1048576):∀h∈l,γ h.1<=4194304:=by intro h a;have c:=Js _ _ (cJ.2 ⟨h,a,rfl⟩:_∈l.map λh=>γ h.1+γ h.2);omega
open Go.Shelf
open Go.Lib renaming cut → eD, hasPrefix → fW, index → cK, indexAny → Dc, itoa → dU, join → cY, trimPrefix → fK
open _root_.Array renaming replicate → HU
def Tryz.Ha:Ε:=⟨λ|169=>82|n=>n,λ|70=>136|9=>9|0=>0|72=>138|37=>23|127=>180|3=>3|5=>5|n=>n,λ|n=>n⟩
theorem Tryz.fp:Go.Proofs.Lays.n169 Tryz.prog Tryz.Ha:=BB
theorem Tryz.Cu:Builder.Extra Tryz.prog Tryz.Ha:=BB
def Tryz.Hb:Ε:=⟨λ|156=>51|165=>80|166=>81|169=>82|240=>119|241=>120|276=>164|277=>165|n=>n,λ|31=>93|9=>9|3=>3|4=>4|0=>0|20=>20|72=>138|76=>142|70=>136|37=>23|75=>141|127=>180|164=>215|5=>5|80=>144|n=>n,λ|n=>n⟩
theorem Tryz.PE:Go.Proofs.Lays.n156 Tryz.prog Tryz.Hb:=BB
theorem Tryz.mS:Builder.Extra Tryz.prog Tryz.Hb:=BB
open Go.RowKit in
theorem Tryz.strings_Join_none (a : Option χ) (c : Nat) (sep : ByteArray) (w : ν) :
    Calls Tryz.prog 51 #[.slice a 0 c, .string sep] w λe w' => e = .returned (.string ⟨#[]⟩) /\ w' = w := Any.strings_Join_none Tryz.PE Tryz.mS a c sep w
open Go.RowKit in
theorem Tryz.strings_Join (g o c : Nat) (b : List ByteArray) (sep : ByteArray) (w : ν) (a : ∀ (j : Nat) x, b[j]? = δ x -> w.cell? ⟨g, o + j, ε⟩ = δ (.string x)) (h : g < w.heap.size) (i : γ b <= 140737488355328) (f : γ b <= c) (d : γ (cY (b.map (·.data.toList)) sep.data.toList) <= 140737488355328) :
    Calls Tryz.prog 51 #[.slice (δ ⟨g, o, ε⟩) (γ b) c, .string sep] w λe w' => e = .returned (.string ⟨(cY (b.map (·.data.toList)) sep.data.toList).toArray⟩) /\ Below w.heap.size w w' := Any.strings_Join Tryz.PE Tryz.mS g o c b sep w a h i f d
def Tryz.EE:Ε:=⟨λ|161=>205|231=>121|227=>123|233=>124|235=>126|228=>155|197=>166|151=>167|260=>194|152=>153|137=>117|119=>185|224=>101|225=>133|217=>132|266=>171|n=>n,λ|9=>9|4=>4|3=>3|5=>5|117=>184|116=>183|0=>0|124=>187|105=>218|21=>21|119=>253|46=>164|139=>256|138=>255|n=>n,λ|3=>5|4=>6|n=>n⟩
theorem Tryz.fs:Go.Proofs.Lays.n161 Tryz.prog Tryz.EE:=BB
def Tryz.ED:Ε:=⟨λ|162=>98|232=>122|227=>123|234=>125|236=>127|228=>155|271=>168|151=>167|120=>195|197=>166|152=>153|260=>194|137=>117|119=>185|224=>101|225=>133|217=>132|266=>171|n=>n,λ|9=>9|4=>4|3=>3|5=>5|117=>184|116=>183|0=>0|124=>187|21=>21|105=>218|46=>164|119=>253|139=>256|138=>255|n=>n,λ|3=>5|4=>6|n=>n⟩
theorem Tryz.fq:Go.Proofs.Lays.n162 Tryz.prog Tryz.ED:=BB
def Tryz.EF:Ε:=⟨λ|160=>83|232=>122|231=>121|227=>123|234=>125|233=>124|236=>127|235=>126|228=>155|271=>168|151=>167|197=>166|120=>195|152=>153|260=>194|137=>117|119=>185|224=>101|225=>133|217=>132|266=>171|n=>n,λ|9=>9|4=>4|3=>3|5=>5|117=>184|116=>183|0=>0|124=>187|21=>21|105=>218|46=>164|119=>253|139=>256|138=>255|n=>n,λ|3=>5|4=>6|n=>n⟩
theorem Tryz.ft:Go.Proofs.Lays.n160 Tryz.prog Tryz.EF:=BB
def Tryz.EN:Ε:=⟨λ|137=>117|217=>132|266=>171|n=>n,λ|9=>9|5=>5|3=>3|n=>n,λ|n=>n⟩
theorem Tryz.ga:Go.Proofs.Lays.n137 Tryz.prog Tryz.EN:=BB
open Go.RowKit in
theorem Tryz.strings_IndexByte (s : ByteArray) (c : Int) (w : ν) :
    Calls Tryz.prog 117 #[.string s, .int .u8 c] w λe w' => e = .returned (.int .i64 (Lib.indexByte s.data.toList c.toNat.toUInt8)) /\ w' = w := Any.strings_IndexByte Tryz.ga s c w
def Tryz.EO:Ε:=⟨λ|103=>57|210=>93|206=>66|n=>n,λ|9=>9|4=>4|24=>52|3=>3|n=>n,λ|n=>n⟩
theorem Tryz.gb:Go.Proofs.Lays.n103 Tryz.prog Tryz.EO:=BB
open Go.RowKit in
theorem Tryz.strings_CutPrefix (s p : ByteArray) (w : ν) :
    Calls Tryz.prog 57 #[.string s, .string p] w λe w' => e = .returned (.tuple #[.string ⟨(fK s.data.toList p.data.toList).toArray⟩, .bool (fW s.data.toList p.data.toList)]) /\ w' = w := Any.strings_CutPrefix Tryz.gb s p w
def Tryz.Za:Ε:=⟨λ|171=>34|243=>65|246=>103|283=>138|284=>139|285=>140|286=>141|129=>174|317=>173|318=>175|319=>176|320=>177|337=>196|338=>197|n=>n,λ|3=>3|9=>9|2=>2|4=>4|171=>195|0=>0|53=>196|37=>23|5=>5|173=>199|212=>224|51=>192|20=>20|213=>225|46=>164|232=>257|233=>258|n=>n,λ|17=>3|18=>7|19=>8|n=>n⟩
theorem Tryz.K1:Go.Proofs.LaysM.n171 Tryz.prog Tryz.Za:=BB
open Go.RowKit Go.Sort Go.Lib in
theorem Tryz.strconv_Itoa (n : Int) (d : -9223372036854775808 <= n) (c : n <= 9223372036854775807) (w : ν) (a : Lib.TabIs Tryz.prog w "internal/strconv.uint64pow10" .u64 Lib.pow10Tab) :
    Calls Tryz.prog 34 #[.int .i64 n] w λe w' => e = .returned (.string ⟨(dU n).toArray⟩) /\ ∃ k b, w' = grow (w.drewN k) b := Any.strconv_Itoa Tryz.K1 n d c w a
def Tryz.EM:Ε:=⟨λ|143=>55|219=>91|217=>132|225=>133|224=>101|267=>134|266=>171|314=>172|n=>n,λ|9=>9|3=>3|4=>4|5=>5|46=>164|146=>193|51=>192|n=>n,λ|1=>1|n=>n⟩
theorem Tryz.fz:Go.Proofs.Lays.n143 Tryz.prog Tryz.EM:=BB
open Go.RowKit Go.Lib in
theorem Tryz.strings_Index (s sub : ByteArray) (m : Int) (w : ν) (a : s.size < 4294967281) (b : w.cell? ⟨1, 0, ε⟩ = δ (.int .i64 m)) :
    Calls Tryz.prog 55 #[.string s, .string sub] w λe w' => e = .returned (.int .i64 (cK s.data.toList sub.data.toList)) /\ w' = w := Any.strings_Index Tryz.fz s sub m w a b
def Tryz.EL:Ε:=⟨λ|144=>143|143=>55|219=>91|217=>132|225=>133|224=>101|267=>134|266=>171|314=>172|n=>n,λ|9=>9|4=>4|3=>3|5=>5|46=>164|146=>193|51=>192|n=>n,λ|1=>1|n=>n⟩
theorem Tryz.fy:Go.Proofs.Lays.n144 Tryz.prog Tryz.EL:=BB
open Go.RowKit Go.Lib in
theorem Tryz.strings_Contains (s sub : ByteArray) (m : Int) (w : ν) (a : s.size < 4294967281) (b : w.cell? ⟨1, 0, ε⟩ = δ (.int .i64 m)) :
    Calls Tryz.prog 143 #[.string s, .string sub] w λe w' => e = .returned (.bool (Lib.contains s.data.toList sub.data.toList)) /\ w' = w := Any.strings_Contains Tryz.fy s sub m w a b
def Tryz.EJ:Ε:=⟨λ|145=>59|220=>95|219=>91|217=>132|225=>133|224=>101|267=>134|266=>171|314=>172|n=>n,λ|9=>9|4=>4|59=>103|3=>3|5=>5|46=>164|146=>193|51=>192|n=>n,λ|1=>1|n=>n⟩
theorem Tryz.fx:Go.Proofs.Lays.n145 Tryz.prog Tryz.EJ:=BB
open Go.RowKit Go.Lib in
theorem Tryz.strings_Cut (s sep : ByteArray) (m : Int) (w : ν) (a : s.size < 4294967281) (b : w.cell? ⟨1, 0, ε⟩ = δ (.int .i64 m)) :
    Calls Tryz.prog 59 #[.string s, .string sep] w λe w' => e = .returned (.tuple #[.string ⟨(eD s.data.toList sep.data.toList).1.toArray⟩, .string ⟨(eD s.data.toList sep.data.toList).2.1.toArray⟩, .bool (eD s.data.toList sep.data.toList).2.2]) /\ ∃ n, w' = w.drewN n := Any.strings_Cut Tryz.fx s sep m w a b
def Tryz.EH:Ε:=⟨λ|149=>156|222=>186|n=>n,λ|9=>9|5=>5|3=>3|4=>4|n=>n,λ|n=>n⟩
theorem Tryz.fv:Go.Proofs.Lays.n149 Tryz.prog Tryz.EH:=BB
open Go.RowKit Go.Lib in
theorem Tryz.strings_LastIndexByte (s : ByteArray) (c : Int) (a : s.size < 4611686018427387904) (w : ν) :
    Calls Tryz.prog 156 #[.string s, .int .u8 c] w λe w' => e = .returned (.int .i64 (Lib.lastIndexByte s c)) /\ w' = w := Any.strings_LastIndexByte Tryz.fv s c a w
def Tryz.EP:Ε:=⟨λ|101=>211|208=>218|206=>66|n=>n,λ|9=>9|4=>4|3=>3|n=>n,λ|n=>n⟩
theorem Tryz.gf:Go.Proofs.Lays.n101 Tryz.prog Tryz.EP:=BB
open Go.RowKit Go.Lib in
theorem Tryz.strings_TrimPrefix (s p : ByteArray) (w : ν) :
    Calls Tryz.prog 211 #[.string s, .string p] w λe w' => e = .returned (.string ⟨(fK s.data.toList p.data.toList).toArray⟩) /\ w' = w := Any.strings_TrimPrefix Tryz.gf s p w
def Tryz.EI:Ε:=⟨λ|146=>188|221=>206|268=>213|138=>214|143=>55|195=>220|197=>166|218=>221|219=>91|260=>194|217=>132|225=>133|224=>101|267=>134|266=>171|314=>172|n=>n,λ|9=>9|31=>93|3=>3|4=>4|0=>0|105=>218|21=>21|5=>5|46=>164|119=>253|139=>256|138=>255|146=>193|51=>192|n=>n,λ|1=>1|3=>5|4=>6|n=>n⟩
theorem Tryz.fw:Go.Proofs.Lays.n146 Tryz.prog Tryz.EI:=BB
open Go.RowKit Go.Lib in
theorem Tryz.strings_Split (s sep : ByteArray) (m : Int) (w : ν) (a : s.size < 4294967281) (b : w.cell? ⟨1, 0, ε⟩ = δ (.int .i64 m)) (c : 1 <= sep.size) :
    Calls Tryz.prog 188 #[.string s, .string sep] w λe w' =>
      e = .returned (.slice (δ ⟨w.heap.size, 0, ε⟩) (Lib.countB s sep + 1) (Lib.countB s sep + 1)) /\ w' = w.alloc (.cells ((Lib.splitB sep 0 (Lib.countB s sep) s).map Value.string).toArray 9) := Any.strings_Split Tryz.fw aF s sep m w a b c
def Tryz.EG:Ε:=⟨λ|153=>108|152=>153|226=>154|227=>123|228=>155|137=>117|119=>185|224=>101|225=>133|217=>132|266=>171|n=>n,λ|9=>9|3=>3|4=>4|5=>5|21=>21|117=>184|116=>183|0=>0|46=>164|124=>187|n=>n,λ|n=>n⟩
theorem Tryz.Jt:Go.Proofs.Lays.n153 Tryz.prog Tryz.EG:=BB
open Go.RowKit Go.Lib in
theorem Tryz.strings_IndexAny_none (s a : ByteArray) (w : ν) (b : a.size = 0) :
    Calls Tryz.prog 108 #[.string s, .string a] w λe w' => e = .returned (.int .i64 (Dc s.data.toList a.data.toList)) /\ w' = w := Any.strings_IndexAny_none Tryz.Jt s a w b
open Go.RowKit Go.Lib in
theorem Tryz.strings_IndexAny_one (s a : ByteArray) (w : ν) (d : a.size = 1) (c : ∀ (j : Nat) b, a.data.toList[j]? = δ b -> b.toNat < 128) :
    Calls Tryz.prog 108 #[.string s, .string a] w λe w' => e = .returned (.int .i64 (Dc s.data.toList a.data.toList)) /\ w' = w := Any.strings_IndexAny_one Tryz.Jt s a w d c
open Go.RowKit Go.Lib in
theorem Tryz.strings_IndexAny_long (d : ∀ w, (zeroValue 183).run Tryz.prog w = .ok (.agg (HU 256 (.bool η))) w) (s a : ByteArray) (w : ν) (i : 2 <= a.size) (h : 8 < s.size) (g : s.size < 4294967281) (f : a.size < 4294967281) (c : ∀ (j : Nat) b, a.data.toList[j]? = δ b -> b.toNat < 128) :
    Calls Tryz.prog 108 #[.string s, .string a] w λe w' => e = .returned (.int .i64 (Dc s.data.toList a.data.toList)) /\ w' = ((w.alloc (.cells (Lib.setCells a.data.toList) 183)).alloc (.cells (Lib.setCells a.data.toList) 183)) := Any.strings_IndexAny_long Tryz.Jt d aF s a w i h g f c
open Go.RowKit Go.Lib in
theorem Tryz.strings_IndexAny_laid (s a : ByteArray) (w : ν) (g : s.size < 4294967281) (c : a.size < 4294967281) (d : ∀ (j : Nat) b, s.data.toList[j]? = δ b -> b.toNat < 128) (f : ∀ (j : Nat) b, a.data.toList[j]? = δ b -> b.toNat < 128) :
    Calls Tryz.prog 108 #[.string s, .string a] w λe w' => e = .returned (.int .i64 (Dc s.data.toList a.data.toList)) /\ Below w.heap.size w w' := Any.strings_IndexAny_laid Tryz.Jt aF s a w g c d f
def Tryz.EB:Ε:=⟨λ|185=>63|187=>99|115=>62|253=>100|224=>101|254=>102|255=>136|291=>137|n=>n,λ|37=>23|3=>3|4=>4|0=>0|5=>5|46=>164|9=>9|146=>193|51=>192|n=>n,λ|1=>1|n=>n⟩
theorem Tryz.PC:Go.Proofs.Lays.n185 Tryz.prog Tryz.EB:=BB
open Go.Proofs Go.RowKit Go.Lib in
theorem Tryz.bytes_Index_at (o l : χ) (n j k p : Nat) (b a : List Int) (m : Int) (w : ν) (hx : γ b = n) (r : γ a = k) (f : ∀ x ∈ b, 0 <= x /\ x < 256) (d : ∀ y ∈ a, 0 <= y /\ y < 256) (h : ∀ i, i < n -> w.cell? (o.add i) = δ (.int .u8 (b.getD i 0))) (g : ∀ i, i < k -> w.cell? (l.add i) = δ (.int .u8 (a.getD i 0))) (c : n <= j) (s : n < 4294967281) (u : k <= 9223372036854775807) (t : w.cell? ⟨1, 0, ε⟩ = δ (.int .i64 m)) :
    Calls Tryz.prog 63 #[.slice (δ o) n j, .slice (δ l) k p] w λe w' => e = .returned (.int .i64 (cK (Lib.bytesOf b) (Lib.bytesOf a))) /\ ∃ q, w' = w.drewN q := Any.bytes_Index_at Tryz.PC o l n j k p b a m w hx r f d h g c s u t
open Go.Proofs Go.RowKit Go.Lib in
theorem Tryz.bytes_Index_nil (a : Option χ) (k c : Nat) (w : ν) (f : k <= 9223372036854775807) (g : k = 1 -> ∃ d b cv, a = δ ⟨d, b, ε⟩ /\ w.cell? ⟨d, b, ε⟩ = δ (.int .u8 cv)) :
    Calls Tryz.prog 63 #[.slice ε 0 0, .slice a k c] w λe w' => e = .returned (.int .i64 (if k = 0 then 0 else -1)) /\ w' = w := Any.bytes_Index_nil Tryz.PC a k c w f g
open Go.Wk Go.Px
open Go.Value renaming slice → Vs, int → Vi, bool → Vb, pointer → Vp
open Go.Lib renaming cut → eD, hasPrefix → fW, index → cK, indexAny → Dc, itoa → dU, join → cY, trimLeftS → AZ, trimPrefix → fK
open List renaming flatMap → dY
theorem pT(s:List UInt8)(c:UInt8)(w:ν):CR Tryz.prog 117 [str s,bt c] w λv w'=>v=.int .i64 (dP (·==c) s)/\Hp w [] [] w':=by have h:=Tryz.strings_IndexByte ⟨s.toArray⟩ (c.toNat:Int) w;rw [show((c.toNat:Int).toNat.toUInt8)=c by simp]at h;rw [<-wE];exact Z9 h
theorem Ds(s:List UInt8)(c:UInt8)(w:ν)(a:γ s<=1000000000):CR Tryz.prog 156 [str s,bt c] w λv w'=>v=.int .i64 (kC (·==c) s)/\Hp w [] [] w':=by have h:=Tryz.strings_LastIndexByte ⟨s.toArray⟩ (c.toNat:Int) aC3 w;rw [xJ]at h;exact Z9 h
theorem CJ(s t:List UInt8)(w:ν)(c:γ s<=1000000000)(b:Gl w):CR Tryz.prog 143 [str s,str t] w λv w'=>v=.bool (Lib.contains s t)/\Hp w [] [] w':=by obtain⟨m,a⟩:=b.cell;exact Z9 (Tryz.strings_Contains ⟨s.toArray⟩ ⟨t.toArray⟩ m w aC3 a)
theorem Lm(s t:List UInt8)(w:ν)(c:γ s<=1000000000)(b:Gl w):CR Tryz.prog 55 [str s,str t] w λv w'=>v=.int .i64 (cK s t)/\Hp w [] [] w':=by obtain⟨m,a⟩:=b.cell;exact Z9 (Tryz.strings_Index ⟨s.toArray⟩ ⟨t.toArray⟩ m w aC3 a)
theorem B7(s t:List UInt8)(w:ν)(c:γ s<=1000000000)(b:Gl w):CR Tryz.prog 59 [str s,str t] w λv w'=>v=.tuple #[str (eD s t).1,str (eD s t).2.1,.bool (eD s t).2.2]/\Hp w [] [] w':=by obtain⟨m,a⟩:=b.cell;exact QR (Tryz.strings_Cut ⟨s.toArray⟩ ⟨t.toArray⟩ m w aC3 a)
theorem zM(s t:List UInt8)(w:ν):CR Tryz.prog 57 [str s,str t] w λv w'=>v=.tuple #[str (fK s t),.bool (fW s t)]/\Hp w [] [] w':=by exact Z9 (Tryz.strings_CutPrefix ⟨s.toArray⟩ ⟨t.toArray⟩ w)
theorem Rq(s t:List UInt8)(w:ν):CR Tryz.prog 211 [str s,str t] w λv w'=>v=str (fK s t)/\Hp w [] [] w':=by exact Z9 (Tryz.strings_TrimPrefix ⟨s.toArray⟩ ⟨t.toArray⟩ w)
theorem NL(s t:List UInt8)(w:ν)(c:γ s<=1000000000)(a:γ t<=1000/\t.all (λb=>decide (b.toNat<128))=ζ):CR Tryz.prog 83 [str s,str t] w λv w'=>v=str (Lib.trimS s t)/\Hp w [] [] w':=by exact tL (Any.strings_Trim_laid Tryz.ft aF ⟨s.toArray⟩ ⟨t.toArray⟩ w (by show γ s<=_;omega) aD3 (ascii_of_all a.2))
theorem CI(s t:List UInt8)(w:ν)(c:γ s<=1000000000)(a:γ t<=1000/\t.all (λb=>decide (b.toNat<128))=ζ):CR Tryz.prog 205 [str s,str t] w λv w'=>v=str (AZ s t)/\Hp w [] [] w':=by exact tL (Any.strings_TrimLeft_laid Tryz.fs aF ⟨s.toArray⟩ ⟨t.toArray⟩ w aD3 (ascii_of_all a.2))
theorem Xu(s t:List UInt8)(w:ν)(c:γ s<=1000000000)(a:γ t<=1000/\t.all (λb=>decide (b.toNat<128))=ζ):CR Tryz.prog 98 [str s,str t] w λv w'=>v=str (Lib.trimRightS s t)/\Hp w [] [] w':=by exact tL (Any.strings_TrimRight_laid Tryz.fq aF ⟨s.toArray⟩ ⟨t.toArray⟩ w (by show γ s<=_;omega) aD3 (ascii_of_all a.2))
theorem NM(i:Int)(w:ν)(a:acl i)(g:Gl w):CR Tryz.prog 34 [.int .i64 i] w λv w'=>v=str (dU i)/\Hp w [] [] w':=by
 obtain⟨t,f,e⟩:=g.pow10;have d : Lib.TabIs Tryz.prog w "internal/strconv.uint64pow10" .u64 Lib.pow10Tab := by unfold Lib.TabIs World.var?;rw [show Tryz.prog.globalNamed "internal/strconv.uint64pow10" = δ 3 by kernel_rfl];simp [e]
 have h:=Tryz.strconv_Itoa i a.1 a.2 w d;exact Calls.mono h λ_ _ ⟨e,k,b,c⟩=>⟨_,e,rfl,c▸iu k b⟩
theorem B6(s:List UInt8)(c:UInt8)(w:ν)(i:γ s<=1000000000)(f:Gl w):CR Tryz.prog 188 [str s,str [c]] w λv w'=>∃o a cap,v=.slice a (γ (cR c s)) cap/\Hp w [] [bA eS 9 1 o a cap (cR c s)] w':=by
 obtain⟨m,d⟩:=f.cell;have h:=Tryz.strings_Split ⟨s.toArray⟩ ⟨#[c]⟩ m w aC3 d (by show 1<=1;omega);rw [SO,Rn]at h;refine Calls.mono h ?_;rintro _ _ ⟨rfl,rfl⟩;have g:=(Hp.refl w).alloc ((cR c s).map str) 9;have:=(pP c s).1
 have e:(cR c s).flatMap eS=(cR c s).map str:=by
  generalize cR c s=l;induction l with
  |nil=>rfl
  |cons x l b=>rw [rZ,b];rfl
 exact⟨_,rfl,δ w.heap.size,_,_,rfl,g.Wf 0 1 (γ (cR c s)) (cR c s) rfl R1 e rfl (by simp [maxLen];omega)⟩
theorem flatS(l:List (List UInt8)):l.flatMap eS=l.map str:=by
 induction l with
 |nil=>rfl
 |cons x l a=>rw [rZ,a];rfl
theorem Xv(t:List UInt8)(w:ν)(a:Option χ)(n cap:Nat)(d:List (List UInt8))(q:n=γ d)(c:Rd w a (d.flatMap eS))(g:n<=cap)(u:γ d<=1000000000/\γ (cY d t)<=100000000000):CR Tryz.prog 51 [.slice a n cap,str t] w λv w'=>v=str (cY d t)/\Hp w [] [] w':=by
 subst q;rw [flatS]at c;cases d with
 |nil=>exact Z9 (Tryz.strings_Join_none a cap ⟨t.toArray⟩ w)
 |cons x r=>
  obtain⟨p,rfl,i⟩:=c 0 (str x) aA2;have b:=By i;rw [bbw]at b;have f:p.spot=ε:=by have:=dk i;simpa [Addr.add] using this
  obtain⟨k,o,s⟩:=p;simp only at f b;subst f;have e:((x::r).map λl=>(⟨l.toArray⟩:ByteArray)).map (·.data.toList)=x::r:=by rw [jN];exact List.map_id _
  have h:=Tryz.strings_Join k o cap ((x::r).map λl=>(⟨l.toArray⟩:ByteArray)) ⟨t.toArray⟩ w (λj y m=>by have:=C7 ⟨k,o,ε⟩ (x::r) c j y m;cases j<;>simpa [Addr.add] using this) b (by rw [Rf];omega) (by rw [Rf];exact g) (by rw [e];show(cY (x::r) t).length<=_;omega);rw [e,Rf]at h;exact tL h
theorem SW(f d:χ)(n g k u:Nat)(s t:List UInt8)(w:ν)(j:γ s=n)(o:γ t=k)(F:Rd w (δ f) (s.map bt))(E:Rd w (δ d) (t.map bt))(B:n<=g)(H:n<=1000000000)(G:k<=1000000000)(D:Gl w):CR Tryz.prog 63 [.slice (δ f) n g,.slice (δ d) k u] w λv w'=>v=.int .i64 (cK s t)/\Hp w [] [] w':=by
 obtain⟨m,A⟩:=D.cell;have cell:∀(a:χ) (l:List UInt8) (N:Nat),γ l=N->Rd w (δ a) (l.map bt)->∀i,i<N->w.cell? (a.add i)=δ (.int .u8 ((l.map λb=>(b.toNat:Int)).getD i 0)):=by intro a l N r C i q;obtain⟨p,z,e⟩:=C i (bt (l[i]' aA0)) (by simp [r,q]);cases z;rw [e];simp [bt,List.getD,r,q]
 have c:∀(l:List UInt8),∀x∈(l.map λb=>(b.toNat:Int)),0<=x/\x<256:=by intro l x hx;obtain⟨b,_,rfl⟩:=cJ.1 hx;exact⟨aA0,by have:=b.toNat_lt;omega⟩
 have y:∀(l:List UInt8),Lib.bytesOf (l.map λb=>(b.toNat:Int))=l:=by
  intro l;unfold Lib.bytesOf;rw [jN]
  conv=>rhs;rw [<-List.map_id l]
  refine Y9 λb _=> ?_;simp
 have h:=Tryz.bytes_Index_at f d n g k u (s.map λb=>(b.toNat:Int)) (t.map λb=>(b.toNat:Int)) m w (by simp [j]) (by simp [o]) (c s) (c t) (cell f s n j F) (cell d t k o E) B aA0 aA0 A;rw [y,y]at h;exact QR h
theorem JG(a:Option χ)(k c:Nat)(w:ν)(d:2<=k)(b:k<=1000000000):CR Tryz.prog 63 [.slice ε 0 0,.slice a k c] w λv w'=>v=.int .i64 (-1)/\Hp w [] [] w':=by have h:=Tryz.bytes_Index_nil a k c w aA0 (λe=>by omega);rw [aA aA0]at h;exact Z9 h
theorem yf(t:List UInt8)(h:2<=γ t):cK [] t= -1:=by
 match t,h with
 |a::b::t,_=>rfl
theorem NK(a h:Option χ)(n d k g:Nat)(s t:List UInt8)(w:ν)(i:n=γ s)(e:k=γ t)(j:Rd w a (s.flatMap eB))(c:Rd w h (t.flatMap eB))(q:n<=d)(m:a=ε->d=0)(o:γ s<=1000000000/\2<=γ t/\γ t<=1000000000)(r:Gl w):CR Tryz.prog 63 [.slice a n d,.slice h k g] w λv w'=>v=.int .i64 (cK s t)/\Hp w [] [] w':=by
 rw [mO]at j c;obtain⟨u,f,l⟩:=o;cases a with
 |none=>obtain rfl:=m rfl;obtain rfl:n=0:=aA0;obtain rfl:s=[]:=vJ i.symm;rw [yf t f];exact JG h k g w aA0 aA0
 |some a=>
  match t,f,c,e,l with
  |b::t,f,c,e,l=>obtain⟨p,rfl,_⟩:=c 0 (bt b) rfl;exact SW a p n d k g s (b::t) w i.symm e.symm j c q aA0 aA0 r
theorem Gr(s t:List UInt8)(w:ν)(h:γ s<=1000000000/\γ t<=1000/\t.all (λb=>decide (b.toNat<128))=ζ/\(8<γ s\/γ t<=1\/s.all (λb=>decide (b.toNat<128))=ζ)):CR Tryz.prog 108 [str s,str t] w λv w'=>v=.int .i64 (Dc s t)/\Hp w [] [] w':=by
 obtain⟨j,i,c,a⟩:=h;by_cases g:γ t=0
 ·exact Z9 (Tryz.strings_IndexAny_none ⟨s.toArray⟩ ⟨t.toArray⟩ w g)
 by_cases d:γ t=1
 ·exact Z9 (Tryz.strings_IndexAny_one ⟨s.toArray⟩ ⟨t.toArray⟩ w d (ascii_of_all c))
 rcases a with a|a|a
 ·have e:∀w,(zeroValue 183).run Tryz.prog w=.ok (.agg (HU 256 (.bool η))) w:=(zero_of_info (n:=256) aF).1;have h:=Tryz.strings_IndexAny_long e ⟨s.toArray⟩ ⟨t.toArray⟩ w (by show 2<=γ t;omega) (by show 8<γ s;omega) aC3 aD3 (ascii_of_all c);refine Calls.mono h ?_;rintro _ _ ⟨rfl,rfl⟩;exact⟨_,rfl,rfl,Hp.Af ⟨rfl,rfl,rfl,by simp;omega,λk f=>by rw [RowKit.Below.heap_alloc _ _ k aA4,RowKit.Below.heap_alloc _ _ k f]⟩⟩
 ·omega
 ·exact tL (Tryz.strings_IndexAny_laid ⟨s.toArray⟩ ⟨t.toArray⟩ w aC3 aD3 (ascii_of_all a) (ascii_of_all c))
theorem xA(l:List UInt8)(w:ν)(a:Option χ)(n cap:Nat)(t:n=γ l)(f:Rd w a (l.flatMap eB))(z:(0+γ l)*1<=140737488355328):CR Tryz.prog 23 [.slice a n cap] w λv w'=>∃o a' cap',v=.slice a' (γ l) cap'/\Hp w [] [bA eB 5 1 o a' cap' l] w':=by
 subst t;have g:Hp w [] [] w:=Hp.refl w;refine enter (k:=8) Tryz.func23 rfl rfl (BJ rfl) ?_;refine AL ?_;refine LP ?_;refine nI (Vs ε 0 0) aF ?_;refine kS ?_;refine HY ?_;refine AL ?_;refine AL ?_;refine LP ?_;refine kG (Vs a (γ l) cap) aF ?_;refine YV a (γ l) cap 5 Tryz.underlying23 aF aF ?_;refine kS ?_;refine HY ?_;refine tR (b:=a.isNone) aF (λh=> ?_) (λh=> ?_)
 ·have A:a=ε:=by cases a with|none=>rfl|some p=>cases h
  subst A;have y:l=[]:=by
   cases l with
   |nil=>rfl
   |cons x l=>
    exfalso;have i:=oY.flat lM (x::l);have B:γ (dY eB (x::l))=0:=by
     cases r:dY eB (x::l)with
     |nil=>rfl
     |cons u F=>obtain⟨p,s,_⟩:=f 0 u (by rw [r];rfl);cases s
    rw [B]at i;simp at i
  subst y;refine AL ?_;refine LP ?_;refine nI (Vs ε 0 0) aF ?_;refine kS ?_;refine HY ?_;refine Wc ?_;refine CN ?_;refine nR (Vs ε 0 0) rfl aF ?_;exact⟨ε,ε,0,rfl,Hp.dF g eB 5 1 ε⟩
 ·refine Ps ?_;refine HY ?_;refine AL ?_;refine LP ?_;refine iQ g [] 5 (λb=>(Vs (δ ⟨b,0,ε⟩) 0 0)) rfl rfl aF ?_;intro d m j;have D:Hp w [] [bA eB 5 1 (δ d) (δ ⟨d,0,ε⟩) 0 ([]:List UInt8)] m:=j.Wf 0 1 0 ([]:List UInt8) rfl lM rfl rfl aA1;refine kG (Vs a (γ l) cap) aF ?_;refine RH D 0 (δ d) (δ ⟨d,0,ε⟩) a 0 cap 5 1 1 ([]:List UInt8) l lM rfl Tryz.underlying23 aA9 aA1 aA1 aF aF (f.hp j) z ?_;intro q e c E C;refine nI (Vs e (γ l) c) aF ?_;refine kS ?_;refine HY ?_;refine Wc ?_;refine nR (Vs e (γ l) c) rfl aF ?_;exact⟨q,e,c,rfl,C⟩
theorem CK(l:LQ)(w:ν)(a:Option χ)(n cap:Nat)(t:n=γ l)(f:Rd w a (l.flatMap fA))(z:(0+γ l)*40<=140737488355328):CR Tryz.prog 149 [.slice a n cap] w λv w'=>∃o a' cap',v=.slice a' (γ l) cap'/\Hp w [] [bA fA 86 3 o a' cap' l] w':=by
 subst t;have g:Hp w [] [] w:=Hp.refl w;refine enter (k:=8) Tryz.func149 rfl rfl (BJ rfl) ?_;refine AL ?_;refine LP ?_;refine nI (Vs ε 0 0) aF ?_;refine kS ?_;refine HY ?_;refine AL ?_;refine AL ?_;refine LP ?_;refine kG (Vs a (γ l) cap) aF ?_;refine YV a (γ l) cap 86 Tryz.underlying61 aF aF ?_;refine kS ?_;refine HY ?_;refine tR (b:=a.isNone) aF (λh=> ?_) (λh=> ?_)
 ·have A:a=ε:=by cases a with|none=>rfl|some p=>cases h
  subst A;have y:l=[]:=by
   cases l with
   |nil=>rfl
   |cons x l=>
    exfalso;have i:=oY.flat akm (x::l);have B:γ (dY fA (x::l))=0:=by
     cases r:dY fA (x::l)with
     |nil=>rfl
     |cons u F=>obtain⟨p,s,_⟩:=f 0 u (by rw [r];rfl);cases s
    rw [B]at i;simp at i
  subst y;refine AL ?_;refine LP ?_;refine nI (Vs ε 0 0) aF ?_;refine kS ?_;refine HY ?_;refine Wc ?_;refine CN ?_;refine nR (Vs ε 0 0) rfl aF ?_;exact⟨ε,ε,0,rfl,Hp.dF g fA 86 3 ε⟩
 ·refine Ps ?_;refine HY ?_;refine AL ?_;refine LP ?_;refine iQ g [] 86 (λb=>(Vs (δ ⟨b,0,ε⟩) 0 0)) rfl rfl aF ?_;intro d m j;have D:Hp w [] [bA fA 86 3 (δ d) (δ ⟨d,0,ε⟩) 0 ([]:LQ)] m:=j.Wf 0 3 0 ([]:LQ) rfl akm rfl rfl aA1;refine kG (Vs a (γ l) cap) aF ?_;refine RH D 0 (δ d) (δ ⟨d,0,ε⟩) a 0 cap 86 3 40 ([]:LQ) l akm rfl Tryz.underlying61 aA9 aA1 aA1 aF aF (f.hp j) z ?_;intro q e c E C;refine nI (Vs e (γ l) c) aF ?_;refine kS ?_;refine HY ?_;refine Wc ?_;refine nR (Vs e (γ l) c) rfl aF ?_;exact⟨q,e,c,rfl,C⟩
theorem Xt(b:Nat)(z:Bool)(s:θ)(w:ν)(d:Hp w (dE [aS b [Vp (bif z then δ ⟨b,0,ε⟩else ε),s] 138]) [aS b [Vp (bif z then δ ⟨b,0,ε⟩else ε),s] 138] w):CR Tryz.prog 119 [Vp (δ ⟨b,0,ε⟩)] w λv w'=>v=.tuple #[]/\Hp w (dE [aS b [Vp (bif z then δ ⟨b,0,ε⟩else ε),s] 138]) [aS b [Vp (δ ⟨b,0,ε⟩),s] 138] w':=by
 cases z with
 |false=>have a:Hp w (dE [aS b [(Vp ε),s] 138]) [aS b [(Vp ε),s] 138] w:=d;refine enter (k:=20) Tryz.func119 rfl rfl (BJ rfl) ?_;refine AL ?_;refine LP ?_;refine kG (Vp (δ ⟨b,0,ε⟩)) aF ?_;refine gN (v:=(Vp (δ ⟨b,0,ε⟩))) (w':=w) rfl rfl aF ?_;refine gN (v:=(Vp (δ ⟨b,0,ε⟩))) (w':=w) rfl rfl aF ?_;refine iD a 0 b 0 [(Vp ε),s] 138 (Vp ε) rfl rfl aF aF ?_;refine YY ε Tryz.underlying136 aF aF ?_;refine kS ?_;refine HY ?_;refine tP aF ?_;refine LP ?_;refine kG (Vp (δ ⟨b,0,ε⟩)) aF ?_;refine kG (Vp (δ ⟨b,0,ε⟩)) aF ?_;refine ag a 0 b 0 138 [(Vp ε),s] rfl Tryz.underlying136 Tryz.underlying215 aF aA2 aF ?_;refine aj a 164 (Vp (δ ⟨b,0,ε⟩)) aF aF Tryz.func164 aF aF aF aF ?_;intro c e;refine ai e 0 b 0 138 [(Vp ε),s] rfl Tryz.underlying215 Tryz.underlying136 aF aF aF ?_;refine gN (v:=(Vp (δ ⟨b,0,ε⟩))) (w':=c) rfl rfl aF ?_;refine gN (v:=(Vp (δ ⟨b,0,ε⟩))) (w':=c) rfl rfl aF ?_;refine Sp e 0 b 0 [(Vp ε),s] 138 (Vp (δ ⟨b,0,ε⟩)) [aS b [(Vp (δ ⟨b,0,ε⟩)),s] 138] rfl (Tb (nF _) (BJ rfl)) aF aF rfl aF rfl ?_;intro g f;refine kS ?_;refine uN rfl ?_;exact⟨rfl,f.kp⟩
 |true=>have a:Hp w (dE [aS b [(Vp (δ ⟨b,0,ε⟩)),s] 138]) [aS b [(Vp (δ ⟨b,0,ε⟩)),s] 138] w:=d;refine enter (k:=20) Tryz.func119 rfl rfl (BJ rfl) ?_;refine AL ?_;refine LP ?_;refine kG (Vp (δ ⟨b,0,ε⟩)) aF ?_;refine gN (v:=(Vp (δ ⟨b,0,ε⟩))) (w':=w) rfl rfl aF ?_;refine gN (v:=(Vp (δ ⟨b,0,ε⟩))) (w':=w) rfl rfl aF ?_;refine iD a 0 b 0 [(Vp (δ ⟨b,0,ε⟩)),s] 138 (Vp (δ ⟨b,0,ε⟩)) rfl rfl aF aF ?_;refine YY (δ ⟨b,0,ε⟩) Tryz.underlying136 aF aF ?_;refine kS ?_;refine HY ?_;refine lh aF ?_;refine AL ?_;refine LP ?_;refine kG (Vp (δ ⟨b,0,ε⟩)) aF ?_;refine gN (v:=(Vp (δ ⟨b,0,ε⟩))) (w':=w) rfl rfl aF ?_;refine gN (v:=(Vp (δ ⟨b,0,ε⟩))) (w':=w) rfl rfl aF ?_;refine iD a 0 b 0 [(Vp (δ ⟨b,0,ε⟩)),s] 138 (Vp (δ ⟨b,0,ε⟩)) rfl rfl aF aF ?_;refine kG (Vp (δ ⟨b,0,ε⟩)) aF ?_;refine ah ⟨b,0,ε⟩ Tryz.underlying136 aF aF aF ?_;refine kS ?_;refine HY ?_;refine lh aF ?_;refine Ps ?_;refine uN rfl ?_;exact⟨rfl,a.kp⟩
open Go.Shelf Go.RowKit Go.Wk
variable {P:ω}{ρ:Ren}
set_option maxHeartbeats 1000000 in
set_option maxRecDepth 100000 in
theorem ku(L:Lays.n169 P ρ)(X:Builder.Extra P ρ)(b g cap:Nat)(p:θ)(a:Array θ)(l:List UInt8)(w:ν)(k:w.heap[b]? =δ (.cells #[p,.slice (δ ⟨g,0,ε⟩) (γ l) cap] (ρ.t 72) (0,0)))
  (G:w.heap[g]? =δ (.cells a (ρ.t 5) (0,0))) (E:γ l<=cap) (i:cap<=maxLen) (H:a.size=cap) (c:∀j x,l[j]? =δ x->w.cell? ((⟨g,0,ε⟩:χ).add j)=δ (.int .u8 x.toNat)) (q:l≠[]):
  Calls P (ρ.f 169) #[.pointer (δ ⟨b,0,ε⟩)] w λe w'=>e=.returned (.string ⟨l.toArray⟩)/\w'=w.drew.freeze ⟨g,0,ε⟩ (γ l):=by
 have F:γ l≠0:=by simpa using q
 have Z:w.drew.cell? ⟨b,1,ε⟩=δ (.slice (δ ⟨g,0,ε⟩) (γ l) cap):=by have:w.drew.heap[b]? =δ (.cells #[p,.slice (δ ⟨g,0,ε⟩) (γ l) cap] (ρ.t 72) (0,0)):=k;rw [Lib.cell_of_heap this];rfl
 have J:(Builtin.unsafeSliceData_ #[(ρ.t 37)] (ρ.t 127) #[.slice (δ ⟨g,0,ε⟩) (γ l) cap]).run P w.drew=.ok (.pointer (δ ⟨g,0,ε⟩)) w.drew:=
  Lib.run_unsafeSliceData_row _ _ _ _ _ _ aA0
 have I:(Builtin.unsafeString_ #[(ρ.t 127),(ρ.t 3)] (ρ.t 9) #[.pointer (δ ⟨g,0,ε⟩),.int .i64 (γ l)]).run P w.drew=.ok (.string ⟨l.toArray⟩) (w.drew.freeze ⟨g,0,ε⟩ (γ l)):=by refine Lib.run_unsafeString_row w.drew (ρ.t 127) (ρ.t 3) (ρ.t 9) (ρ.t 5) L.t127 X.cellsByte g a.size (by have h:w.drew.heap[g]? =δ (.cells a (ρ.t 5) (0,0)):=G;simp [World.shape?,h]) l q aA0 (by unfold maxLen at i;omega) ?_;intro j x hx;exact c j x hx
 have d:=L.mixed;have t72:=L.t72;have K:=L.a72;have s:=L.z72;have y:=L.v72;have B:=run_underlying L.t72;have t70:=L.t70;have M:=L.a70;have u:=L.z70;have z:=L.v70;have C:=run_underlying L.t70;have t37:=L.t37;have N:=L.a37;have v:=L.z37;have A:=L.v37;have D:=run_underlying L.t37;have t127:=L.t127;have r:=L.a127;have m:=L.z127;have n:=L.v127;have o:=run_underlying L.t127;have t3:=L.t3;have a3:=L.a3;have R:=L.z3;have U:=L.v3;have Y:=run_underlying L.t3;have t9:=L.t9;have a9:=L.a9;have O:=L.z9;have S:=L.v9;have V:=run_underlying L.t9;have t5:=X.t5;have a5:=X.a5;have Q:=X.z5;have T:=X.v5;have W:=run_underlying X.t5
 go_enter L.f169,Body.n169_ntmps ρ
 go_wp2
 go_region_o
 all_goals (go_wp2;go_ret;exact⟨rfl,rfl⟩)
theorem bs_any(z:Lays.n169 P ρ)(X:Builder.Extra P ρ){w:ν}{S:List Nat}{L:List cB}(F:Hp w S L w)(b:Nat)(p:θ)(o:Option Nat)(a:Option χ)(cap:Nat)(l:aC)(m:Nat)(i:w.heap[b]? =δ (.cells #[p,.slice a (γ l) cap] (ρ.t 72) (0,0)))(B:L[m]? =δ (bA eB (ρ.t 5) 1 o a cap l)):
  CR P (ρ.f 169) [ς (δ ⟨b,0,ε⟩)] w λv w'=>v=str l/\Hp w S (L.set m Go.Oe.dQ) w':=by
 have d:∀w',Below w.heap.size w w'->Hp w S (L.set m Go.Oe.dQ) w':=by intro w' J;have G:=F.call (Hp.Af J);exact G.change m _ Go.Oe.dQ B rfl rfl rfl (eK _) (λ_ _ _=>rfl) trivial (λ_ i=>by cases i)
 obtain⟨G,N⟩:=F.res _ (aG B);rcases G with⟨rfl,rfl,rfl,rfl⟩|⟨g,h,C,rfl,q,E,D,I,A⟩
 ·refine Calls.mono (Any.Builder_String_nil z X w.heap.size b p w i) ?_;rintro _ w' ⟨rfl,n⟩;exact⟨_,rfl,rfl,d w' n⟩
 ·have C:o=δ g:=C;subst C;have c:w.heap[g]? =δ (.cells h (ρ.t 5) (0,0)):=q;clear q;cases l with
  |nil=>
   by_cases s:cap=0
   ·subst s;refine Calls.mono (Any.Builder_String_noroom z X w.heap.size b g p h w (eK _) i c) ?_;rintro _ w' ⟨rfl,n⟩;exact⟨_,rfl,rfl,d w' n⟩
   ·refine Calls.mono (Any.Builder_String_room z X w.heap.size b g cap p w s i) ?_;rintro _ w' ⟨rfl,n⟩;exact⟨_,rfl,rfl,d w' n⟩
  |cons x r=>
   refine Calls.mono (ku z X b g cap p h (x::r) w i c E D aA0 (λj y H=> ?_) aA2) ?_
   ·have u:(h.toList.take (γ (x::r)*1))[j]? =δ (bt y):=by rw [A,mO,bE,H];rfl
    rw [bO]at u;split at u
    ·have K:h[j]? =δ (bt y):=by simpa using u
     cases j<;>simp [World.cell?,Addr.add,c,K,bt]
    ·cases u
   ·rintro _ w' ⟨rfl,rfl⟩;refine⟨_,rfl,rfl, ?_⟩;refine F.QM.change m _ Go.Oe.dQ B ?_ ?_ ?_ ?_ (λj M k=> ?_) trivial (λ_ i=>by cases i);all_goals (try(unfold World.freeze;rw [aA aA2];rfl))
    ·unfold World.freeze;rw [aA aA2];simp
    ·unfold World.freeze;rw [aA aA2];simp only [gG];have k:g≠j:=λe=>k (by show δ j=δ g;rw [e]);rw [aA k];rfl
open Go.Oe in
theorem P4 (O : Lays.n169 P ρ) (X : Builder.Extra P ρ) {Q : Db} {H : Nat} (g : Unit × aC -> List PD) : AV P Q (ρ.f 169) ⟨[.p' (ρ.t 72) (.pr .z' (.l' (ρ.t 5) H .c'))], [.r' .s'], λx => .gs (g x) x.2⟩ := by
  intro w S i L C x y V s d p J;obtain ⟨_, rfl⟩ := J;have d : Mt w S i [.bl (ρ.t 72) [.z' 0 1, .l' 2], .dd 0, .rw (ρ.t 5) H .c' x.2] L := d;have p : [δ (jH (i 0).b 0)] = C.map δ := p;obtain rfl : C = [jH (i 0).b 0] := by
    match C, p with
    | [u], h => simp at h; rw [h]
  obtain ⟨_, U, F, B, rfl, j⟩ := d.2 0 _ rfl;obtain ⟨_, T, M, _⟩ := d.2 1 _ rfl;obtain ⟨l, I, E, q⟩ := d.2 2 _ rfl;have q : I = bA (Ty.c').enc (ρ.t 5) (Ty.c').sz (i 2).o (i 2).a (i 2).cap x.2 := q;subst q;have l : γ x.2 = (i 2).ln := l;have G := s.dG 0 F;have D : B = [.pointer (bif (i 1).z then δ ⟨(i 0).b, 0, ε⟩ else ε), .slice (i 2).a (γ x.2) (i 2).cap] := by
    have n := j.2 0 _ rfl rfl;have m := j.2 1 _ rfl rfl;have A : γ B = 2 := j.1;rw [l]
    match B, A, n, m with
    | [a, c], _, n, m =>have n : a = _ := aJ n;have m : c = _ := aJ m;rw [n, m]; rfl
  rw [D] at G;refine Calls.mono (bs_any O X s (i 0).b _ (i 2).o (i 2).a (i 2).cap x.2 2 G E) ?_;rintro e R ⟨v, N, rfl, K⟩;refine ⟨_, N, i, _, λ_ _ => rfl, K, ?_, rfl⟩;show Mt w S i [.bl (ρ.t 72) [.z' 0 1, .l' 2], .dd 0, .dd (γ x.2)] (L.set 2 dQ);refine ⟨by rw [pD]; exact d.1, λid o k => ?_⟩
  match id, k with
  | 0, k =>obtain ⟨n, r, m, A⟩ := d.2 0 o k;exact ⟨n, r, by rw [gW aA1]; exact m, A⟩
  | 1, k =>obtain ⟨n, r, m, A⟩ := d.2 1 o k;exact ⟨n, r, by rw [gW aA1]; exact m, A⟩
  | 2, k =>cases k;exact ⟨l, dQ, by rw [aY (by rw [d.1]; exact nF 2)], trivial⟩
  | id + 3, k => simp at k
open Go.Oe in
theorem jl {W : Db} {k T e D : Nat} (h : ∀ (b : Nat) (z : Bool) (s : θ) (w : ν), Hp w (dE [aS b [ς (bif z then δ ⟨b, 0, ε⟩ else ε), s] T]) [aS b [ς (bif z then δ ⟨b, 0, ε⟩ else ε), s] T] w ->
    CR P k [ς (δ ⟨b, 0, ε⟩)] w λv w' => v = .tuple #[] /\ Hp w (dE [aS b [ς (bif z then δ ⟨b, 0, ε⟩ else ε), s] T]) [aS b [ς (δ ⟨b, 0, ε⟩), s] T] w') :
    AV P W k ⟨[.p' T (.pr .z' (.l' e D .c'))], [.o' 0 T (.pr .z' (.l' e D .c'))], λx => .gs [] x⟩ := by
  intro w S d L F x y hG C f m Q;obtain ⟨_, rfl⟩ := Q;have f : Mt w S d [.bl T [.z' 0 1, .l' 2], .dd 0, .rw e D .c' x.2] L := f;have m : [δ (jH (d 0).b 0)] = F.map δ := m;obtain rfl : F = [jH (d 0).b 0] := by
    match F, m with
    | [u], h => simp at h; rw [h]
  obtain ⟨_, Y, A, E, rfl, l⟩ := f.2 0 _ rfl;obtain ⟨B, O, K, p⟩ := f.2 2 _ rfl;have p : O = bA (Ty.c').enc e (Ty.c').sz (d 2).o (d 2).a (d 2).cap x.2 := p;subst p;have J : E = [.pointer (bif (d 1).z then δ ⟨(d 0).b, 0, ε⟩ else ε), .slice (d 2).a (d 2).ln (d 2).cap] := by
    have r := l.2 0 _ rfl rfl;have q := l.2 1 _ rfl rfl;have N : γ E = 2 := l.1
    match E, N, r, q with
    | [a, c], _, r, q =>have r : a = _ := aJ r;have q : c = _ := aJ q;rw [r, q]; rfl
  rw [J] at A;obtain ⟨t, L', rfl⟩ : ∃ t, L = [aS (d 0).b [.pointer (bif (d 1).z then δ ⟨(d 0).b, 0, ε⟩ else ε), .slice (d 2).a (d 2).ln (d 2).cap] T, t, bA (Ty.c').enc e (Ty.c').sz (d 2).o (d 2).a (d 2).cap x.2] := by
    have N : γ L = 3 := f.1
    match L, N, A, K with
    | [a, b, c], _, r, q =>cases r; cases q;exact ⟨b, rfl⟩
  have U := Hp.hand (L1 := [aS (d 0).b [.pointer (bif (d 1).z then δ ⟨(d 0).b, 0, ε⟩ else ε), .slice (d 2).a (d 2).ln (d 2).cap] T]) (L2 := [t, bA (Ty.c').enc e (Ty.c').sz (d 2).o (d 2).a (d 2).cap x.2]) C;refine Calls.mono (h (d 0).b (d 1).z (.slice (d 2).a (d 2).ln (d 2).cap) w U) ?_;rintro e2 X ⟨v, V, rfl, R⟩;have I := Hp.dL (L1 := [aS (d 0).b [.pointer (bif (d 1).z then δ ⟨(d 0).b, 0, ε⟩ else ε), .slice (d 2).a (d 2).ln (d 2).cap] T]) (L2 := [t, bA (Ty.c').enc e (Ty.c').sz (d 2).o (d 2).a (d 2).cap x.2]) C R;let G : Nat -> Ad := λid => if id < 3 then d id else if id = 3 then ⟨ε, ε, 0, ζ, 0⟩ else d 2;have H := (uW (uW I)).perm ((XQ (l₁ := [dQ, dQ]) (l₂ := [aS (d 0).b [ς (δ ⟨(d 0).b, 0, ε⟩), .slice (d 2).a (d 2).ln (d 2).cap] T, t])).append_right [bA (Ty.c').enc e (Ty.c').sz (d 2).o (d 2).a (d 2).cap x.2]);refine ⟨_, V, G, _, λi M => (by have M : i < 3 := M; simp only [G]; rw [aB M]), H, ?_, rfl⟩;show Mt w S G [.bl T [.z' 0 3, .l' 4], .dd 0, .dd (γ x.2), .dd 0, .rw e D .c' x.2] [_, _, _, _, _];refine ⟨rfl, λid o g => ?_⟩
  match id, g with
  | 0, g =>
    cases g;refine ⟨(f.2 0 _ rfl).1, _, rfl, _, rfl, rfl, λj c n Z => ?_⟩
    match j, n with
    | 0, n => cases n; rfl
    | 1, n => cases n; rfl
    | j + 2, n => simp at n
  | 1, g =>cases g;exact ⟨(f.2 1 _ rfl).1, _, rfl, trivial⟩
  | 2, g =>cases g;exact ⟨B, _, rfl, trivial⟩
  | 3, g =>cases g;exact ⟨rfl, _, rfl, trivial⟩
  | 4, g =>cases g;exact ⟨B, _, rfl, rfl⟩
  | id + 5, g => simp at g
end Go.Proofs
set_option maxHeartbeats 1000000
namespace Go.Proofs
open Go.Wk Go.Px
open Go.Value renaming slice → Vs, int → Vi, bool → Vb, pointer → Vp
open Int renaming toNat → bF
open List renaming drop → cG
open Tryz
abbrev oV:=[(str ([]:aC)),(str ([]:aC)),(Vi .i64 (0:Int)),(str ([]:aC)),(Vs ε 0 0),(Vs ε 0 0)]
abbrev Zz1:=[(45:UInt8),(45:UInt8),(98:UInt8),(13:UInt8),(10:UInt8),(99:UInt8),(58:UInt8),(32:UInt8),(116:UInt8),(101:UInt8),(120:UInt8),(116:UInt8),(47:UInt8),(112:UInt8),(108:UInt8),(97:UInt8),(105:UInt8),(110:UInt8),(13:UInt8),(10:UInt8),(13:UInt8),(10:UInt8),(104:UInt8),(105:UInt8),(13:UInt8),(10:UInt8),(45:UInt8),(45:UInt8),(98:UInt8),(45:UInt8),(45:UInt8)]
abbrev mI v0 v1 f e v4 d v6 c b a:=[(str v0),(str v1),(Vi .i64 f),(str e),(Vs v4 d v6),(Vs c b a)]
abbrev Zz3:aC:=[109,117,108,116,105,112,97,114,116,47,109,105,120,101,100,59,98,111,117,110,100,97,114,121,61]
abbrev Wt:=[(45:UInt8),(45:UInt8),(98:UInt8)]
abbrev IG v0 v1 c b v4 a v6:=[(str v0),(str v1),(Vi .i64 c),(str b),(Vs v4 a v6),(Vs ε 0 0)]
abbrev Ck v0 v1 a:=[(Vi .i64 v0),(Vi .i64 v1),(Vb a)]
abbrev Ws:=[(Vs ε 0 0),(Vs ε 0 0)]
abbrev nk:aC:=[67,111,110,116,101,110,116,45,84,121,112,101]
abbrev X6 v0 v1 d c v4 b v6 a:=[aS v0 [(μ v1 d c)] 61,bA fA 86 3 v4 b v6 a]
abbrev X8(v0:LQ) v1:=[(str ((el v0 v1).1)),(str ((el v0 v1).2.1)),(ι ((el v0 v1).2.2))]
abbrev tU v0 v1 b a:=[aS v0 [(μ v1 b a)] 61]
abbrev Is:=[(13:UInt8),(10:UInt8)]
abbrev X7 v0 v1 c b v4 a:=[aS v0 [(str v1)] 9,aS c [(str b)] 9,aS v4 [(υ .i64 a)] 3]
abbrev nl:=[12,13,14,15,16,17,18,19,20,21,22,23,24,25,26,27]
abbrev fB v0 v1 c b v4 a:=[(Vs v0 v1 c),(Vs b v4 a)]
theorem BN(c:UInt8):IntKind.wrap .i32 ((c.toNat:Nat):Int)=(c.toNat:Int):=by revert c;exact dS _ aA3
theorem R0:Wk.Enters prog 117:=⟨f117,_,func117,rfl,aF⟩
theorem Q9:Wk.Enters prog 153:=⟨f153,_,func153,rfl,aF⟩
theorem zr:Wk.Enters prog 154:=⟨f154,_,func154,rfl,aF⟩
theorem zo:Wk.Enters prog 185:=⟨f185,_,func185,rfl,aF⟩
variable {fu:Nat}{g:Int}{w:ν}{r:Bool}
theorem azu(a:ago fu g=δ r)(p:Gl w):CR prog 185 [(Vi .i32 g)] w λv w'=>v=(Vb r)/\Hp w [] [] w':=by have e:=Hp.refl w;refine enter (k:=17) func185 rfl rfl fL ?_;unfold ago at a;refine sr (wp 1 (nq (cs (ce (bi a λh c a=>lC e [0,2,3] [(3,(Vb h))] ?_ ?_)))));refine cr (wp 2 (wd c (λj c=> ?_) (λj c=> ?_)));refine wp 4 (wl (ql ?_));obtain rfl:=oi c;exact je e.kp;refine wp 4 (wl (ql ?_));obtain rfl:=oi c;exact je e.kp;intro o G d;refine cb a (λi a=> ?_) (λi a=> ?_);refine sr (wp 1 (nq (ct (gU (st ?_)))));obtain rfl:=oi a;exact rv d.kp;refine bi a λn b a=>lC d [2,10] [(10,(Vb n))] ?_ ?_;refine cr (wp 2 (wd b (λm b=> ?_) (λm b=> ?_)));refine wp 4 (wl (ql ?_));obtain rfl:=oi b;exact je d.kp;refine wp 4 (wl (ql ?_));obtain rfl:=oi b;exact je d.kp;intro q G f;refine cb a (λl a=> ?_) (λl a=> ?_);refine sr (wp 1 (nq (ct (gU (st ?_)))));obtain rfl:=oi a;exact rv f.kp;refine ck (bn (qn (sr (wp 1 (nq (ct ?_))))));obtain rfl:=oi a;exact rv f.kp
variable {a:aC}
theorem axe{r:Int}(b:th fu a g=δ r)(K:Gl w):CR prog 153 [(str a),(Vi .i32 g)] w λv w'=>v=(Vi .i64 r)/\Hp w [] [] w':=by
 have s:=Hp.refl w;refine enter (k:=187) func153 rfl rfl fL ?_;unfold th at b;refine sr (wp 1 (nq (ce (bi b λJ n b=>lC s [0,1,4,160] [(160,(Vb J))] ?_ ?_))));refine cr (wp 2 (wd n (λM n=> ?_) (λM n=> ?_)));refine wp 4 (wl (ql ?_));obtain rfl:=oi n;exact je s.kp;refine wp 4 (wl (ql ?_));obtain rfl:=oi n;exact je s.kp;intro I G m;refine cb b (λL b=> ?_) (λL b=> ?_);refine sr (wp 2 (ug .i32 g underlying21 underlying5 aF (pA 117 #[] [(str a),(bt (pb g))] _ R0 aF aF (pT a (pb g) I) ?_)));rintro _ g0 ⟨rfl,H⟩;have c6:=m.call H;clear H;refine wp 1 (nq (ct (gU ?_)));obtain rfl:=oi b;exact rv c6.kp;refine sr (wp 3 (nq (cd b (λZ b=> ?_) (λZ b=> ?_))));refine bi b λF Y b=>KY m F [4] (λX=>[]) ?_ ?_;refine sr (wp 1 (MR m a underlying9 aF λq g1 d0=>nq (ce (Yx (σ:=Nat×Nat) [4,175] (λ⟨l,h⟩=>[]) (λ⟨l,h⟩ w'=>Hp w [] [SS q a h] w'/\ahj fu a l h=δ F) (λ⟨l,h⟩=>l) (fu,0) (by exact⟨d0.kp,Y⟩) ?_))));rintro⟨_|l,h⟩ g2 G ⟨x,a0⟩
 ·exact Ug a0
 rw [amt,agp]at a0;refine sr ?_;by_cases p:h<γ a;replace a0:=HV p a0;refine Wz x 0 q a h rfl aF (λ_ d1 o=> ?_) (λu=>absurd p u);replace o:Hp w [] [SS q a (h+(Δ ⟨List.toArray a⟩ h).2)] d1:=o;refine wp 1 (nq (cs (tP aF (ck (qn (ce (sr ?_)))))));refine wp 4 (nq (sr (wp 2 (nq (cd a0 (λd2 a0=> ?_) (λd2 a0=> ?_))))));refine sr (wp 2 (nq (ct (gU (kW (gU (kW ?_)))))));obtain rfl:=oi a0;refine gU ?_;obtain rfl:=oi b;exact rv o.kp;refine ck (bn (ql ?_));exact⟨(l,h+(Δ ⟨List.toArray a⟩ h).2),_,rfl,by kernel_rfl,⟨o.kp,a0⟩,nF _⟩;replace a0:=HW p a0;refine Wz x 0 q a h rfl aF (λu=>absurd u p) (λ_=> ?_);refine wp 1 (nq (cs (lh aF (Ch (yV (Ci (Cg (ql ?_))))))));obtain rfl:=oi a0;exact qe rfl x.kp;rintro X g3 G d3 rfl;refine sr (wp 1 (nq (ct (gU ?_))));obtain rfl:=oi b;exact rv d3.kp;refine sr (wp 1 (bi b λg4 d4 b=>wc zo m (azu d4 (K.iJ m)) λg5 E=>wp 2 (nq (cb b (λd5 b=> ?_) (λd5 b=> ?_)))));refine sr (wp 1 (nq (ct (gU ?_))));obtain rfl:=oi b;exact rv E.kp;refine AI (sr (wp 1 (RV .i32 .i32 g underlying21 underlying9 aF (wp 1 (nq (sr ?_))))));refine wp 2 (gi b λd6 b=>Je (γ ((ο g).data.toList):Int) (1:Int) aF aF d6 (wp 1 (nq (sr (wp 2 (wl ?_))))));refine qn (sr (wp 1 (nq (cs (ce (Z6 (λD (_:Unit)=>ahi fu a g D) () E b [0,4,7,8,9] (λ(_:Unit)=>[]) (λ_=>rfl) ?_))))));rintro D _ g6 G t j;rw [asu,ajk]at j;refine cs (sr (wp 4 (nq (cd j (λd7 j=> ?_) (λd7 j=> ?_)))));refine ck (qn (ce (AI (bi j λd8 c j=>KY t d8 [0,4,7,8,9] (λi=>[(9,(Vi .i64 i))]) ?_ ?_))));refine cs (gi c λd9 c=>gi c λW c=>cdr 6 t (alt (xZ (nX (yW (xZ (yW (alt (nX (yW IB))))))))) λg7 C=>rp 4 [0,1] (rt 2 (bt (at_ a ((γ ((ο g).data.toList):Int)-1))) rfl rfl (iE rfl (by intro w e;exact(pJ a .i64 ((γ ((ο g).data.toList):Int)-1) underlying9 aF aF d9))) (rp 1 [3,4] (rt 5 (bt (at_ ((ο g).data.toList) ((γ ((ο g).data.toList):Int)-1))) rfl rfl (iE rfl (by intro w e;exact(pJ ((ο g).data.toList) .i64 ((γ ((ο g).data.toList):Int)-1) underlying9 aF aF W))) (HH aF (mV (at_ a ((γ ((ο g).data.toList):Int)-1)) (at_ ((ο g).data.toList) ((γ ((ο g).data.toList):Int)-1)) aF aF ?_))))));refine nq (cn c (λV c=> ?_) (λV c=> ?_));refine cs (gi c λU c=>gi c λT c=>gi c λS c=>cdr 7 C (alt (xZ (nX (yW (xZ (yW (alt (nX (yW IB))))))))) λR Q=>rp 5 [0,1] (rt 2 (Vi .i64 (((γ ((ο g).data.toList):Int)-1)+1)) rfl rfl (iE rfl (by intro w e;exact(yZ ((γ ((ο g).data.toList):Int)-1) (1:Int) aF aF U))) (rt 3 (str (cG (bF (((γ ((ο g).data.toList):Int)-1)+1)) a)) rfl rfl (iE rfl (by intro w e;exact(pI a .i64 (((γ ((ο g).data.toList):Int)-1)+1) underlying9 aF aF T))) (rp 1 [4,5] (rt 6 (bt (at_ ((ο g).data.toList) ((γ ((ο g).data.toList):Int)-1))) rfl rfl (iE rfl (by intro w e;exact(pJ ((ο g).data.toList) .i64 ((γ ((ο g).data.toList):Int)-1) underlying9 aF aF S))) ?_)))));refine HH aF (pA 117 #[] [(str (cG (bF (((γ ((ο g).data.toList):Int)-1)+1)) a)),(bt (at_ ((ο g).data.toList) ((γ ((ο g).data.toList):Int)-1)))] _ R0 aF aF (pT (cG (bF (((γ ((ο g).data.toList):Int)-1)+1)) a) (at_ ((ο g).data.toList) ((γ ((ο g).data.toList):Int)-1)) R) ?_);rintro _ g8 ⟨rfl,B⟩;have A:=Q.call B;clear B;refine wp 1 (nq (cs (sr (wp 2 (nq (cd c (λP c=> ?_) (λP c=> ?_)))))));refine sr (wp 1 (nq (ct (st (kW ?_)))));obtain rfl:=oi c;refine Ul (gU (kW (gU (st (Ul (gU ?_))))));obtain rfl:=oi j;exact rv A.kp;refine ck (qn (cr (wp 2 (gi c λO c=>vH (dP (·==(at_ ((ο g).data.toList) ((γ ((ο g).data.toList):Int)-1))) (cG (bF (((γ ((ο g).data.toList):Int)-1)+1)) a)) (1:Int) aF aF O (gi c λN c=>vH ((γ ((ο g).data.toList):Int)-1) ((dP (·==(at_ ((ο g).data.toList) ((γ ((ο g).data.toList):Int)-1))) (cG (bF (((γ ((ο g).data.toList):Int)-1)+1)) a))+1) aF aF N (wp 1 (wl ?_)))))));refine ql ?_;obtain rfl:=oi c;exact qe rfl A.kp;refine ck (ql ?_);obtain rfl:=oi c;exact qe rfl C.kp;rintro i g9 G f0 rfl;refine cs (sr (wp 1 (nq (ce (Z6 (λz f=>akd fu a g i z f) (1:Int) f0 j [0,4,7,8,9,12] (λf=>[(12,(Vi .i64 f))]) (λ_=>rfl) ?_)))));rintro z f h0 G y d;rw [bba,ant]at d;refine cs (sr (wp 4 (nq (cd d (λf1 d=> ?_) (λf1 d=> ?_)))));refine ck (qn (cs (ce (cs (gi d λf2 d=>gi d λf3 d=>gi d λf4 d=>gi d λf5 d=>cdr 10 y (alt (yW (alt (xZ (yW (alt (nX (yW (xZ (yW (alt (nX (yW IB))))))))))))) λh1 f6=> ?_)))));refine rp 7 [0,1,2] (rt 3 (Vi .i64 (i-f)) rfl rfl (iE rfl (by intro w e;exact(uG i f aF aF f2))) (rt 4 (bt (at_ a (i-f))) rfl rfl (iE rfl (by intro w e;exact(pJ a .i64 (i-f) underlying9 aF aF f3))) (rp 2 [5,6,7] (rt 8 (Vi .i64 (((γ ((ο g).data.toList):Int)-1)-f)) rfl rfl (iE rfl (by intro w e;exact(uG ((γ ((ο g).data.toList):Int)-1) f aF aF f4))) (rt 9 (bt (at_ ((ο g).data.toList) (((γ ((ο g).data.toList):Int)-1)-f))) rfl rfl (iE rfl (by intro w e;exact(pJ ((ο g).data.toList) .i64 (((γ ((ο g).data.toList):Int)-1)-f) underlying9 aF aF f5))) (HH aF (mV (at_ a (i-f)) (at_ ((ο g).data.toList) (((γ ((ο g).data.toList):Int)-1)-f)) aF aF (nq (cn d (λf7 d=> ?_) (λf7 d=> ?_))))))))));exact Ug d;exact ck (bn (qn (cr (wp 1 (gi d λf8 d=>vH f (1:Int) aF aF f8 (wp 1 (wl (ql (qd (f+1) f6.kp d)))))))));refine Ch (yV (Ci (Cg (qn (cs (sr (wp 2 (gi d λf9 d=> ?_))))))));refine Je i ((γ ((ο g).data.toList):Int)-1) aF aF f9 (wp 1 (nq (ct (st (Ul (gU (kW (gU ?_))))))));refine st (Ul (gU ?_));obtain rfl:=oi d;exact rv y.kp;refine Ch (yV (Ci (Cg (qn (cs (sr (wp 1 (wl ?_))))))));refine qn (ct (st (Ul (gU ?_))));obtain rfl:=oi j;exact rv t.kp
theorem axp(a:ahh fu g=δ r)(d:Gl w):CR prog 154 [(Vi .i64 g)] w λv w'=>v=(Vb r)/\Hp w [] [] w':=by have c:=Hp.refl w;refine enter (k:=5) func154 rfl rfl fL ?_;unfold ahh at a;refine sr (wp 1 (nq (sr (wp 3 (nq ?_)))));refine ct ?_;obtain rfl:=oi a;exact rv c.kp
theorem tX{h:aC}(r:aqq fu a h=δ g)(m:Gl w):CR prog 108 [(str a),(str h)] w λv w'=>v=(Vi .i64 g)/\Hp w [] [] w':=by
 have d:=Hp.refl w;refine enter (k:=55) func108 rfl rfl fL ?_;unfold aqq at r;refine sr (wp 1 (nq (cs (sr (wp 2 (wl ?_))))));refine qn (cd r (λz r=> ?_) (λz r=> ?_));refine sr (wp 1 (nq (ct (st ?_))));obtain rfl:=oi r;exact rv d.kp;refine ck (qn (cs (sr (wp 3 (nq (cd r (λy r=> ?_) (λy r=> ?_)))))));refine sr (wp 1 (gi r λA r=>uI h .i64 (0:Int) underlying9 aF aF A (MV .i32 .u8 ((at_ h (0:Int)).toNat:Int) underlying5 underlying21 aF (BN _) (wp 1 (nq (bi r λu R r=>lC d [0,1,4,5] [(5,(Vi .i32 u))] ?_ ?_))))));refine sr (wp 2 (nq (cd R (λx R=> ?_) (λx R=> ?_))));refine cr (wp 1 (wl (ql ?_)));obtain rfl:=oi R;exact je d.kp;refine ck (ql ?_);obtain rfl:=oi R;exact je d.kp;intro Q G t;refine sr (wp 2 (bi r λP N r=>wc Q9 t (axe N (m.iJ t)) λO M=>wp 1 (nq (ct (st ?_)))));obtain rfl:=oi r;exact rv M.kp;refine ck (qn (bi r λd0 e r=>lC d [0,1,4] [] ?_ ?_));refine sr (wp 2 (bi e λd1 L e=>wc zr d (axp L (m.iJ d)) λd2 K=>nq (cb e (λJ e=> ?_) (λJ e=> ?_))));exact Ug e;refine ck (ql ?_);obtain rfl:=oi e;exact je K.kp;intro d3 G s;refine bi r λq I r=>KY s q [4] (λH=>[]) ?_ ?_;refine sr (wp 1 (MR s a underlying9 aF λl d4 F=>nq (ce (Yx (σ:=Nat×Nat) [1,4,45] (λ⟨f,c⟩=>[]) (λ⟨f,c⟩ w'=>Hp w [] [SS l a c] w'/\aie fu a h f c=δ q) (λ⟨f,c⟩=>f) (fu,0) (by exact⟨F.kp,I⟩) ?_))));rintro⟨_|f,c⟩ d5 G ⟨o,b⟩
 ·exact Ug b
 rw [ajl,afi]at b;refine sr ?_;by_cases j:c<γ a;replace b:=HV j b;refine Wz o 0 l a c rfl aF (λ_ E i=> ?_) (λn=>absurd j n);replace i:Hp w [] [SS l a (c+(Δ ⟨List.toArray a⟩ c).2)] E:=i;refine wp 1 (nq (cs (tP aF (ck (qn (ce (sr ?_)))))));refine wp 4 (nq (sr (wp 2 (bi b λd6 D b=>wc Q9 i (axe D (m.iJ i)) λd7 p=>wp 1 (wl ?_)))));refine qn (cd b (λC b=> ?_) (λC b=> ?_));refine sr (wp 2 (nq (ct (gU (kW (gU (kW ?_)))))));obtain rfl:=oi b;obtain rfl:=oi r;exact rv p.kp;refine ck (bn (ql ?_));exact⟨(f,c+(Δ ⟨List.toArray a⟩ c).2),_,rfl,by kernel_rfl,⟨p.kp,b⟩,nF _⟩;replace b:=HW j b;refine Wz o 0 l a c rfl aF (λn=>absurd n j) (λ_=> ?_);refine wp 1 (nq (cs (lh aF (Ch (yV (Ci (Cg (ql ?_))))))));obtain rfl:=oi b;exact qe rfl o.kp;rintro H d8 G B rfl;refine sr (wp 1 (nq (ct ?_)));obtain rfl:=oi r;exact rv B.kp
end Go.Proofs
namespace Go.Wk
open Go.Px
theorem W2{t:aC}(h:t.all (λb=>decide (b.toNat<128))=ζ)(k:Nat)(a:k<γ t):(at_ t (k:Int)).toNat<128:=by
 have c:at_ t (k:Int)∈t:=by simp only [at_,uE,bQ,aO a,HQ];exact yN a
 exact bU (aT.1 h _ c)
theorem qj(a:Int)(b: -1000000<=a)(h:a<=1000000):acl a:=⟨aA0,aA0⟩
theorem yp(t:aC)(h:t.all (λb=>decide (b.toNat<128))=ζ)(n:Nat):∀(k a:Nat),k+n=γ t->n<a->ahj 2000 t a k=δ (.inl ()):=by
 induction n with
 |zero=>intro k a e f;obtain⟨a,rfl⟩:=cS a;rw [amt,agp,aA aA0]
 |succ n d=>intro k a e f;obtain⟨a,rfl⟩:=cS a;have i:=W2 h k aA0;have g:=Vw t k aA0 i;have c:Δ ⟨List.toArray t⟩ k=((at_ t (k:Int)).toNat,1):=g;rw [amt,agp,aB aA0,c,aA (by simp only;omega)];exact d (k+1) a aA0 aA0
theorem K8(p:UInt8->Bool):∀l:aC,(∀c∈l,p c=η)->dP p l= -1
 |[],_=>rfl
 |c::l,h=>by unfold dP;rw [h c aA2,aA aA1,K8 p l (λx hx=>h x (lU _ hx)),aB rfl]
theorem ir(t:aC)(A:γ t<=1000)(o:t.all (λb=>decide (b.toNat<128))=ζ)(r:Int)(v:128<=r):th 2000 t r=δ (-1):=by
 have w:decide (r<128)=η:=aL aA0;unfold th;rw [aB aA0,w,cL,aH];by_cases p:r=65533
 ·rw [aB p,yp t o (γ t) 0 2000 aA0 aA0];rfl
 rw [aA p];have u:∃b,ago 2000 r=δ b:=by
  unfold ago;rw [aB aA0,cL];cases decide (r<55296)with
  |true=>exact⟨_,rfl⟩
  |false=>
   rw [aH];by_cases h:57343<r
   ·rw [aB h,cL];cases decide (r<=1114111)<;>exact⟨_,rfl⟩
   ·rw [aA h];exact⟨_,rfl⟩
 obtain⟨b,y⟩:=u;rw [y,cL];cases b with
 |false=>rfl
 |true=>
  obtain⟨D,C,s⟩:=VL r v;have q:(ο r).data.toList=Sg r:=rfl;rw [Bool.not_true,aH,q];have g:acl ((γ (Sg r):Int)-1):=qj _ aA0 aA0;rw [aU g];show ahi 2000 t r (1999+1)=_;rw [asu,ajk,q];generalize a:at_ (Sg r) ((γ (Sg r):Int)-1)=last at s;generalize B:(γ (Sg r):Int)-1=m at a s⊢;by_cases d:m<(γ t:Int)
  ·obtain⟨k,rfl⟩:∃k:Nat,m=(k:Int):=⟨m.toNat,aA0⟩;have z:=W2 o k aA0;have i:¬at_ t (k:Int)=last:=λe=>by rw [e]at z;omega
   have f:∀l:aC,(∀c∈l,c∈t)->dP (·==last) l= -1:=λl x=>K8 _ l λc n=>by
    have j:=bU (aT.1 o c (x c n));have:¬c=last:=λe=>by rw [e]at j;omega
    simpa using this
   rw [aB d,aU aA0,aU aA0,aA i,aU (qj _ aA0 aA0),aU aA0,aU aA0,f _ (λc n=>List.mem_of_mem_drop n),aB aA1,cL,eF]
  ·rw [aA d]
theorem ZM:∀c:UInt8,pb (c.toNat:Int)=c:=dS _ aA3
theorem yo(t:aC)(c:UInt8)(b:c.toNat<128):th 2000 t (c.toNat:Int)=δ (dP (·==c) t):=by have a:decide ((c.toNat:Int)<128)=ζ:=aK aA0;unfold th;rw [aB aA0,a,cL,aQ,ZM]
theorem PM(c:UInt8):∀t:aC,(0<=dP (·==c) t)↔t.contains c=ζ
 |[]=>by simp [dP]
 |b::t=>by
  have a:=PM c t;have i:=tB (·==c) t;unfold dP;by_cases h:b=c
  ·rw [aB aA8];simp [h]
  ·have g:¬c=b:=λe=>h e.symm;rw [aA aA8,List.contains_cons];have d:(c==b)=η:=aD9;rw [d,dX,<-a];split
   ·rename_i f;rw [f]
   ·omega
theorem EW(p:UInt8->Bool):∀a l:aC,(∀c∈a,p c=η)->dP p (a++l)=if dP p l= -1 then-1 else dP p l+(γ a:Int)
 |[],l,_=>by
  rw [List.nil_append,List.length_nil];split
  ·assumption
  ·omega
 |c::a,l,h=>by
  have d:=EW p a l (λx hx=>h x (lU _ hx));have e:=tB p l;rw [HT,dP,h c aA2,aA aA1,d];by_cases b:dP p l= -1
  ·rw [aB b,aB b,aB rfl]
  ·rw [aA b,aA b,aA aA0,dM];omega
theorem ia_lp(s t:aC)(y:γ t<=1000)(x:t.all (λb=>decide (b.toNat<128))=ζ)(n:Nat):∀(k f:Nat),γ s-k<=n->n<f->k<=γ s->
  aie 2000 s t f k=δ (if dP (t.contains ·) (s.drop k)= -1 then .inl ()else .inr ((k:Int)+dP (t.contains ·) (s.drop k))):=by
 induction n with
 |zero=>intro k f A D z;obtain⟨f,rfl⟩:=cS f;rw [ajl,afi,aA aA0,MH aA0];rfl
 |succ n w=>
  intro k f A D z;obtain⟨f,rfl⟩:=cS f;by_cases a:k<γ s
  ·rw [ajl,afi,aB a];have G:=tB (t.contains ·) (s.drop (k+1));by_cases d:(at_ s (k:Int)).toNat<128
   ·have u:Δ ⟨List.toArray s⟩ k=((at_ s (k:Int)).toNat,1):=Vw s k a d;rw [u];simp only;rw [yo t _ d,cL,drop_at s k a,dP];have l:=PM (at_ s (k:Int)) t;by_cases m:t.contains (at_ s (k:Int))=ζ
    ·rw [aB (l.2 m),aB m,aA aA1];simp
    ·rw [aA (λh=>m (l.1 h)),aA m,w (k+1) f aA0 aA0 aA0];by_cases i:dP (t.contains ·) (s.drop (k+1))= -1
     ·rw [aB i,aB i,aB rfl]
     ·rw [aA i,aA i,aA aA0];congr 2;omega
   ·obtain⟨d1,d2,d3,d4⟩:=S4 s k a d;have e:(⟨s.toArray⟩:ByteArray)=⟨List.toArray s⟩:=rfl;rw [ir t y x _ aA0,cL,aA aA1];generalize(Δ ⟨s.toArray⟩ k).2=wd at d2 d3 d4⊢
    rw [w (k+wd) f aA0 aA0 aA0];have g:s.drop k=(s.drop k).take wd++s.drop (k+wd):=by
     have r:s.drop (k+wd)=(s.drop k).drop wd:=by rw [List.drop_drop]
     rw [r,WS]
    have q:∀c∈(s.drop k).take wd,t.contains c=η:=by
     intro c m;obtain⟨j,B,rfl⟩:=List.getElem_of_mem m;rw [yM,HS]at B;have E:=d4 (k+j) aA0 aA0;rw [List.getElem_take,List.getElem_drop];have F:at_ s ((k+j:Nat):Int)=s[k+j]' aA0:=by unfold at_;rw [uE];simp [show k+j<γ s by omega]
     rw [F]at E;cases v:t.contains (s[k+j]' aA0)with
     |false=>rfl
     |true=>have:=bU (aT.1 x _ (List.contains_iff_mem.1 v));omega
    have p:dP (t.contains ·) (s.drop k)=if dP (t.contains ·) (s.drop (k+wd))= -1 then-1 else dP (t.contains ·) (s.drop (k+wd))+(γ ((s.drop k).take wd):Int):=by
     conv=>lhs;rw [g]
     exact EW _ _ _ q
    rw [p];have o:γ ((s.drop k).take wd)=wd:=by rw [yM,HS];omega
    have C:=tB (t.contains ·) (s.drop (k+wd));rw [o];by_cases i:dP (t.contains ·) (s.drop (k+wd))= -1
    ·rw [aB i,aB i,aB rfl]
    ·rw [aA i,aA i,aA aA0];congr 2;omega
  ·rw [ajl,afi,aA a,MH aA0];rfl
theorem M1(s t:aC)(i:γ s<=8)(d:2<=γ t)(f:γ t<=1000)(g:t.all (λb=>decide (b.toNat<128))=ζ):aqq 2000 s t=δ (Lib.indexAny s t):=by
 have a:¬t=[]:=λe=>by rw [e]at d;simp at d
 have h:=tB (t.contains ·) s;unfold aqq ahh;rw [aA a,aA aA0,cL,aL aA0,aH,cL,ia_lp s t f g (γ s) 0 2000 aA0 aA0 aA0,Qs,att,cL];by_cases c:dP (t.contains ·) s= -1
 ·rw [aB c,c];rfl
 ·rw [aA c,eF];congr 1;omega
end Go.Wk
namespace Go.Proofs
open Go.Wk Go.Px
theorem Xw(s t:List UInt8)(w:ν)(h:γ s<=1000000000/\γ t<=1000/\t.all (λb=>decide (b.toNat<128))=ζ)(f:Gl w):CR Tryz.prog 108 [str s,str t] w λv w'=>v=.int .i64 (Lib.indexAny s t)/\Hp w [] [] w':=by
 obtain⟨d,c,a⟩:=h;by_cases g:8<γ s
 ·exact Gr s t w ⟨d,c,a,.inl g⟩
 by_cases e:γ t<=1
 ·exact Gr s t w ⟨d,c,a,.inr (.inl e)⟩
 exact tX (M1 s t aA0 aA0 c a) f
open Go.Wk Go.Px Go.Oe
abbrev zI:Ty:=.pr .s' (.pr .s' .b')
abbrev eU:Ty:=.l' 86 40 zI
noncomputable section
noncomputable def gT:List (Nat×Ob):=[(0,.ro .s' W6),(2,.ro (.pr .s' (.i' .i64)) Iq),(4,.ro .s' z7)]
noncomputable def glo:Db where
 gs:=gT
 p w S:=Gl w/\∀b∈S,9<=b
 st h a j:=⟨a.1.hp h a.2,λb i=>(j b i).elim (λk=>Ja a.1.gs k) (a.2 b)⟩
 rd:=by
  intro w S g t l a c;have d:∀g,g<9->g∉S:=λg f e=>Nat.lt_irrefl _ (cP f (a.2 g e));unfold gT at c;cases c with
  |head=>exact⟨a.1.specials.rd,d _ aA1⟩
  |tail _ c=>
  cases c with
  |head=>exact⟨a.1.kinds.rd,d _ aA1⟩
  |tail _ c=>
  cases c with
  |head=>exact⟨a.1.classes.rd,d _ aA1⟩
  |tail _ c=>
  cases c
noncomputable def oE(t:Nat):Option (Nat×Nat×Ty):=bif Nat.beq t 22 then δ (37,32,.pr .s' .s')else bif Nat.beq t 23 then δ (5,1,.c')else bif Nat.beq t 61 then δ (86,40,.pr .s' (.pr .s' .b'))else bif Nat.beq t 93 then δ (9,16,.s')else bif Nat.beq t 105 then δ (109,24,.pr (.i' .i64) .s')else ε
theorem oEh:∀t e b τ,oE t=δ (e,b,τ)->Tryz.prog.underlying t=δ (.slice e)/\TI Tryz.prog e τ.sz b/\τ.flat=ζ/\0<b:=by
 intro t e b τ h;unfold oE at h;cases g:Nat.beq t 22 with
 |true=>rw [g]at h;cases h;rw [gC g];exact⟨Tryz.underlying22,by unfold TI;kernel_rfl,rfl,aA1⟩
 |false=>
 rw [g]at h;simp only [aH]at h;cases f:Nat.beq t 23 with
 |true=>rw [f]at h;cases h;rw [gC f];exact⟨Tryz.underlying23,by unfold TI;kernel_rfl,rfl,aA1⟩
 |false=>
 rw [f]at h;simp only [aH]at h;cases d:Nat.beq t 61 with
 |true=>rw [d]at h;cases h;rw [gC d];exact⟨Tryz.underlying61,by unfold TI;kernel_rfl,rfl,aA1⟩
 |false=>
 rw [d]at h;simp only [aH]at h;cases c:Nat.beq t 93 with
 |true=>rw [c]at h;cases h;rw [gC c];exact⟨Tryz.underlying93,by unfold TI;kernel_rfl,rfl,aA1⟩
 |false=>
 rw [c]at h;simp only [aH]at h;cases a:Nat.beq t 105 with
 |true=>rw [a]at h;cases h;rw [gC a];exact⟨Tryz.underlying105,by unfold TI;kernel_rfl,rfl,aA1⟩
 |false=>
 rw [a]at h;simp only [aH]at h;cases h
theorem gTt:∀q∈glo.gs,∃t l,q.2=.ro t l:=by
 intro q a;have a:q∈gT:=a;unfold gT at a;cases a with
 |head=>exact⟨_,_,rfl⟩
 |tail _ a=>
 cases a with
 |head=>exact⟨_,_,rfl⟩
 |tail _ a=>
 cases a with
 |head=>exact⟨_,_,rfl⟩
 |tail _ a=>
 cases a
noncomputable def Z3:Sea:=⟨Tryz.prog,glo,oE,oEh,gTt⟩
variable {k:Nat}{fn:Func}
noncomputable def kl(a : Z3.P.funcs[k]? = δ fn)(c : Ct)(ok : AV Z3.P Z3.GS k c)(b : fn.body = δ (fn.body.getD .skip) := by rfl)(nm : (fn.name == "runtime.NumGoroutine") = η := by kernel_rfl) : Z3.K := ⟨k, c, ⟨fn, _, a, b, nm⟩, ok⟩
noncomputable def kf(fu : Nat)(d : Z3.P.funcs[k]? = δ fn)(l : List Z3.K)(a : List Ty)(r : List Rk)(g : (gL a).T -> Option (iF r).T)(sc : Sc)(e : fn.body = δ (fn.body.getD .skip) := by rfl)(nm : (fn.name == "runtime.NumGoroutine") = η := by rfl)(c : Nat.ble a.length fn.ntmps = ζ := by rfl)(b : ∀ x, denF (Z3.cx fu fn.ntmps l a) (Z3.GS.gs.map (·.2)) (fn.body.getD .skip) fn.results.toList sc a r x = g x := by intro x; kernel_rfl) : Z3.K := Z3.fn fu k d e nm l a r g sc c b
noncomputable def JY:=kl Tryz.func23 ⟨[.r' .c'],[.r' (.l' 5 1 .c')],λx=>.gs [⟨(0+γ x)*1<=140737488355328,inferInstance⟩] x⟩ (Fj (e:=5) (b:=1) (t:=.c') (λx=>x) (λy=>y) λw S x y a n cap i c d f h=>by obtain⟨⟨g,_⟩,rfl⟩:=c;exact xA x w a n cap d f g)
noncomputable def auh:=kl Tryz.func34 ⟨[.i' .i64],[.r' (.s')],λx=>.gs [⟨acl x,inferInstance⟩] (Lib.itoa x)⟩ (WD (λx=>[.int .i64 x]) (λy=>str y) λw S x y b a=>by obtain⟨⟨c,_⟩,rfl⟩:=a;exact NM x w c b.1)
noncomputable def ayy:=kl Tryz.func51 ⟨[.r' .s',.s'],[.r' .s'],λx=>.gs [⟨γ x.1<=1000000000/\γ (Lib.join x.1 x.2)<=100000000000,inferInstance⟩] (Lib.join x.1 x.2)⟩ (P3 (t:=.s') (λx=>x.1) (λx=>[str x.2]) (λy=>str y) λw S x y a n cap g b c e d=>by obtain⟨⟨f,_⟩,rfl⟩:=b;exact Xv x.2 w a n cap x.1 c e d f)
noncomputable def Er:=kl Tryz.func55 ⟨[.s',.s'],[.r' (.i' .i64)],λx=>.gs [⟨γ x.1<=1000000000,inferInstance⟩] (Lib.index x.1 x.2)⟩ (WD (λx=>[str x.1,str x.2]) (λy=>.int .i64 y) λw S x y b a=>by obtain⟨⟨c,_⟩,rfl⟩:=a;exact Lm x.1 x.2 w c b.1)
noncomputable def axt:=kl Tryz.func57 ⟨[.s',.s'],[.r' (.s'),.r' (.b')],λx=>.gs [] (Lib.trimPrefix x.1 x.2,Lib.hasPrefix x.1 x.2)⟩ (WD (λx=>[str x.1,str x.2]) (λy=>.tuple #[str y.1,.bool y.2]) λw S x y b a=>by obtain⟨_,rfl⟩:=a;exact zM x.1 x.2 w)
noncomputable def bas:=kl Tryz.func59 ⟨[.s',.s'],[.r' (.s'),.r' (.s'),.r' (.b')],λx=>.gs [⟨γ x.1<=1000000000,inferInstance⟩] ((Lib.cut x.1 x.2).1,(Lib.cut x.1 x.2).2.1,(Lib.cut x.1 x.2).2.2)⟩ (WD (λx=>[str x.1,str x.2]) (λy=>.tuple #[str y.1,str y.2.1,.bool y.2.2]) λw S x y b a=>by obtain⟨⟨c,_⟩,rfl⟩:=a;exact B7 x.1 x.2 w c b.1)
noncomputable def oH:=kl Tryz.func82 ⟨[.p' 138 (.pr .z' (.l' 5 1 .c'))],[.r' .s'],λx=>.gs [⟨γ x.2<=140737488355328,inferInstance⟩] x.2⟩ (P4 Tryz.fp Tryz.Cu _)
noncomputable def qT:=kl Tryz.func83 ⟨[.s',.s'],[.r' (.s')],λx=>.gs [⟨γ x.1<=1000000000,inferInstance⟩,⟨γ x.2<=1000/\x.2.all (λb=>decide (b.toNat<128))=ζ,inferInstance⟩] (Lib.trimS x.1 x.2)⟩ (WD (λx=>[str x.1,str x.2]) (λy=>str y) λw S x y e a=>by obtain⟨⟨d,c,_⟩,rfl⟩:=a;exact NL x.1 x.2 w d c)
noncomputable def axr:=kl Tryz.func98 ⟨[.s',.s'],[.r' (.s')],λx=>.gs [⟨γ x.1<=1000000000,inferInstance⟩,⟨γ x.2<=1000/\x.2.all (λb=>decide (b.toNat<128))=ζ,inferInstance⟩] (Lib.trimRightS x.1 x.2)⟩ (WD (λx=>[str x.1,str x.2]) (λy=>str y) λw S x y e a=>by obtain⟨⟨d,c,_⟩,rfl⟩:=a;exact Xu x.1 x.2 w d c)
noncomputable def atg:=kl Tryz.func108 ⟨[.s',.s'],[.r' (.i' .i64)],λx=>.gs [⟨γ x.1<=1000000000/\γ x.2<=1000/\x.2.all (λb=>decide (b.toNat<128))=ζ,inferInstance⟩] (Lib.indexAny x.1 x.2)⟩ (WD (λx=>[str x.1,str x.2]) (λy=>.int .i64 y) λw S x y c a=>by obtain⟨⟨d,_⟩,rfl⟩:=a;exact Xw x.1 x.2 w d c.1)
noncomputable def ajw:=kl Tryz.func117 ⟨[.s',.c'],[.r' (.i' .i64)],λx=>.gs [] (dP (·==x.2) x.1)⟩ (WD (λx=>[str x.1,bt x.2]) (λy=>.int .i64 y) λw S x y b a=>by obtain⟨_,rfl⟩:=a;exact pT x.1 x.2 w)
noncomputable def Aw:=kl Tryz.func119 ⟨[.p' 138 (.pr .z' (.l' 5 1 .c'))],[.o' 0 138 (.pr .z' (.l' 5 1 .c'))],λx=>.gs [] x⟩ (jl Xt)
noncomputable def ayz:=kl Tryz.func143 ⟨[.s',.s'],[.r' (.b')],λx=>.gs [⟨γ x.1<=1000000000,inferInstance⟩] (Lib.contains x.1 x.2)⟩ (WD (λx=>[str x.1,str x.2]) (λy=>.bool y) λw S x y b a=>by obtain⟨⟨c,_⟩,rfl⟩:=a;exact CJ x.1 x.2 w c b.1)
noncomputable def ES:=kl Tryz.func149 ⟨[.r' zI],[.r' eU],λx=>.gs [⟨(0+γ x)*40<=140737488355328,inferInstance⟩] x⟩ (Fj (e:=86) (b:=40) (t:=.pr .s' (.pr .s' .b')) (λx=>x) (λy=>y) λw S x y a n cap i c d f h=>by obtain⟨⟨g,_⟩,rfl⟩:=c;exact CK x w a n cap d f g)
noncomputable def bbj:=kl Tryz.func156 ⟨[.s',.c'],[.r' (.i' .i64)],λx=>.gs [⟨γ x.1<=1000000000,inferInstance⟩] (kC (·==x.2) x.1)⟩ (WD (λx=>[str x.1,bt x.2]) (λy=>.int .i64 y) λw S x y c a=>by obtain⟨⟨b,_⟩,rfl⟩:=a;exact Ds x.1 x.2 w b)
noncomputable def oD:=kl Tryz.func188 ⟨[.s',.s'],[.r' (.l' 9 16 .s')],λx=>match x.2 with|[c]=>.gs [⟨γ x.1<=1000000000,inferInstance⟩] (cR c x.1)|_=>.one ε⟩ (jk (e:=9) (b:=16) (t:=.s') (λy=>y) (λx=>[str x.1,str x.2]) λw S x y d a=>by
  obtain⟨s,c⟩:=x
  match c,a with
  |[c],a=>obtain⟨⟨f,_⟩,rfl⟩:=a;exact B6 s c w f d.1
  |[],a=>cases a
  |_::_::_,a=>cases a)
noncomputable def vN:=kl Tryz.func205 ⟨[.s',.s'],[.r' (.s')],λx=>.gs [⟨γ x.1<=1000000000,inferInstance⟩,⟨γ x.2<=1000/\x.2.all (λb=>decide (b.toNat<128))=ζ,inferInstance⟩] (Lib.trimLeftS x.1 x.2)⟩ (WD (λx=>[str x.1,str x.2]) (λy=>str y) λw S x y e a=>by obtain⟨⟨d,c,_⟩,rfl⟩:=a;exact CI x.1 x.2 w d c)
noncomputable def rO:=kl Tryz.func211 ⟨[.s',.s'],[.r' (.s')],λx=>.gs [] (Lib.trimPrefix x.1 x.2)⟩ (WD (λx=>[str x.1,str x.2]) (λy=>str y) λw S x y b a=>by obtain⟨_,rfl⟩:=a;exact Rq x.1 x.2 w)
end
open Go.Wk Go.Px Go.Oe
noncomputable def aza(fu:Nat):=kf fu Tryz.func85 [] [.c'] [.r' (.b')] (λx=>aqr fu x) (.s' .n' (.r' [] [] (.s' (.j' [.s' 3 (.b')] [0,1,2,6] .n' (.s' .n' (.j' [.s' 3 (.b')] [0,1,2,6] .n' .n'))) .n') .n'))
noncomputable def aov(fu:Nat):=kf fu Tryz.func84 [aza fu] [.s',.i' .i64,.f' 85 .u'] [.r' (.i' .i64)] (λx=>afx fu x.1 x.2.1) (.s' .n' (.s' .n' (.j' [.s' 1 (.i' .i64)] [] (.l' [.s' 1 (.i' .i64)] (.s' (.j' [.s' 22 (.b')] [0,1,3,4] .n' .n') .n')) .n')))
noncomputable def arq(fu:Nat):=kf fu Tryz.func53 [aov fu,aza fu] [.s',.i' .i64] [.r' (.i' .i64)] (λx=>mo fu x.1 x.2) (.n')
noncomputable def aqc(fu:Nat):=kf fu Tryz.func42 [arq fu] [.s'] [.r' (.b')] (λx=>XL fu x) (.s' .n' (.j' [.s' 2 (.b')] [0,1,2,9] .n' .n'))
noncomputable def Ew(fu:Nat):=kf fu Tryz.func27 [aqc fu] [.s'] [.r' (.b')] (λx=>aoi fu x) (.s' .n' (.j' [.s' 2 (.b')] [0,2,7] .n' .n'))
noncomputable def auj(fu:Nat):=kf fu Tryz.func92 [] [.s',.s'] [.r' (.b')] (λx=>ahw fu x.1 x.2) (.s' .n' (.j' [.s' 4 (.b')] [0,2,4,5,16] .n' .n'))
noncomputable def axs(fu:Nat):=kf fu Tryz.func56 [auj fu] [.s',.s'] [.r' (.b')] (λx=>agf fu x.1 x.2) (.n')
noncomputable def aox(fu:Nat):=kf fu Tryz.func94 [] [.c'] [.r' (.b')] (λx=>mw fu x) (.s' .n' (.j' [.s' 2 (.b')] [0,1,2,6] .n' .n'))
noncomputable def awv(fu:Nat):=kf fu Tryz.func84 [aox fu] [.s',.i' .i64,.f' 94 .u'] [.r' (.i' .i64)] (λx=>ajr fu x.1 x.2.1) (.s' .n' (.s' .n' (.j' [.s' 1 (.i' .i64)] [] (.l' [.s' 1 (.i' .i64)] (.s' (.j' [.s' 22 (.b')] [0,1,3,4] .n' .n') .n')) .n')))
noncomputable def ark(fu:Nat):=kf fu Tryz.func58 [aov fu,awv fu,aox fu] [.s',.i' .i64] [.r' (.i' .i64)] (λx=>mi fu x.1 x.2) (.n')
noncomputable def auk(fu:Nat):=kf fu Tryz.func66 [] [.s',.s'] [.r' (.b')] (λx=>ahx fu x.1 x.2) (.s' .n' (.j' [.s' 4 (.b')] [0,2,4,5,13] .n' .n'))
noncomputable def asj(fu:Nat):=kf fu Tryz.func37 [auk fu] [.s',.s'] [.r' (.b')] (λx=>tg fu x.1 x.2) (.n')
noncomputable def bcj(fu:Nat):=kf fu Tryz.func28 [asj fu,Er,axs fu,axt,ark fu] [.s',.i' .i64,.s'] [.r' (.pr (.i' .i64) (.pr (.i' .i64) .b')),.r' (.b')] (λx=>X5 fu x.1 x.2.1 x.2.2) (.s' .n' (.s' .n' (.s' .n' (.l' [.s' 9 (.i' .i64)] (.s' (.s' .n' (.s' .n' (.s' .n' (.s' (.j' [.s' 41 (.b')] [0,1,2] .n' .n') .n')))) .n')))))
noncomputable def arj(fu:Nat):=kf fu Tryz.func115 [] [.c'] [.r' (.b')] (λx=>ahr fu x) (.s' .n' (.j' [.s' 2 (.b')] [0,1,2,6,10] .n' .n'))
noncomputable def Nd(fu:Nat):=kf fu Tryz.func96 [arj fu] [.s'] [.r' (.i' .i64),.r' (.b')] (λx=>arv fu x) (.s' .n' (.r' [] [] (.s' .n' (.l' [.s' 4 (.i' .i64)] .n')) .n'))
noncomputable def ath(fu:Nat):=kf fu Tryz.func44 [] [.c'] [.r' (.c')] (λx=>ajn fu x) (.s' .n' (.s' (.j' [.s' 8 (.b')] [0,1,2] .n' .n') .n'))
noncomputable def xL(fu:Nat):=kf fu Tryz.func43 [] [.c'] [.r' (.s')] (λx=>arx fu x) (.n')
noncomputable def age(fu:Nat):=kf fu Tryz.func45 [ath fu] [.s',.f' 44 .u'] [.r' (.s')] (λx=>adc fu x.1) (.s' .n' (.s' .n' (.j' [.w' 5 (.y')] [] (.s' .n' (.l' [.w' 5 (.y'),.s' 12 (.i' .i64)] .n')) .n')))
noncomputable def aoy(fu:Nat):=kf fu Tryz.func47 [] [.c'] [.r' (.c')] (λx=>amd fu x) (.s' .n' (.s' (.j' [.s' 8 (.b')] [0,1,2] .n' .n') .n'))
noncomputable def bbk(fu:Nat):=kf fu Tryz.func46 [ath fu,aoy fu] [.c',.p' 4 .b'] [.r' (.c'),.o' 0 4 .b'] (λx=>asz fu x.1 x.2) (.n')
noncomputable def ahe(fu:Nat):=kf fu Tryz.func45 [bbk fu] [.s',.f' 46 (.p' 4 .b')] [.r' (.s'),.o' 0 4 .b'] (λx=>adn fu x.1 x.2) (.s' .n' (.s' .n' (.j' [.w' 5 (.y'),.o' 1 0 (.b')] [] (.s' .n' (.l' [.w' 5 (.y'),.s' 12 (.i' .i64),.o' 1 0 (.b')] .n')) .n')))
noncomputable def mj(fu:Nat):=kf fu Tryz.func24 [aqc fu,xL fu,ath fu,age fu,ahe fu,bbk fu] [.s'] [.r' (.s'),.r' (.c')] (λx=>RL fu x) (.s' .n' (.s' (.j' [.s' 16 (.b')] [0,2,3] .n' .n') (.r' [] [] .n' (.s' .n' (.r' [] [] (.s' .n' (.l' [.s' 30 (.i' .i64)] .n')) .n')))))
noncomputable def oG(fu:Nat):=kf fu Tryz.func69 [] [.s'] [.r' (.i' .i64)] (λx=>tc fu x) (.s' .n' (.r' [] [] (.s' .n' (.l' [.s' 4 (.i' .i64)] .n')) .n'))
noncomputable def Nj(fu:Nat):=kf fu Tryz.func48 [oG fu] [.s'] [.r' (.b')] (λx=>apf fu x) (.s' .n' (.r' [] [] .n' (.s' .n' (.j' [.s' 2 (.b')] [0,1,2,6] .n' .n'))))
noncomputable def ams(fu:Nat):=kf fu Tryz.func52 [qT] [.s'] [.r' (.s')] (λx=>XK fu x) (.n')
noncomputable def agm(fu:Nat):=kf fu Tryz.func86 [ark fu] [.p' 152 (.pr (.w' .s') (.i' .i64))] [.o' 0 152 (.pr (.w' .s') (.i' .i64))] (λx=>ab fu x) (.n')
noncomputable def akc(fu:Nat):=kf fu Tryz.func87 [] [.p' 152 (.pr (.w' .s') (.i' .i64))] [.r' (.b')] (λx=>tj fu x) (.n')
noncomputable def ng(fu:Nat):=kf fu Tryz.func88 [akc fu] [.p' 152 (.pr (.w' .s') (.i' .i64)),.c'] [.r' (.b')] (λx=>Ir fu x.1 x.2) (.s' .n' (.j' [.s' 4 (.b')] [] .n' .n'))
noncomputable def rP(fu:Nat):=kf fu Tryz.func163 [] [.c'] [.r' (.b')] (λx=>anb fu x) (.s' .n' (.j' [.s' 2 (.b')] [0,1,2,6] .n' .n'))
noncomputable def axj(fu:Nat):=kf fu Tryz.func116 [arj fu,rP fu] [.s',.i' .i64] [.r' (.s'),.r' (.i' .i64),.r' (.c')] (λx=>anu fu x.1 x.2) (.s' .n' (.s' (.j' [.s' 17 (.b')] [0,1,2] .n' .n') (.s' (.j' [.s' 27 (.b')] [0,1,3,4] .n' .n') (.s' .n' (.s' .n' (.s' .n' (.r' [.s' 7 (.l' 5 1 .c'),.s' 8 (.i' .i64)] [] (.l' [.s' 7 (.l' 5 1 .c'),.s' 8 (.i' .i64)] .n') .n')))))))
noncomputable def ayc(fu:Nat):=kf fu Tryz.func142 [agm fu,ng fu,axj fu] [.p' 152 (.pr (.w' .s') (.i' .i64)),.p' 119 (.pr .s' (.pr (.pr .s' (.pr .s' (.pr .s' (.pr (.i' .i64) (.pr eU eU))))) eU))] [.r' (.i' .i64),.r' (.c'),.o' 0 152 (.pr (.w' .s') (.i' .i64)),.o' 1 119 (.pr .s' (.pr (.pr .s' (.pr .s' (.pr .s' (.pr (.i' .i64) (.pr eU eU))))) eU))] (λx=>aho fu x.1 x.2) (.n')
noncomputable def auo(fu:Nat):=kf fu Tryz.func129 [arq fu] [.p' 152 (.pr (.w' .s') (.i' .i64))] [.r' (.s'),.o' 0 152 (.pr (.w' .s') (.i' .i64))] (λx=>afr fu x) (.n')
noncomputable def aze(fu:Nat):=kf fu Tryz.func144 [ayy,agm fu,ng fu,auo fu] [.p' 152 (.pr (.w' .s') (.i' .i64)),.p' 119 (.pr .s' (.pr (.pr .s' (.pr .s' (.pr .s' (.pr (.i' .i64) (.pr eU eU))))) eU))] [.r' (.i' .i64),.r' (.c'),.o' 0 152 (.pr (.w' .s') (.i' .i64)),.o' 1 119 (.pr .s' (.pr (.pr .s' (.pr .s' (.pr .s' (.pr (.i' .i64) (.pr eU eU))))) eU))] (λx=>aed fu x.1 x.2) (.s' .n' (.s' .n' (.r' [.s' 6 (.l' 9 16 .s'),.o' 0 0 (.s'),.o' 0 1 (.i' .i64)] [] (.l' [.s' 6 (.l' 9 16 .s'),.o' 0 0 (.s'),.o' 0 1 (.i' .i64)] .n') .n')))
noncomputable def aja(fu:Nat):=kf fu Tryz.func130 [atg] [.w' .s',.i' .i64,.s'] [.r' (.i' .i64)] (λx=>AS fu x.1 x.2.1 x.2.2) (.n')
noncomputable def mq(fu:Nat):=kf fu Tryz.func128 [] [.s'] [.r' (.s')] (λx=>WI fu x) (.s' .n' (.s' .n' (.j' [.w' 3 (.y')] [] (.s' .n' (.l' [.w' 3 (.y'),.s' 10 (.i' .i64)] (.s' .n' (.s' .n' (.s' (.s' .n' (.j' [.s' 20 (.b')] [0,1,2] .n' .n')) .n'))))) .n')))
noncomputable def bbm(fu:Nat):=kf fu Tryz.func191 [] [.c'] [.r' (.b')] (λx=>alq fu x) (.s' .n' (.j' [.s' 2 (.b')] [0,1,2,6,14] .n' .n'))
noncomputable def apt(fu:Nat):=kf fu Tryz.func189 [] [.c'] [.r' (.b')] (λx=>XM fu x) (.s' .n' (.j' [.s' 2 (.b')] [0,1,2,6] .n' .n'))
noncomputable def bae(fu:Nat):=kf fu Tryz.func182 [ajw,apt fu,bbm fu] [.c',.i' .i64] [.r' (.b')] (λx=>aom fu x.1 x.2) (.s' .n' (.s' (.j' [.s' 15 (.b')] [0,2,6] .n' .n') (.j' [.s' 4 (.b')] [0,1,2,6,14] .n' .n')))
noncomputable def azc(fu:Nat):=kf fu Tryz.func204 [apt fu] [.c'] [.r' (.c'),.r' (.b')] (λx=>tf fu x) (.s' .n' (.s' (.s' .n' (.s' .n' (.j' [.s' 9 (.b')] [0,1,2,6] .n' (.s' .n' (.j' [.s' 19 (.b')] [0,1,2,6] .n' .n'))))) .n'))
noncomputable def azd(fu:Nat):=kf fu Tryz.func216 [azc fu] [.s',.i' .i64] [.r' (.c'),.r' (.b')] (λx=>aml fu x.1 x.2) (.s' .n' (.s' (.j' [.s' 20 (.b')] [0,1,2,4,5] .n' .n') (.s' .n' (.s' .n' (.j' [.s' 5 (.b')] [0,1,2,3,4,5,8,9] .n' .n')))))
noncomputable def baf(fu:Nat):=kf fu Tryz.func201 [] [.c'] [.r' (.b')] (λx=>asc fu x) (.s' .n' (.j' [.s' 2 (.b')] [0,1,2,6,10] .n' .n'))
noncomputable def aun(fu:Nat):=kf fu Tryz.func209 [bae fu,baf fu,azd fu] [.p' 152 (.pr (.w' .s') (.i' .i64)),.i' .i64,.i' .i64] [.r' (.i' .i64),.r' (.b')] (λx=>afq fu x.1 x.2.1 x.2.2) (.s' .n' (.r' [] [] (.s' .n' (.l' [.s' 8 (.i' .i64)] (.s' .n' (.s' (.s' .n' (.s' .n' (.s' (.j' [.s' 46 (.b')] [0,1,2] .n' .n') .n'))) .n')))) .n'))
noncomputable def vQ(fu:Nat):=kf fu Tryz.func217 [azd fu] [.s'] [.r' (.s'),.r' (.i' .i64),.r' (.c')] (λx=>avi fu x) (.s' .n' (.s' .n' (.r' [.s' 5 (.l' 5 1 .c')] [] (.s' .n' (.l' [.s' 5 (.l' 5 1 .c'),.s' 6 (.i' .i64)] .n')) .n')))
noncomputable def bag(fu:Nat):=kf fu Tryz.func210 [vQ fu] [.s'] [.r' (.s')] (λx=>akr fu x) (.n')
noncomputable def tA(fu:Nat):=kf fu Tryz.func187 [mq fu,oD,azc fu,vN] [.s'] [.r' (.l' 9 16 .s'),.r' (.b')] (λx=>agi fu x) (.s' .n' (.s' .n' (.r' [.w' 4 (.l' 9 16 .s')] [] (.s' .n' (.l' [.w' 4 (.l' 9 16 .s'),.s' 14 (.i' .i64)] (.s' .n' (.s' .n' (.r' [.w' 4 (.l' 9 16 .s')] [] (.s' .n' (.s' (.j' [.s' 26 (.b')] [0,2,3] .n' .n') (.r' [] [] (.s' .n' (.l' [.s' 29 (.i' .i64)] .n')) .n'))) .n'))))) .n')))
noncomputable def Ay(fu:Nat):=kf fu Tryz.func157 [ayy,bas,tA fu] [.s'] [.r' (.s'),.r' (.b')] (λx=>atb fu x) (.s' .n' (.s' .n' (.s' .n' (.s' (.s' .n' (.s' (.s' .n' (.j' [.s' 2 (.s'),.s' 3 (.b')] [0,2,3,8,9] .n' .n')) .n')) (.s' .n' (.s' .n' (.j' [.s' 9 (.l' 9 16 .s'),.s' 11 (.b')] [] .n' (.j' [.s' 10 (.l' 9 16 .s'),.s' 12 (.b')] [] .n' (.s' (.j' [.s' 64 (.b')] [0,1,2,6] .n' .n') .n')))))))))
noncomputable def xP(fu:Nat):=kf fu Tryz.func158 [auh,oD,apt fu] [.s'] [.r' (.b')] (λx=>asa fu x) (.s' .n' (.s' .n' (.s' .n' (.r' [] [] (.s' .n' (.l' [.s' 15 (.i' .i64)] (.s' .n' (.s' .n' (.r' [] [] (.s' .n' (.s' .n' (.r' [.s' 6 (.i' .i64)] [] (.s' .n' (.l' [.s' 6 (.i' .i64),.s' 21 (.i' .i64)] .n')) (.j' [.s' 49 (.b')] [0,1,2,6] .n' .n')))) .n'))))) .n'))))
theorem rb:Go.Wk.Enters Tryz.prog 55:=⟨Tryz.f55,_,Tryz.func55,rfl,by kernel_rfl⟩
theorem Q8:Go.Wk.Enters Tryz.prog 189:=⟨Tryz.f189,_,Tryz.func189,rfl,by kernel_rfl⟩
theorem zn:Go.Wk.Enters Tryz.prog 190:=⟨Tryz.f190,_,Tryz.func190,rfl,by kernel_rfl⟩
theorem zm:Go.Wk.Enters Tryz.prog 191:=⟨Tryz.f191,_,Tryz.func191,rfl,by kernel_rfl⟩
theorem zj:Go.Wk.Enters Tryz.prog 207:=⟨Tryz.f207,_,Tryz.func207,rfl,by kernel_rfl⟩
theorem zh:Go.Wk.Enters Tryz.prog 215:=⟨Tryz.f215,_,Tryz.func215,rfl,by kernel_rfl⟩
variable {fu:Nat}{f:UInt8}{r:Bool}{w:ν}
theorem bca(d:XM fu f=δ r)(a:Gl w):CR Tryz.prog 189 [bt f] w λv c=>v=.bool r/\Hp w [] [] c:=
 XF (x:=f) (y:=r) (apt fu).ok (λx=>[bt x]) _ ⟨a,λb e=>by cases e⟩ d
theorem yJ(d:alq fu f=δ r)(a:Gl w):CR Tryz.prog 191 [bt f] w λv c=>v=.bool r/\Hp w [] [] c:=
 XF (x:=f) (y:=r) (bbm fu).ok (λx=>[bt x]) _ ⟨a,λb e=>by cases e⟩ d
variable {a q:aC}{d:Int}{b:(aC×aC×Int)}
theorem tV(h:aqo fu a q d=δ b)(r:Gl w):CR Tryz.prog 207 [(str a),(str q),(υ .i64 d)] w λv w'=>∃(l:Nat),∃(c:Nat),∃(k:Nat),v=(Γ (.func 215) #[] #[(ς (cQ l)),(ς (cQ c)),(ς (cQ k))])/\Hp w [] [aS l [(str b.1)] 9,aS c [(str b.2.1)] 9,aS k [(υ .i64 b.2.2)] 3] w':=by have m:=Hp.refl w;refine enter Tryz.func207 rfl rfl (bH rfl) ?_;unfold aqo at h;refine sr (iQ m [(str a)] 9 (λs=>(ς (cQ s))) rfl rfl aF λc p g=>iQ g [(str q)] 9 (λs=>(ς (cQ s))) rfl rfl aF λj o f=>iQ f [(υ .i64 d)] 3 (λs=>(ς (cQ s))) rfl rfl aF λi n e=>wp 1 (nq (sr ?_)));refine wp 2 (nq (ct ?_));obtain rfl:=oi h;refine nR (Γ (.func 215) #[] #[(ς (cQ j)),(ς (cQ c)),(ς (cQ i))]) rfl aF ?_;exact⟨j,c,i,iP,(Hp.front (Hp.front e 2 _ rfl) 2 _ rfl).kp⟩
theorem tW(c:aqp fu a q=δ b)(o:Gl w):CR Tryz.prog 190 [(str a),(str q)] w λv w'=>∃(m:Nat),∃(l:Nat),∃(k:Nat),v=(Γ (.func 215) #[] #[(ς (cQ m)),(ς (cQ l)),(ς (cQ k))])/\Hp w [] [aS m [(str b.1)] 9,aS l [(str b.2.1)] 9,aS k [(υ .i64 b.2.2)] 3] w':=by have j:=Hp.refl w;refine enter Tryz.func190 rfl rfl (bH rfl) ?_;unfold aqp at c;refine sr (wp 1 (nq (sr (wp 2 (bi c λd e c=>pA 207 #[] [(str a),(str q),(υ .i64 _)] _ zj aF aF (tV e (o.iJ j)) ?_)))));rintro _ n ⟨i,h,g,rfl,r⟩;have f:Hp w [] (X7 i d.1 h d.2.1 g d.2.2) n:=Hp.dL (L1:=[]) (L2:=[]) j r;clear r;refine wp 1 (nq (ct ?_));obtain rfl:=oi c;refine nR (Γ (.func 215) #[] #[(ς (cQ i)),(ς (cQ h)),(ς (cQ g))]) rfl aF ?_;exact⟨i,h,g,iP,(Hp.front (Hp.front (Hp.front f 2 _ rfl) 2 _ rfl) 2 _ rfl).kp⟩
theorem arc{s:Bool}(g:Nat)(j:Loop)(m:Nat)(l:Nat)(n:Nat)(i:Nat)(c:Nat){t:(Bool×Bool×aC×Nat)}(J:adi fu r s a q d=δ t)(hG:Gl w)(hM:Hp w (dE [cH g 0 j,aS m [(ι r)] 4,aS l [(ι s)] 4,aS n [(str a)] 9,aS i [(str q)] 9,aS c [(υ .i64 d)] 3]) [cH g 0 j,aS m [(ι r)] 4,aS l [(ι s)] 4,aS n [(str a)] 9,aS i [(str q)] 9,aS c [(υ .i64 d)] 3] w)(hS:∀b∈dE [cH g 0 j,aS m [(ι r)] 4,aS l [(ι s)] 4,aS n [(str a)] 9,aS i [(str q)] 9,aS c [(υ .i64 d)] 3],9<=b)(X:∀(T:aC) (S:Bool) (R:Bool) (w_:ν),Hp w (dE [cH g 0 j,aS m [(ι r)] 4,aS l [(ι s)] 4,aS n [(str a)] 9,aS i [(str q)] 9,aS c [(υ .i64 d)] 3]) [cH g 0 j,aS m [(ι S)] 4,aS l [(ι R)] 4] w_->∀(yr:(Nat×Bool×Bool)),mx fu T S R=δ yr->YR Tryz.prog g [(str T)] w_ λv c2=>v=ι (decide (yr.1=0))/\Hp w_ (dE [cH g 0 j,aS m [(ι S)] 4,aS l [(ι R)] 4]) [cH g yr.1 j,aS m [(ι yr.2.1)] 4,aS l [(ι yr.2.2)] 4] c2):CR Tryz.prog 215 [(Γ (.yield g) #[] #[]),(ς (cQ n)),(ς (cQ i)),(ς (cQ c))] w λv w'=>v=(Value.tuple #[])/\Hp w (dE [cH g 0 j,aS m [(ι r)] 4,aS l [(ι s)] 4,aS n [(str a)] 9,aS i [(str q)] 9,aS c [(υ .i64 d)] 3]) [aS m [(ι t.1)] 4,aS l [(ι t.2.1)] 4,aS n [(str a)] 9,aS i [(str t.2.2.1)] 9,aS c [(υ .i64 d)] 3,cH g t.2.2.2 j] w':=by
 have hH:Hp w (dE [cH g 0 j,aS m [(ι r)] 4,aS l [(ι s)] 4,aS n [(str a)] 9,aS i [(str q)] 9,aS c [(υ .i64 d)] 3]) [cH g 0 j,aS m [(ι r)] 4,aS l [(ι s)] 4,aS n [(str a)] 9,aS i [(str q)] 9,aS c [(υ .i64 d)] 3] w:=hM;refine KQ (k:=52) Tryz.func215 rfl rfl (bH rfl) ?_;unfold adi at J;refine bi J λc5 z J=>KY hH c5 [0,1,2,3] (λc4=>[]) ?_ ?_;refine sr (iD hH 3 n 0 _ 9 _ rfl rfl aF aF (wp 2 (nq (cd z (λc7 z=> ?_) (λc7 z=> ?_)))));refine bi z λd2 b2 z=>lC hH [0,1,2,3] [] ?_ ?_;refine ce (Z6 (λW (_:Unit)=>acu fu q W) () hH b2 [0,1,2,3] (λ(_:Unit)=>[]) (λ_=>rfl) ?_);rintro W _ d1 G V B;rw [aos,aef]at B;refine cs (sr (iD V 4 i 0 _ 9 _ rfl rfl aF aF (wp 2 (nq (cd B (λc6 B=> ?_) (λc6 B=> ?_))))));exact absurd B aA2;refine Ch (yV (Ci (Cg (ql ?_))));obtain rfl:=oi B;exact je (Hp.front (Hp.front (Hp.front (Hp.front (Hp.front (Hp.front V 5 _ rfl) 5 _ rfl) 5 _ rfl) 5 _ rfl) 5 _ rfl) 5 _ rfl).kp;intro d0 G b4;refine ct (kW ?_);obtain rfl:=oi z;obtain rfl:=oi J;refine xD rfl ?_;exact⟨iP,(Hp.front (Hp.front (Hp.front (Hp.front (Hp.front b4 5 _ rfl) 5 _ rfl) 5 _ rfl) 5 _ rfl) 5 _ rfl).kp⟩;refine ck (ql ?_);obtain rfl:=oi z;exact qe rfl (Hp.front (Hp.front (Hp.front (Hp.front (Hp.front (Hp.front hH 5 _ rfl) 5 _ rfl) 5 _ rfl) 5 _ rfl) 5 _ rfl) 5 _ rfl).kp;rintro c4 c9 G b3 rfl;refine bi J λU a0 J=>cut (σ:=(Bool×Bool×aC)) [0,2] (λh=>[]) (λh w'=>Hp w (dE [cH g 0 j,aS m [(ι r)] 4,aS l [(ι s)] 4,aS n [(str a)] 9,aS i [(str q)] 9,aS c [(υ .i64 d)] 3]) [cH g 0 j,aS m [(ι h.1)] 4,aS l [(ι h.2.1)] 4,aS n [(str a)] 9,aS i [(str h.2.2)] 9,aS c [(υ .i64 d)] 3] w'/\.inl h=U) ?_ ?_;refine ce (Yx (σ:=Nat×Bool×Bool×aC) [0,1,2,3] (λ⟨x,p,o,f⟩=>[]) (λ⟨x,p,o,f⟩ w'=>Hp w (dE [cH g 0 j,aS m [(ι r)] 4,aS l [(ι s)] 4,aS n [(str a)] 9,aS i [(str q)] 9,aS c [(υ .i64 d)] 3]) [cH g 0 j,aS m [(ι p)] 4,aS l [(ι o)] 4,aS n [(str a)] 9,aS i [(str f)] 9,aS c [(υ .i64 d)] 3] w'/\abw fu a d x p o f=δ U) (λ⟨x,p,o,f⟩=>x) (fu,r,s,q) (by exact⟨(Hp.front (Hp.front (Hp.front (Hp.front (Hp.front (Hp.front b3 5 _ rfl) 5 _ rfl) 5 _ rfl) 5 _ rfl) 5 _ rfl) 5 _ rfl).kp,a0⟩) ?_);rintro⟨_|x,p,o,f⟩ b1 G ⟨D,e⟩
 ·exact absurd (show ε=δ _ from e) aA2
 rw [aea,abu]at e;refine ce (sr (iD D 4 i 0 _ 9 _ rfl rfl aF aF (iD D 3 n 0 _ 9 _ rfl rfl aF aF (gi e λc1 e=>pA 55 #[] [(str f),(str a)] _ rb aF aF (Lm f a b1 c1 (hG.hp D hS)) ?_))));rintro _ F ⟨rfl,N⟩;have C:=D.call N;clear N;refine wp 1 (nq (cs (sr (wp 2 (nq (cd e (λb6 e=> ?_) (λb6 e=> ?_)))))));refine Ch (yV (LK aF (Ci (Cg (ql ?_)))));obtain rfl:=oi e;exact⟨(p,o,f),_,rfl,by kernel_rfl,(Hp.front (Hp.front (Hp.front (Hp.front (Hp.front (Hp.front C 5 _ rfl) 5 _ rfl) 5 _ rfl) 5 _ rfl) 5 _ rfl) 5 _ rfl).kp,rfl⟩;refine ck (qn (sr (iD C 4 i 0 _ 9 _ rfl rfl aF aF (wp 1 (iD C 5 c 0 _ 3 _ rfl rfl aF aF (gi e λc0 e=>vH (Lib.index f a) d aF aF c0 (gi e λb9 e=> ?_)))))));refine IT f .i64 ((Lib.index f a)+d) Tryz.underlying9 aF aF b9 (wp 1 (nq (cs (sr (wp 2 (bi e λu Z e=> ?_))))));have a5:Hp w (dE [cH g 0 j,aS m [(ι r)] 4,aS l [(ι s)] 4,aS n [(str a)] 9,aS i [(str q)] 9,aS c [(υ .i64 d)] 3]) [aS l [(ι o)] 4,cH g 0 j,aS m [(ι p)] 4,aS n [(str a)] 9,aS i [(str f)] 9,aS c [(υ .i64 d)] 3] F:=C.front 2 _ rfl;have a4:Hp w (dE [cH g 0 j,aS m [(ι r)] 4,aS l [(ι s)] 4,aS n [(str a)] 9,aS i [(str q)] 9,aS c [(υ .i64 d)] 3]) [aS m [(ι p)] 4,aS l [(ι o)] 4,cH g 0 j,aS n [(str a)] 9,aS i [(str f)] 9,aS c [(υ .i64 d)] 3] F:=a5.front 2 _ rfl;have Q:Hp w (dE [cH g 0 j,aS m [(ι r)] 4,aS l [(ι s)] 4,aS n [(str a)] 9,aS i [(str q)] 9,aS c [(υ .i64 d)] 3]) [cH g 0 j,aS m [(ι p)] 4,aS l [(ι o)] 4,aS n [(str a)] 9,aS i [(str f)] 9,aS c [(υ .i64 d)] 3] F:=a4.front 2 _ rfl;have a7:Hp w (dE [cH g 0 j,aS m [(ι r)] 4,aS l [(ι s)] 4,aS n [(str a)] 9,aS i [(str q)] 9,aS c [(υ .i64 d)] 3]) [cH g 0 j,aS m [(ι p)] 4,aS l [(ι o)] 4] F:=Hp.Ze (L1:=[cH g 0 j,aS m [(ι p)] 4,aS l [(ι o)] 4]) (L2:=(X7 n a i f c d)) Q;refine zF g _ _ aF aF (X (List.take (Int.toNat ((Lib.index f a)+d)) f) p o F a7 u Z) ?_;rintro _ b0 ⟨rfl,M⟩;have A:Hp w (dE [cH g 0 j,aS m [(ι r)] 4,aS l [(ι s)] 4,aS n [(str a)] 9,aS i [(str q)] 9,aS c [(υ .i64 d)] 3]) [cH g u.1 j,aS m [(ι u.2.1)] 4,aS l [(ι u.2.2)] 4,aS n [(str a)] 9,aS i [(str f)] 9,aS c [(υ .i64 d)] 3] b0:=Hp.dL (L1:=[cH g 0 j,aS m [(ι p)] 4,aS l [(ι o)] 4]) (L2:=(X7 n a i f c d)) Q M;clear M;by_cases I:u.1=0;replace e:=HV I e;rw [I]at A;rw [show decide (u.1=0)=ζ from(aK I)];refine wp 1 (nq (lh aF (ck (qn (cr (iD A 4 i 0 _ 9 _ rfl rfl aF aF (wp 1 (iD A 3 n 0 _ 9 _ rfl rfl aF aF ?_))))))));refine wp 1 (gi e λb8 e=>vH (Lib.index f a) _ aF aF b8 (gi e λb7 e=>pL f .i64 ((Lib.index f a)+(γ a:Int)) Tryz.underlying9 aF aF b7 (Sp A 4 i 0 _ 9 (str (List.drop (Int.toNat ((Lib.index f a)+(γ a:Int))) f)) _ rfl (cP (cI _) (bH rfl)) aF aF rfl aF rfl λc8 a3=>wl (bn (ql ?_)))));exact⟨(x,u.2.1,u.2.2,List.drop (Int.toNat ((Lib.index f a)+(γ a:Int))) f),_,rfl,by kernel_rfl,⟨(Hp.front (Hp.front (Hp.front (Hp.front (Hp.front (Hp.front a3 5 _ rfl) 5 _ rfl) 5 _ rfl) 5 _ rfl) 5 _ rfl) 5 _ rfl).kp,e⟩,cI _⟩;replace e:=HW I e;rw [show decide (u.1=0)=η from(aL I)];refine wp 1 (nq (tP aF (ct (st (gU (kW (gU (kW ?_))))))));obtain rfl:=oi e;obtain rfl:=oi J;refine xD rfl ?_;exact⟨iP,(Hp.front (Hp.front (Hp.front (Hp.front (Hp.front A 5 _ rfl) 5 _ rfl) 5 _ rfl) 5 _ rfl) 5 _ rfl).kp⟩;rintro h E G ⟨P,rfl⟩;refine cr (wp 1 (iD P 4 i 0 _ 9 _ rfl rfl aF aF (bi J λy Y J=> ?_)));have a2:Hp w (dE [cH g 0 j,aS m [(ι r)] 4,aS l [(ι s)] 4,aS n [(str a)] 9,aS i [(str q)] 9,aS c [(υ .i64 d)] 3]) [aS l [(ι h.2.1)] 4,cH g 0 j,aS m [(ι h.1)] 4,aS n [(str a)] 9,aS i [(str h.2.2)] 9,aS c [(υ .i64 d)] 3] E:=P.front 2 _ rfl;have a1:Hp w (dE [cH g 0 j,aS m [(ι r)] 4,aS l [(ι s)] 4,aS n [(str a)] 9,aS i [(str q)] 9,aS c [(υ .i64 d)] 3]) [aS m [(ι h.1)] 4,aS l [(ι h.2.1)] 4,cH g 0 j,aS n [(str a)] 9,aS i [(str h.2.2)] 9,aS c [(υ .i64 d)] 3] E:=a2.front 2 _ rfl;have O:Hp w (dE [cH g 0 j,aS m [(ι r)] 4,aS l [(ι s)] 4,aS n [(str a)] 9,aS i [(str q)] 9,aS c [(υ .i64 d)] 3]) [cH g 0 j,aS m [(ι h.1)] 4,aS l [(ι h.2.1)] 4,aS n [(str a)] 9,aS i [(str h.2.2)] 9,aS c [(υ .i64 d)] 3] E:=a1.front 2 _ rfl;have a6:Hp w (dE [cH g 0 j,aS m [(ι r)] 4,aS l [(ι s)] 4,aS n [(str a)] 9,aS i [(str q)] 9,aS c [(υ .i64 d)] 3]) [cH g 0 j,aS m [(ι h.1)] 4,aS l [(ι h.2.1)] 4] E:=Hp.Ze (L1:=[cH g 0 j,aS m [(ι h.1)] 4,aS l [(ι h.2.1)] 4]) (L2:=(X7 n a i h.2.2 c d)) O;refine zF g _ _ aF aF (X h.2.2 h.1 h.2.1 E a6 y Y) ?_;rintro _ a9 ⟨rfl,L⟩;have K:Hp w (dE [cH g 0 j,aS m [(ι r)] 4,aS l [(ι s)] 4,aS n [(str a)] 9,aS i [(str q)] 9,aS c [(υ .i64 d)] 3]) [cH g y.1 j,aS m [(ι y.2.1)] 4,aS l [(ι y.2.2)] 4,aS n [(str a)] 9,aS i [(str h.2.2)] 9,aS c [(υ .i64 d)] 3] a9:=Hp.dL (L1:=[cH g 0 j,aS m [(ι h.1)] 4,aS l [(ι h.2.1)] 4]) (L2:=(X7 n a i h.2.2 c d)) O L;clear L;by_cases H:y.1=0;replace J:=HV H J;rw [H]at K;rw [show decide (y.1=0)=ζ from(aK H)];refine wl ?_;obtain rfl:=oi J;refine uN rfl ?_;exact⟨iP,(Hp.front (Hp.front (Hp.front (Hp.front (Hp.front K 5 _ rfl) 5 _ rfl) 5 _ rfl) 5 _ rfl) 5 _ rfl).kp⟩;replace J:=HW H J;rw [show decide (y.1=0)=η from(aL H)];refine wl ?_;obtain rfl:=oi J;refine uN rfl ?_;exact⟨iP,(Hp.front (Hp.front (Hp.front (Hp.front (Hp.front K 5 _ rfl) 5 _ rfl) 5 _ rfl) 5 _ rfl) 5 _ rfl).kp⟩
theorem Cs(D:aol fu a=δ r)(U:Gl w):CR Tryz.prog 159 [(str a)] w λv w'=>v=(ι r)/\Hp w [] [] w':=by
 have hH:Hp w [] [] w:=Hp.refl w;refine KP (k:=67) Tryz.func159 rfl rfl (bH rfl) ?_;unfold aol at D;refine sr (iQ hH [(ι η)] 4 (λb=>(ς (cQ b))) rfl rfl aF λu w2 c6=>nq (cs (bi D λv8 N D=>lC c6 [0,2,14] [(14,(ι v8))] ?_ ?_)));refine cr (wp 3 (wd N (λh9 N=> ?_) (λh9 N=> ?_)));refine wp 4 (wl (ql ?_));obtain rfl:=oi N;exact je c6.kp;refine wp 4 (wl (ql ?_));obtain rfl:=oi N;exact je c6.kp;intro i1 G a0;refine cb D (λf8 D=> ?_) (λf8 D=> ?_);refine sr (Sp a0 0 u 0 _ 4 (ι η) _ rfl (cP (cI _) (bH rfl)) aF aF rfl aF rfl λi0 Z=>nq (ct (st ?_)));obtain rfl:=oi D;refine Mz _ [(ι η)] (ι η) rfl rfl (lD (Xy Z 0 u 4 (ι η) rfl aF aF) Rb) rfl ?_;exact⟨iP,Z.kp⟩;refine ck (qn (sr (iQ a0 [(ι η)] 4 (λb=>(ς (cQ b))) rfl rfl aF λg h8 d6=>Sp d6 0 g 0 _ 4 (ι η) _ rfl (cP (cI _) (bH rfl)) aF aF rfl aF rfl λh7 Y=>nq (cs (cs ?_)))));refine cr (wp 1 (bi D λc d4 D=>pA 190 #[] [(str a),(str ([46]:aC))] _ zn aF aF (tW d4 (U.iJ Y)) ?_));rintro _ f6 ⟨s,q,p,rfl,X⟩
 have d5:Hp w [] [aS s [(str c.1)] 9,aS q [(str c.2.1)] 9,aS p [(υ .i64 c.2.2)] 3,aS g [(ι η)] 4,aS u [(ι η)] 4] f6:=Hp.dL (L1:=[]) (L2:=[aS g [(ι η)] 4,aS u [(ι η)] 4]) Y X;clear X;refine nq (ce (tQ d5 215 [(ς (cQ s)),(ς (cQ q)),(ς (cQ p))] aF zh λm l e z a9 a8 a7 a6 c9=>bi D λf a2 D=> ?_));have b8:Hp w [] [aS p [(υ .i64 c.2.2)] 3,cH l 0 e,Bt m,aS s [(str c.1)] 9,aS q [(str c.2.1)] 9,aS g [(ι η)] 4,aS u [(ι η)] 4] z:=c9.front 4 _ rfl;have b7:Hp w [] [aS q [(str c.2.1)] 9,aS p [(υ .i64 c.2.2)] 3,cH l 0 e,Bt m,aS s [(str c.1)] 9,aS g [(ι η)] 4,aS u [(ι η)] 4] z:=b8.front 4 _ rfl;have b6:Hp w [] [aS s [(str c.1)] 9,aS q [(str c.2.1)] 9,aS p [(υ .i64 c.2.2)] 3,cH l 0 e,Bt m,aS g [(ι η)] 4,aS u [(ι η)] 4] z:=b7.front 4 _ rfl;have b5:Hp w [] [aS u [(ι η)] 4,aS s [(str c.1)] 9,aS q [(str c.2.1)] 9,aS p [(υ .i64 c.2.2)] 3,cH l 0 e,Bt m,aS g [(ι η)] 4] z:=b6.front 6 _ rfl;have b4:Hp w [] [aS g [(ι η)] 4,aS u [(ι η)] 4,aS s [(str c.1)] 9,aS q [(str c.2.1)] 9,aS p [(υ .i64 c.2.2)] 3,cH l 0 e,Bt m] z:=b5.front 6 _ rfl;have A:Hp w [] [cH l 0 e,aS g [(ι η)] 4,aS u [(ι η)] 4,aS s [(str c.1)] 9,aS q [(str c.2.1)] 9,aS p [(υ .i64 c.2.2)] 3,Bt m] z:=b4.front 5 _ rfl;have f3:∀(n:aC) (t:Bool) (o:Bool) (w_:ν),Hp z (dE [cH l 0 e,aS g [(ι η)] 4,aS u [(ι η)] 4,aS s [(str c.1)] 9,aS q [(str c.2.1)] 9,aS p [(υ .i64 c.2.2)] 3]) [cH l 0 e,aS g [(ι t)] 4,aS u [(ι o)] 4] w_->∀(yr:(Nat×Bool×Bool)),mx fu n t o=δ yr->YR Tryz.prog l [(str n)] w_ λv f4=>v=ι (decide (yr.1=0))/\Hp w_ (dE [cH l 0 e,aS g [(ι t)] 4,aS u [(ι o)] 4]) [cH l yr.1 e,aS g [(ι yr.2.1)] 4,aS u [(ι yr.2.2)] 4] f4:=by
  intro n t o M F yr H;have R:=Hp.dL (L1:=[cH l 0 e,aS g [(ι η)] 4,aS u [(ι η)] 4,aS s [(str c.1)] 9,aS q [(str c.2.1)] 9,aS p [(υ .i64 c.2.2)] 3]) (L2:=[Bt m]) A F;have d7:=U;replace U:=U.iJ R;have b0:=Hp.qW R d7 (λ_ h=>absurd h aA2) 3 rfl;unfold mx at H;refine Kh (Hp.hand (L1:=[cH l 0 e,aS g [(ι t)] 4,aS u [(ι o)] 4]) (L2:=[]) (by simpa using F)) 0 rfl a9 a8 a7 a6 rfl ?_;have hH:Hp M (dE [cH l 0 e,aS g [(ι t)] 4,aS u [(ι o)] 4]) [cH l 0 e,aS g [(ι t)] 4,aS u [(ι o)] 4] M:=Hp.hand (L1:=[cH l 0 e,aS g [(ι t)] 4,aS u [(ι o)] 4]) (L2:=[]) (by simpa using F);clear R F;refine cr (wp 1 (wl (Py hH 0 rfl λh6 C=>ce (cs (bi H λd3 d H=>lC C [2,3,4,38] [(38,(ι d3))] ?_ ?_)))));refine cr (wp 3 (wd d (λe6 d=> ?_) (λe6 d=> ?_)));refine wp 17 (wl (ql ?_));obtain rfl:=oi d;exact je (Hp.front (Hp.front (Hp.front C 2 _ rfl) 2 _ rfl) 2 _ rfl).kp;refine wp 4 (wd d (λe5 d=> ?_) (λe5 d=> ?_));refine wp 12 (wl (ql ?_));obtain rfl:=oi d;exact je (Hp.front (Hp.front (Hp.front C 2 _ rfl) 2 _ rfl) 2 _ rfl).kp;refine wp 1 (gy 26 (gi d λf2 d=>uI n .i64 (0:Int) Tryz.underlying9 aF aF f2 (gy 26 (Dh (at_ n (0:Int)) (45:UInt8) aF aF (wp 1 (wd d (λe4 d=> ?_) (λe4 d=> ?_)))))));refine wp 7 (wl (ql ?_));obtain rfl:=oi d;exact je (Hp.front (Hp.front (Hp.front C 2 _ rfl) 2 _ rfl) 2 _ rfl).kp;refine wp 3 (gy 31 (gi d λf1 d=>Je (γ n:Int) (1:Int) aF aF f1 (gy 31 (gi d λf0 d=>uI n .i64 ((γ n:Int)-1) Tryz.underlying9 aF aF f0 (gy 31 (Dh (at_ n ((γ n:Int)-1)) (45:UInt8) aF aF (wp 1 ?_)))))));refine wl (ql ?_);obtain rfl:=oi d;exact je (Hp.front (Hp.front (Hp.front C 2 _ rfl) 2 _ rfl) 2 _ rfl).kp;intro h5 G Q;refine cb H (λe3 H=> ?_) (λe3 H=> ?_);refine sr (Sp Q 2 u 0 _ 4 (ι η) _ rfl (cP (cI _) (bH rfl)) aF aF rfl aF rfl λh4 c8=>nq (ct (st (gU ?_))));obtain rfl:=oi H;refine NS c8 0 rfl λh3 c7=> ?_;exact⟨aB8,(Hp.front (Hp.front (Hp.front c7 2 _ rfl) 2 _ rfl) 2 _ rfl).kp⟩;refine ck (qn (sr (wp 3 (nq (ce (Yx (σ:=Nat×Int×Bool) [2,3,4,40,41] (λ⟨x,j,y⟩=>[(41,(υ .i64 j))]) (λ⟨x,j,y⟩ w'=>Hp M (dE [cH l 0 e,aS g [(ι t)] 4,aS u [(ι o)] 4]) [Gz l e,aS g [(ι y)] 4,aS u [(ι o)] 4] w'/\nh fu n o x j y=δ yr) (λ⟨x,j,y⟩=>x) (fu,(0:Int),t) (by exact⟨(Hp.front (Hp.front (Hp.front Q 2 _ rfl) 2 _ rfl) 2 _ rfl).kp,H⟩) ?_))))));rintro⟨_|x,j,y⟩ h2 G ⟨E,a1⟩
  ·exact absurd (show ε=δ _ from a1) aA2
  rw [amv,ags]at a1;refine sr (wp 1 (nq (cs (cd a1 (λe2 a1=> ?_) (λe2 a1=> ?_)))));refine ck (qn (cs (ce (sr (wp 2 (nq (cs ?_)))))));refine cr (wp 2 (gi a1 λe9 a1=>uI n .i64 j Tryz.underlying9 aF aF e9 (wp 1 (nq (cs (bi a1 λd2 i a1=>lC E [2,3,4,6,40,41,58] [(58,(ι d2))] ?_ ?_))))));refine cr (wp 1 (bi i λg0 a5 i=>wc zm E (yJ a5 (U.hp E b0)) λh1 L=>wp 1 (wb i (λe1 i=> ?_) (λe1 i=> ?_))));refine wp 1 (gy 50 (bi i λf9 a4 i=>wc Q8 L (bca a4 (U.hp L b0)) λh0 P=>wp 2 (wb i (λe0 i=> ?_) (λe0 i=> ?_))));refine wp 1 (gy 55 (mV (at_ n j) (45:UInt8) aF aF (wp 1 (wl (ql ?_)))));obtain rfl:=oi i;exact je (Hp.front (Hp.front (Hp.front P 2 _ rfl) 2 _ rfl) 2 _ rfl).kp;refine wp 3 (wl (ql ?_));obtain rfl:=oi i;exact je (Hp.front (Hp.front (Hp.front P 2 _ rfl) 2 _ rfl) 2 _ rfl).kp;refine wp 8 (wl (ql ?_));obtain rfl:=oi i;exact je (Hp.front (Hp.front (Hp.front L 2 _ rfl) 2 _ rfl) 2 _ rfl).kp;intro g9 G B;refine cb a1 (λd9 a1=> ?_) (λd9 a1=> ?_);refine sr (Sp B 2 u 0 _ 4 (ι η) _ rfl (cP (cI _) (bH rfl)) aF aF rfl aF rfl λg8 c5=>nq (ct (st (gU (st (kW ?_))))));refine gU (gU ?_);obtain rfl:=oi a1;refine NS c5 0 rfl λg7 c4=> ?_;exact⟨aB8,(Hp.front (Hp.front (Hp.front c4 2 _ rfl) 2 _ rfl) 2 _ rfl).kp⟩;refine ck (qn (cr (iD B 1 g 0 _ 4 _ rfl rfl aF aF (wb a1 (λd8 a1=> ?_) (λd8 a1=> ?_)))));refine wp 4 (Sp B 1 g 0 _ 4 (ι ζ) _ rfl (cP (cI _) (bH rfl)) aF aF rfl aF rfl λg6 c3=>wl (bn (qn (cr (gi a1 λe8 a1=>vH j _ aF aF e8 (wp 1 (wl ?_)))))));refine ql ?_;exact⟨(x,j+1,ζ),_,rfl,by kernel_rfl,⟨(Hp.front (Hp.front (Hp.front c3 2 _ rfl) 2 _ rfl) 2 _ rfl).kp,a1⟩,cI _⟩;refine wp 1 (gy 60 (bi a1 λV a3 a1=>wc Q8 B (bca a3 (U.hp B b0)) λg5 c2=>wp 2 (Sp c2 1 g 0 _ 4 (ι (!V)) _ rfl (cP (cI _) (bH rfl)) aF aF rfl aF rfl λg4 c1=>wl (bn (qn (cr ?_))))));refine gi a1 λe7 a1=>vH j _ aF aF e7 (wp 1 (wl (ql ?_)));exact⟨(x,j+1,(!V)),_,rfl,by kernel_rfl,⟨(Hp.front (Hp.front (Hp.front c1 2 _ rfl) 2 _ rfl) 2 _ rfl).kp,a1⟩,cI _⟩;refine Ch (yV (Ci (Cg (bn ?_))));obtain rfl:=oi a1;refine pV E 0 rfl λg3 c0=> ?_;exact⟨aB8,(Hp.front (Hp.front (Hp.front c0 2 _ rfl) 2 _ rfl) 2 _ rfl).kp⟩
 refine CR.mono (arc l e g u s q p a2 (U.iJ A) (A.hand (L1:=[cH l 0 e,aS g [(ι η)] 4,aS u [(ι η)] 4,aS s [(str c.1)] 9,aS q [(str c.2.1)] 9,aS p [(υ .i64 c.2.2)] 3]) (L2:=[Bt m])) (A.qW U (λ_ h=>absurd h aA2) 6 rfl) f3) ?_;rintro _ W ⟨rfl,O⟩;have b9:Hp w [] [aS g [(ι f.1)] 4,aS u [(ι f.2.1)] 4,aS s [(str c.1)] 9,aS q [(str f.2.2.1)] 9,aS p [(υ .i64 c.2.2)] 3,cH l f.2.2.2 e,Bt m] W:=Hp.dL (L1:=[cH l 0 e,aS g [(ι η)] 4,aS u [(ι η)] 4,aS s [(str c.1)] 9,aS q [(str c.2.1)] 9,aS p [(υ .i64 c.2.2)] 3]) (L2:=[Bt m]) A O;clear O;have b3:Hp w [] [cH l f.2.2.2 e,aS g [(ι f.1)] 4,aS u [(ι f.2.1)] 4,aS s [(str c.1)] 9,aS q [(str f.2.2.1)] 9,aS p [(υ .i64 c.2.2)] 3,Bt m] W:=b9.front 5 _ rfl;refine⟨f.2.2.2,[aS g [(ι f.1)] 4,aS u [(ι f.2.1)] 4,aS s [(str c.1)] 9,aS q [(str f.2.2.1)] 9,aS p [(υ .i64 c.2.2)] 3,Bt m],b3, ?_⟩;intro g2 K;by_cases T:f.2.2.2=0;replace D:=HV T D;refine rg0 T (bn (qn (sr (iD K 0 g 0 _ 4 _ rfl rfl aF aF (Sp K 1 u 0 _ 4 (ι f.1) _ rfl (cP (cI _) (bH rfl)) aF aF rfl aF rfl λg1 b2=>nq (ct ?_))))));obtain rfl:=oi D;refine Yw b2 5 m rfl _ [(ι f.1)] (ι f.1) rfl rfl (λd1 J=>(lD (Xy J 1 u 4 (ι f.1) rfl aF aF) Rb)) rfl λd1 J=> ?_;exact⟨iP,J.kp⟩;replace D:=HW T D;by_cases S:f.2.2.2=1;replace D:=HV S D;refine rg1 S (ct (gU (st ?_)));obtain rfl:=oi D;refine Yw K 5 m rfl _ [(ι f.2.1)] (ι f.2.1) rfl rfl (λd0 I=>(lD (Xy I 1 u 4 (ι f.2.1) rfl aF aF) Rb)) rfl λd0 I=> ?_;exact⟨iP,I.kp⟩;replace D:=HW S D;exact absurd D aA2
noncomputable def Ey(fu:Nat):=kl Tryz.func159 ⟨[.s'],[.r' (.b')],λx=>.one (aol fu x)⟩ (WD (λx=>[str x]) (λy=>.bool y) λw S x y b a=>Cs a b.1)
noncomputable def anr(fu:Nat):=kf fu Tryz.func110 [mq fu,Ay fu,xP fu,Ey fu] [.s'] [.r' (.s'),.r' (.b')] (λx=>aa fu x) (.s' .n' (.s' (.j' [.s' 21 (.b')] [0,2,3,8] .n' .n') .n'))
noncomputable def aui(fu:Nat):=kf fu Tryz.func111 [] [.s'] [.r' (.i' .i64),.r' (.c')] (λx=>tb fu x) (.s' .n' (.s' (.j' [.s' 13 (.b')] [0,2,3] .n' .n') (.s' .n' (.r' [.s' 4 (.i' .i64)] [] (.s' .n' (.l' [.s' 4 (.i' .i64),.s' 16 (.i' .i64)] (.s' .n' (.s' .n' (.s' (.s' .n' (.s' (.j' [.s' 28 (.b')] [0,1,2,3,4] .n' .n') .n')) .n'))))) .n'))))
noncomputable def bck(fu:Nat):=kf fu Tryz.func198 [akc fu,ng fu,anr fu,aui fu,ajw,aja fu,aun fu,bag fu] [.p' 152 (.pr (.w' .s') (.i' .i64)),.p' 117 (.pr .s' (.pr .s' (.pr .s' (.pr (.i' .i64) (.pr eU eU)))))] [.r' (.i' .i64),.r' (.c'),.o' 0 152 (.pr (.w' .s') (.i' .i64)),.o' 1 117 (.pr .s' (.pr .s' (.pr .s' (.pr (.i' .i64) (.pr eU eU)))))] (λx=>ali fu x.1 x.2) (.s' .n' (.r' [.o' 0 1 (.i' .i64),.o' 1 1 (.s')] [] .n' (.s' .n' (.s' .n' (.j' [.s' 11 (.i' .i64)] [] .n' (.s' .n' (.s' .n' (.s' .n' (.s' (.s' .n' (.s' (.s' .n' (.s' .n' (.s' .n' (.j' [.s' 15 (.c')] [] (.j' [.s' 167 (.b')] [0,1,2] .n' .n') .n')))) .n')) (.s' (.j' [.s' 192 (.b')] [0,2,3,8] .n' .n') .n'))))))))))
noncomputable def bbo(fu:Nat):=kf fu Tryz.func199 [ng fu,aja fu,rO] [.p' 152 (.pr (.w' .s') (.i' .i64)),.p' 117 (.pr .s' (.pr .s' (.pr .s' (.pr (.i' .i64) (.pr eU eU)))))] [.r' (.i' .i64),.r' (.c'),.o' 0 152 (.pr (.w' .s') (.i' .i64)),.o' 1 117 (.pr .s' (.pr .s' (.pr .s' (.pr (.i' .i64) (.pr eU eU)))))] (λx=>akg fu x.1 x.2) (.s' .n' (.s' .n' (.s' .n' (.s' .n' (.s' .n' (.j' [.s' 8 (.l' 5 1 .c'),.o' 0 1 (.i' .i64)] [] .n' (.r' [.s' 8 (.l' 5 1 .c'),.o' 0 1 (.i' .i64)] [] (.l' [.s' 8 (.l' 5 1 .c'),.o' 0 1 (.i' .i64)] (.s' .n' (.r' [.s' 8 (.l' 5 1 .c')] [] (.s' .n' (.j' [.s' 58 (.b')] [] (.j' [.s' 58 (.b')] [0,1,2,6] .n' .n') (.s' .n' (.j' [.s' 79 (.b')] [0,1,2,6,10,14] .n' .n')))) .n'))) .n')))))))
noncomputable def aum(fu:Nat):=kf fu Tryz.func170 [] [.pr .s' (.pr .s' .b'),.p' 9 .s'] [.r' (.b')] (λx=>asb fu x.1 x.2) (.n')
noncomputable def aid(fu:Nat):=kf fu Tryz.func39 [aum fu] [.r' zI,.f' 170 (.p' 9 .s')] [.r' (.i' .i64)] (λx=>aey fu x.1 x.2) (.s' .n' (.r' [] [] (.s' .n' (.l' [.s' 8 (.i' .i64)] .n')) .n'))
noncomputable def aor(fu:Nat):=kf fu Tryz.func169 [aid fu,aum fu] [.r' zI,.f' 170 (.p' 9 .s')] [.r' (.b')] (λx=>aeg fu x.1 x.2) (.n')
noncomputable def axk(fu:Nat):=kf fu Tryz.func131 [aor fu,aum fu] [.r' zI,.s'] [.r' (.b')] (λx=>aon fu x.1 x.2) (.n')
noncomputable def qV(fu:Nat):=kf fu Tryz.func90 [axk fu] [.r' zI,.s'] [.r' (.c')] (λx=>aqh fu x.1 x.2) (.n')
noncomputable def bcl(fu:Nat):=kf fu Tryz.func200 [qV fu,ajw,mq fu,aun fu,bag fu] [.p' 152 (.pr (.w' .s') (.i' .i64)),.l' 86 40 zI,.i' .i64,.i' .i64] [.r' eU,.r' (.i' .i64),.r' (.c'),.o' 0 152 (.pr (.w' .s') (.i' .i64))] (λx=>aig fu x.1 x.2.1 x.2.2.1 x.2.2.2) (.s' .n' (.s' .n' (.s' .n' (.s' .n' (.j' [.s' 13 (.i' .i64)] [] .n' (.s' .n' (.s' .n' (.s' .n' (.s' .n' (.r' [.o' 0 1 (.i' .i64),.o' 16 1 (.s')] [] (.s' .n' (.s' (.s' .n' (.s' .n' (.s' (.j' [.s' 94 (.b')] [0,2,4,5,6] .n' .n') .n'))) .n')) .n'))))))))))
noncomputable def vP(fu:Nat):=kf fu Tryz.func184 [] [.s'] [.r' (.b')] (λx=>aqy fu x) (.n')
noncomputable def aww(fu:Nat):=kf fu Tryz.func152 [vP fu] [.s',.s'] [.r' (.i' .i64)] (λx=>ane fu x.1 x.2) (.n')
noncomputable def aoz(fu:Nat):=kf fu Tryz.func151 [aww fu] [.pr .s' (.pr .s' .b'),.pr .s' (.pr .s' .b')] [.r' (.i' .i64)] (λx=>ara fu x.1 x.2) (.n')
noncomputable def aet(fu:Nat):=kf fu Tryz.func202 [aoz fu] [.l' 86 40 zI,.i' .i64,.i' .i64,.f' 151 .u'] [.w' 0 eU] (λx=>aat fu x.1 x.2.1 x.2.2.1) (.s' .n' (.l' [.w' 0 eU,.s' 8 (.i' .i64)] (.s' .n' (.j' [.w' 0 eU] [] (.s' .n' (.l' [.w' 0 eU,.s' 9 (.i' .i64)] (.s' (.j' [.s' 34 (.b')] [] .n' .n') .n'))) .n'))))
noncomputable def agc(fu:Nat):=kf fu Tryz.func183 [aoz fu,aet fu] [.l' 86 40 zI,.i' .i64,.f' 151 .u'] [.w' 0 eU] (λx=>acm fu x.1 x.2.1) (.s' .n' (.s' .n' (.j' [.w' 0 eU,.s' 7 (.i' .i64)] [] (.l' [.w' 0 eU,.s' 7 (.i' .i64),.s' 8 (.i' .i64)] .n') (.s' .n' (.l' [.w' 0 eU,.s' 6 (.i' .i64)] (.s' (.s' .n' (.z' .n')) .n'))))))
noncomputable def amr(fu:Nat):=kf fu Tryz.func150 [aoz fu,agc fu] [.l' 86 40 zI,.f' 151 .u'] [.w' 0 eU] (λx=>aba fu x.1) (.n')
noncomputable def awa(fu:Nat):=kf fu Tryz.func107 [ES,amr fu,aoz fu] [.r' zI] [.r' eU] (λx=>ml fu x) (.n')
noncomputable def Fa(fu:Nat):=kf fu Tryz.func178 [akc fu,ng fu,awa fu,ajw,mq fu,aja fu,bck fu,bbo fu,bcl fu] [.s'] [.r' (.pr .s' (.pr .s' (.pr .s' (.pr (.i' .i64) (.pr eU eU))))),.r' (.i' .i64),.r' (.c')] (λx=>aro fu x) (.s' .n' (.s' .n' (.s' .n' (.s' .n' (.s' .n' (.s' .n' (.s' .n' (.s' .n' (.j' [.s' 8 (.i' .i64),.s' 9 (.c'),.s' 10 (.s'),.o' 27 0 (.s'),.o' 27 1 (.i' .i64),.o' 7 0 (.s'),.o' 7 1 (.s'),.o' 7 2 (.s'),.o' 7 3 (.i' .i64),.o' 7 4 eU,.o' 7 5 eU] [] (.s' .n' (.j' [.s' 35 (.b')] [] .n' .n')) (.j' [.s' 8 (.i' .i64),.s' 9 (.c'),.o' 6 0 (.s'),.o' 6 1 (.i' .i64),.o' 7 4 eU] [] (.l' [.s' 8 (.i' .i64),.s' 9 (.c'),.o' 6 0 (.s'),.o' 6 1 (.i' .i64),.o' 7 4 eU] (.s' (.j' [.s' 55 (.b')] [0,1,2] .n' .n') .n')) (.j' [.s' 8 (.i' .i64),.s' 9 (.c'),.o' 6 0 (.s'),.o' 6 1 (.i' .i64),.o' 7 5 eU] [] (.l' [.s' 8 (.i' .i64),.s' 9 (.c'),.o' 6 0 (.s'),.o' 6 1 (.i' .i64),.o' 7 5 eU] (.s' (.j' [.s' 88 (.b')] [0,1,2] .n' .n') .n')) .n')))))))))))
noncomputable def bbn(fu:Nat):=kf fu Tryz.func145 [ng fu,aja fu,Fa fu] [.p' 152 (.pr (.w' .s') (.i' .i64)),.p' 119 (.pr .s' (.pr (.pr .s' (.pr .s' (.pr .s' (.pr (.i' .i64) (.pr eU eU))))) eU))] [.r' (.i' .i64),.r' (.c'),.o' 0 152 (.pr (.w' .s') (.i' .i64)),.o' 1 119 (.pr .s' (.pr (.pr .s' (.pr .s' (.pr .s' (.pr (.i' .i64) (.pr eU eU))))) eU))] (λx=>ahn fu x.1 x.2) (.s' .n' (.s' .n' (.r' [.s' 6 (.i' .i64),.s' 7 (.i' .i64),.s' 8 (.i' .i64)] [] .n' .n')))
noncomputable def bbp(fu:Nat):=kf fu Tryz.func89 [agm fu,ng fu,anr fu,axj fu,mq fu,auo fu,aja fu] [.p' 152 (.pr (.w' .s') (.i' .i64))] [.r' zI,.r' (.i' .i64),.r' (.c'),.o' 0 152 (.pr (.w' .s') (.i' .i64))] (λx=>akh fu x) (.n')
noncomputable def awb(fu:Nat):=kf fu Tryz.func54 [agm fu,akc fu,ng fu,bbp fu,qV fu] [.s'] [.r' eU,.r' (.i' .i64),.r' (.c')] (λx=>td fu x) (.s' .n' (.s' .n' (.s' .n' (.l' [.s' 6 eU,.o' 5 0 (.s'),.o' 5 1 (.i' .i64)] (.s' .n' (.s' .n' (.s' .n' (.s' .n' (.s' .n' (.s' .n' (.s' .n' (.j' [.s' 9 (.i' .i64),.s' 10 (.c')] [] .n' .n'))))))))))))
noncomputable def bcn(fu:Nat):=kf fu Tryz.func104 [awb fu,agm fu,ng fu,ayc fu,ayz,aze fu,bbn fu] [.s'] [.r' (.pr .s' (.pr (.pr .s' (.pr .s' (.pr .s' (.pr (.i' .i64) (.pr eU eU))))) eU)),.r' (.i' .i64),.r' (.c')] (λx=>alk fu x) (.s' .n' (.s' .n' (.s' .n' (.s' .n' (.s' .n' (.s' .n' (.j' [.s' 7 (.i' .i64),.s' 8 (.c'),.o' 16 0 (.s'),.o' 16 1 (.i' .i64),.o' 6 0 (.s'),.o' 6 1 (.s'),.o' 6 2 (.s'),.o' 6 3 (.s'),.o' 6 4 (.i' .i64),.o' 6 5 eU,.o' 6 6 eU,.o' 6 7 eU] [] .n' (.j' [.s' 7 (.i' .i64),.s' 8 (.c'),.o' 5 0 (.s'),.o' 5 1 (.i' .i64),.o' 6 0 (.s'),.o' 6 1 (.s'),.o' 6 2 (.s'),.o' 6 3 (.s'),.o' 6 4 (.i' .i64),.o' 6 5 eU,.o' 6 6 eU,.o' 6 7 eU] [] .n' (.j' [.s' 7 (.i' .i64),.s' 8 (.c'),.o' 6 7 eU] [] .n' .n')))))))))
noncomputable def Av(fu:Nat):=kf fu Tryz.func70 [ams fu,bcn fu] [.s'] [.r' (.pr .s' (.pr (.pr .s' (.pr .s' (.pr .s' (.pr (.i' .i64) (.pr eU eU))))) eU)),.r' (.c')] (λx=>ata fu x) (.n')
noncomputable def bat(fu:Nat):=kf fu Tryz.func78 [arj fu] [.s'] [.r' (.s'),.r' (.c')] (λx=>arw fu x) (.s' .n' (.s' .n' (.s' .n' (.r' [.s' 4 (.l' 5 1 .c')] [] (.s' .n' (.l' [.s' 4 (.l' 5 1 .c'),.s' 16 (.i' .i64)] (.s' .n' (.s' .n' (.s' (.s' .n' (.s' .n' (.s' .n' (.j' [.s' 4 (.l' 5 1 .c')] [] (.j' [.s' 29 (.b')] [0,1,2] .n' .n') .n')))) .n'))))) .n'))))
noncomputable def oI(fu:Nat):=kf fu Tryz.func179 [baf fu] [.s'] [.r' (.b')] (λx=>aoo fu x) (.s' .n' (.r' [] [] (.s' .n' (.l' [.s' 6 (.i' .i64)] .n')) .n'))
noncomputable def Ba(fu:Nat):=kf fu Tryz.func180 [axt,apt fu] [.s'] [.r' (.b')] (λx=>atc fu x) (.s' .n' (.s' .n' (.s' (.j' [.s' 18 (.b')] [0,1,2] .n' .n') (.r' [] [] (.s' .n' (.l' [.s' 21 (.i' .i64)] (.s' .n' (.s' .n' (.s' (.s' .n' (.s' .n' (.j' [.s' 40 (.b')] [0,2,3] .n' .n'))) .n'))))) .n'))))
noncomputable def Az(fu:Nat):=kf fu Tryz.func181 [awa fu,mq fu,axk fu,oI fu] [.r' zI,.i' .i64] [.r' eU,.r' (.b')] (λx=>apz fu x.1 x.2) (.s' .n' (.s' .n' (.s' .n' (.r' [.s' 6 eU] [] (.s' .n' (.l' [.s' 6 eU,.s' 14 (.i' .i64)] (.s' .n' (.s' .n' (.s' (.s' .n' (.s' .n' (.s' (.j' [.s' 42 (.b')] [0,2,3,9,15] .n' .n') (.s' (.j' [.s' 61 (.b')] [0,1,2,7] .n' .n') .n')))) .n'))))) .n'))))
noncomputable def Bb(fu:Nat):=kf fu Tryz.func146 [anr fu,mq fu,oI fu,Ba fu,Az fu] [.pr .s' (.pr .s' (.pr .s' (.pr (.i' .i64) (.pr (.r' zI) (.r' zI)))))] [.r' (.pr .s' (.pr .s' (.pr .s' (.pr (.i' .i64) (.pr eU eU))))),.r' (.c')] (λx=>atd fu x) (.s' .n' (.s' .n' (.s' .n' (.j' [.s' 5 (.b'),.o' 4 2 (.s')] [] (.s' .n' (.j' [.s' 20 (.b')] [] .n' .n')) (.s' .n' (.s' .n' (.s' (.j' [.s' 88 (.b')] [0,1,2,6] .n' .n') .n')))))))
noncomputable def aou(fu:Nat):=kf fu Tryz.func81 [Aw] [.p' 138 (.pr .z' (.l' 5 1 .c')),.s'] [.r' (.i' .i64),.r' (.o' 2),.o' 0 138 (.pr .z' (.l' 5 1 .c'))] (λx=>BF fu x.1 x.2) (.n')
noncomputable def Bc(fu:Nat):=kf fu Tryz.func147 [bae fu] [.s',.i' .i64] [.r' (.s')] (λx=>W7 fu x.1 x.2) (.s' .n' (.s' .n' (.j' [.s' 5 (.l' 5 1 .c')] [] (.s' .n' (.l' [.s' 5 (.l' 5 1 .c'),.s' 12 (.i' .i64)] .n')) .n')))
noncomputable def ayb(fu:Nat):=kf fu Tryz.func148 [Aw] [.p' 138 (.pr .z' (.l' 5 1 .c')),.c'] [.r' (.o' 2),.o' 0 138 (.pr .z' (.l' 5 1 .c'))] (λx=>afd fu x.1 x.2) (.n')
noncomputable def Ez(fu:Nat):=kf fu Tryz.func105 [auh,aou fu,oH,Bb fu,Bc fu,ayb fu] [.pr .s' (.pr .s' (.pr .s' (.pr (.i' .i64) (.pr (.r' zI) (.r' zI)))))] [.r' (.s'),.r' (.c')] (λx=>avj fu x) (.s' .n' (.s' .n' (.s' .n' (.s' .n' (.s' .n' (.j' [.o' 6 0 (.z'),.o' 6 1 (.l' 5 1 .c')] [] .n' (.s' .n' (.j' [.o' 6 0 (.z'),.o' 6 1 (.l' 5 1 .c')] [] .n' (.j' [.o' 6 0 (.z'),.o' 6 1 (.l' 5 1 .c')] [] (.s' .n' (.l' [.s' 51 (.i' .i64),.o' 6 0 (.z'),.o' 6 1 (.l' 5 1 .c')] .n')) (.j' [.o' 6 0 (.z'),.o' 6 1 (.l' 5 1 .c')] [] (.s' .n' (.l' [.s' 71 (.i' .i64),.o' 6 0 (.z'),.o' 6 1 (.l' 5 1 .c')] (.s' .n' (.s' .n' (.s' (.s' .n' (.j' [.o' 6 0 (.z'),.o' 6 1 (.l' 5 1 .c')] [] .n' .n')) .n'))))) .n'))))))))))
noncomputable def aqj(fu:Nat):=kf fu Tryz.func106 [aqc fu,bat fu,aou fu,oH,anr fu,mq fu,axk fu] [.r' zI] [.r' (.s'),.r' (.c')] (λx=>WL fu x) (.s' .n' (.s' .n' (.s' .n' (.r' [.o' 4 0 (.z'),.o' 4 1 (.l' 5 1 .c')] [] (.s' .n' (.l' [.s' 17 (.i' .i64),.o' 4 0 (.z'),.o' 4 1 (.l' 5 1 .c')] (.s' .n' (.s' .n' (.s' (.s' .n' (.s' (.j' [.s' 41 (.b')] [] .n' .n') (.s' .n' (.s' .n' (.s' .n' (.r' [.s' 7 (.s')] [] (.s' .n' (.j' [.s' 75 (.b')] [0,2,3] .n' .n')) .n')))))) .n'))))) .n'))))
noncomputable def bcm(fu:Nat):=kf fu Tryz.func71 [bat fu,Ez fu,aqj fu,awa fu] [.pr .s' (.pr (.pr .s' (.pr .s' (.pr .s' (.pr (.i' .i64) (.pr (.r' zI) (.r' zI)))))) (.r' zI))] [.r' (.s'),.r' (.c')] (λx=>alj fu x) (.n')
noncomputable def aku(fu:Nat):=kf fu Tryz.func45 [aoy fu] [.s',.f' 47 .u'] [.r' (.s')] (λx=>acg fu x.1) (.s' .n' (.s' .n' (.j' [.w' 5 (.y')] [] (.s' .n' (.l' [.w' 5 (.y'),.s' 12 (.i' .i64)] .n')) .n')))
noncomputable def Au(fu:Nat):=kf fu Tryz.func109 [ayz,bbj] [.s'] [.r' (.s'),.r' (.s'),.r' (.b')] (λx=>asy fu x) (.s' .n' (.s' .n' (.s' (.j' [.s' 21 (.b')] [0,1,2] .n' .n') .n')))
noncomputable def No(fu:Nat):=kf fu Tryz.func112 [mq fu] [.r' zI,.s'] [.r' (.s'),.r' (.b')] (λx=>avk fu x.1 x.2) (.s' .n' (.s' .n' (.r' [] [] (.s' .n' (.l' [.s' 12 (.i' .i64)] .n')) .n')))
noncomputable def Rz(fu:Nat):=kf fu Tryz.func72 [age fu,ahe fu,aku fu,aoy fu,ams fu,arq fu,awb fu,ark fu,atg,Au fu,anr fu,aui fu,No fu] [.s'] [.r' (.pr .s' (.pr .s' (.pr (.i' .i64) (.pr .s' eU)))),.r' (.c')] (λx=>bak fu x) (.s' .n' (.s' .n' (.s' (.j' [.s' 30 (.b')] [0,2,3] .n' .n') (.s' .n' (.s' .n' (.s' (.j' [.s' 43 (.b')] [0,1,2] .n' .n') (.s' .n' (.s' .n' (.j' [.s' 7 (.s'),.s' 8 (.s')] [] .n' (.s' .n' (.s' .n' (.s' .n' (.s' .n' (.r' [.o' 6 2 (.i' .i64)] [] (.s' .n' (.s' (.s' .n' (.j' [.s' 16 (.c')] [] (.j' [.s' 94 (.b')] [0,1,2] .n' .n') .n')) .n')) .n'))))))))))))))
noncomputable def aul(fu:Nat):=kf fu Tryz.func162 [aww fu] [.pr .s' (.pr .s' .b'),.pr .s' (.pr .s' .b')] [.r' (.i' .i64)] (λx=>Co fu x.1 x.2) (.n')
noncomputable def akk(fu:Nat):=kf fu Tryz.func202 [aul fu] [.l' 86 40 zI,.i' .i64,.i' .i64,.f' 162 .u'] [.w' 0 eU] (λx=>akz fu x.1 x.2.1 x.2.2.1) (.s' .n' (.l' [.w' 0 eU,.s' 8 (.i' .i64)] (.s' .n' (.j' [.w' 0 eU] [] (.s' .n' (.l' [.w' 0 eU,.s' 9 (.i' .i64)] (.s' (.j' [.s' 34 (.b')] [] .n' .n') .n'))) .n'))))
noncomputable def anq(fu:Nat):=kf fu Tryz.func183 [aul fu,aet fu,akk fu] [.l' 86 40 zI,.i' .i64,.f' 162 .u'] [.w' 0 eU] (λx=>aot fu x.1 x.2.1) (.s' .n' (.s' .n' (.j' [.w' 0 eU,.s' 7 (.i' .i64)] [] (.l' [.w' 0 eU,.s' 7 (.i' .i64),.s' 8 (.i' .i64)] .n') (.s' .n' (.l' [.w' 0 eU,.s' 6 (.i' .i64)] (.s' (.s' .n' (.z' .n')) .n'))))))
noncomputable def amz(fu:Nat):=kf fu Tryz.func150 [aul fu,agc fu,anq fu] [.l' 86 40 zI,.f' 162 .u'] [.w' 0 eU] (λx=>acn fu x.1) (.n')
theorem zt:Go.Wk.Enters Tryz.prog 150:=⟨Tryz.f150,_,Tryz.func150,rfl,by kernel_rfl⟩
theorem zq:Go.Wk.Enters Tryz.prog 160:=⟨Tryz.f160,_,Tryz.func160,rfl,by kernel_rfl⟩
theorem zp:Go.Wk.Enters Tryz.prog 161:=⟨Tryz.f161,_,Tryz.func161,rfl,by kernel_rfl⟩
theorem zl:Go.Wk.Enters Tryz.prog 192:=⟨Tryz.f192,_,Tryz.func192,rfl,by kernel_rfl⟩
theorem zk:Go.Wk.Enters Tryz.prog 193:=⟨Tryz.f193,_,Tryz.func193,rfl,by kernel_rfl⟩
theorem zi:Go.Wk.Enters Tryz.prog 208:=⟨Tryz.f208,_,Tryz.func208,rfl,by kernel_rfl⟩
variable {j e:LQ}
theorem amx(r:Option Nat)(d:Option χ)(a:Nat)(f:acn fu j=δ e)(i:Gl w)(h:Hp w (dE [bA fA 86 3 r d a j]) [bA fA 86 3 r d a j] w)(g:∀b∈dE [bA fA 86 3 r d a j],9<=b):CR Tryz.prog 150 [(μ d (γ j) a),(Γ (.func 162) #[] #[])] w λv w'=>v=(Value.tuple #[])/\γ e=γ j/\Hp w (dE [bA fA 86 3 r d a j]) [bA fA 86 3 r d a e] w':=
 KN (amz fu).ok f ⟨i,g⟩ h
theorem agz(i:Nat)(f:Loop)(l:Nat)(t:Option Nat)(k:Option χ)(a:Nat)(o:Nat)(m:Option χ)(V:Nat)(d:Nat){r:(LQ×Nat)}(hr:abc fu j e=δ r)(hG:Gl w)(R:V=γ e)(C:Rd w m (List.flatMap fA e))(a8:V<=d)(hM:Hp w (dE [cH i 0 f,aS l [(μ k (γ j) a)] 61,aS o [(μ m (γ e) d)] 61,bA fA 86 3 t k a j]) [cH i 0 f,aS l [(μ k (γ j) a)] 61,aS o [(μ m (γ e) d)] 61,bA fA 86 3 t k a j] w)(hS:∀b∈dE [cH i 0 f,aS l [(μ k (γ j) a)] 61,aS o [(μ m (γ e) d)] 61,bA fA 86 3 t k a j],9<=b)(D:List.flatMap fA e≠[]->∀p,m=δ p->p.block∉dE [cH i 0 f,aS l [(μ k (γ j) a)] 61,aS o [(μ m (γ e) d)] 61,bA fA 86 3 t k a j])(a2:∀(J:PQ) (H:LQ) (U:Option Nat) (L:Option χ) (x:Nat) (w_:ν),Hp w (dE [cH i 0 f,aS l [(μ k (γ j) a)] 61,aS o [(μ m (γ e) d)] 61,bA fA 86 3 t k a j]) [cH i 0 f,aS l [(μ L (γ H) x)] 61,bA fA 86 3 U L x H] w_->∀(S:(Nat×LQ)),acb fu J H=δ S->YR Tryz.prog i [(Value.agg #[(str J.1),(str J.2.1),(ι J.2.2)])] w_ λv a3=>∃(a7:Option Nat),∃(T:Option χ),∃(B:Nat),v=ι (decide (S.1=0))/\Hp w_ (dE [cH i 0 f,aS l [(μ L (γ H) x)] 61,bA fA 86 3 U L x H]) [cH i S.1 f,aS l [(μ T (γ S.2) B)] 61,bA fA 86 3 a7 T B S.2] a3):CR Tryz.prog 193 [(Γ (.yield i) #[] #[]),(ς (cQ o))] w λv w'=>∃(o0:Option Nat),∃(a0:Option χ),∃(P:Nat),v=(Value.tuple #[])/\Hp w (dE [cH i 0 f,aS l [(μ k (γ j) a)] 61,aS o [(μ m (γ e) d)] 61,bA fA 86 3 t k a j]) [aS l [(μ a0 (γ r.1) P)] 61,aS o [(μ m (γ e) d)] 61,bA fA 86 3 o0 a0 P r.1,cH i r.2 f] w':=by
 subst R;have hH:=hM;refine KQ Tryz.func193 rfl rfl (bH rfl) ?_;unfold abc at hr;refine sr (iD hH 2 o 0 _ 61 _ rfl rfl aF aF (wp 2 (nq (ce (Yx (σ:=Nat×Int×(List _)×(Option Nat)×(Option χ)×Nat) [0,5,6,7] (λ⟨s,g,n,z,q,h⟩=>[(7,(υ .i64 g))]) (λ⟨s,g,n,z,q,h⟩ w'=>Hp w (dE [cH i 0 f,aS l [(μ k (γ j) a)] 61,aS o _ 61,bA fA 86 3 t k a j]) [cH i 0 f,aS l [(μ q (γ n) h)] 61,aS o [(μ m (γ e) d)] 61,bA fA 86 3 z q h n] w'/\aam fu e s g n=δ r) (λ⟨s,g,n,z,q,h⟩=>s) (fu,(0:Int),j,t,k,a) (by exact⟨(Hp.front (Hp.front (Hp.front (Hp.front hH 3 _ rfl) 3 _ rfl) 3 _ rfl) 3 _ rfl).kp,hr⟩) ?_)))));rintro⟨_|s,g,n,z,q,h⟩ b7 G ⟨A,c⟩
 ·exact absurd (show ε=δ _ from c) aA2
 rw [abl,aan]at c;refine sr (wp 1 (nq (cs (cd c (λa9 c=> ?_) (λa9 c=> ?_)))));refine ck (qn (cs (ce (sr (gi c λb2 c=>yU m (γ e) d 86 3 .i64 g Tryz.underlying61 aF aF aF e rfl b2 (C.XB A D) akm aA1 (gi c λb1 c=>nH m fA e 3 g akm (C.XB A D) (X8 e g) b1 aF aF aF aF aA1 ?_))))));refine iQ A [(str []),(str []),(ι η)] 86 (λb=>(ς (cQ b))) rfl rfl aF λI b6 Z=>qZ Z 0 I 0 _ (X8 e g) 86 _ rfl (bH rfl) aF aF rfl aF rfl λa6 O=>nq (sr (wp 1 (Hr O 0 I 0 3 _ _ 86 rfl rfl rfl aF aF aF (bi c λy W c=> ?_))));have Y:=O.front 4 _ rfl;have X:=Y.front 3 _ rfl;have N:=X.front 3 _ rfl;have a1:=Hp.Ze (L1:=[cH i 0 f,aS l _ 61,bA fA 86 3 z q h n]) (L2:=[aS I (X8 e g) 86,aS o [(μ m (γ e) d)] 61]) N;refine zF i _ _ aF aF (a2 _ n z q h a6 a1 y W) ?_;rintro _ a5 ⟨Q,K,u,rfl,M⟩;have E:Hp w (dE [cH i 0 f,aS l [(μ k (γ j) a)] 61,aS o [(μ m (γ e) d)] 61,bA fA 86 3 t k a j]) [cH i y.1 f,aS l [(μ K (γ y.2) u)] 61,bA fA 86 3 Q K u y.2,aS I (X8 e g) 86,aS o [(μ m (γ e) d)] 61] a5:=Hp.dL (L1:=[cH i 0 f,aS l [(μ q (γ n) h)] 61,bA fA 86 3 z q h n]) (L2:=[aS I (X8 e g) 86,aS o [(μ m (γ e) d)] 61]) N M;clear M;by_cases F:y.1=0;replace c:=HV F c;rw [F]at E;rw [show decide (y.1=0)=ζ from(aK F)];refine wp 1 (nq (lh aF (ck (bn (qn (cr (gi c λb0 c=>vH g _ aF aF b0 ?_)))))));refine wp 1 (wl (ql ?_));exact⟨(s,g+1,y.2,Q,K,u),_,rfl,by kernel_rfl,⟨(Hp.front (Hp.front (Hp.front (Hp.front E 2 _ rfl) 4 _ rfl) 3 _ rfl) 3 _ rfl).kp,c⟩,cI _⟩;replace c:=HW F c;rw [show decide (y.1=0)=η from(aL F)];refine wp 1 (nq (tP aF (ct (gU (st (kW (gU ?_)))))));obtain rfl:=oi c;refine xD rfl ?_;exact⟨Q,K,u,iP,(Hp.front (Hp.front (Hp.front E 2 _ rfl) 4 _ rfl) 3 _ rfl).kp⟩;refine Ch (yV (Ci (Cg ?_)));obtain rfl:=oi c;refine uN rfl ?_;exact⟨z,q,h,iP,(Hp.front (Hp.front (Hp.front A 3 _ rfl) 3 _ rfl) 3 _ rfl).kp⟩
theorem asd{s_0:LQ}(i:Option Nat)(r:Option χ)(a:Nat)(g:Nat)(h:Option χ)(a3:Nat)(c:Nat)(L:adx fu s_0 j=δ e)(hG:Gl w)(S:a3=γ j)(E:Rd w h (List.flatMap fA j))(T:a3<=c)(hM:Hp w (dE [aS g [(μ h (γ j) c)] 61,bA fA 86 3 i r a s_0]) [aS g [(μ h (γ j) c)] 61,bA fA 86 3 i r a s_0] w)(hS:∀b∈dE [aS g [(μ h (γ j) c)] 61,bA fA 86 3 i r a s_0],9<=b)(F:List.flatMap fA j≠[]->∀p,h=δ p->p.block∉dE [aS g [(μ h (γ j) c)] 61,bA fA 86 3 i r a s_0]):CR Tryz.prog 208 [(μ r (γ s_0) a),(Γ (.func 193) #[] #[(ς (cQ g))])] w λv w'=>∃(o0:Option Nat),∃(a0:Option χ),∃(Q:Nat),v=(μ a0 (γ e) Q)/\Hp w (dE [aS g [(μ h (γ j) c)] 61,bA fA 86 3 i r a s_0]) [aS g [(μ h (γ j) c)] 61,bA fA 86 3 o0 a0 Q e] w':=by
 subst S;have hH:Hp w (dE (X6 g h (γ j) c i r a s_0)) (X6 g h (γ j) c i r a s_0) w:=hM;refine KP (k:=13) Tryz.func208 rfl rfl (bH rfl) ?_;unfold adx at L;refine sr (iQ hH [(μ r (γ s_0) a)] 61 (λb=>(ς (cQ b))) rfl rfl aF λs w2 c8=>wp 1 (nq (cs (sr (wp 1 ?_)))));refine nq (ce (tQ c8 193 [(ς (cQ g))] aF zk λt x f C a8 a7 a6 a5 b9=>bi L λq a4 L=> ?_));have b3:Hp w (dE (X6 g h (γ j) c i r a s_0)) [bA fA 86 3 i r a s_0,cH x 0 f,Bt t,aS s [(μ r (γ s_0) a)] 61,aS g [(μ h (γ j) c)] 61] C:=b9.front 4 _ rfl;have b2:Hp w (dE (X6 g h (γ j) c i r a s_0)) [aS g [(μ h (γ j) c)] 61,bA fA 86 3 i r a s_0,cH x 0 f,Bt t,aS s [(μ r (γ s_0) a)] 61] C:=b3.front 4 _ rfl;have b0:Hp w (dE (X6 g h (γ j) c i r a s_0)) [aS s [(μ r (γ s_0) a)] 61,aS g [(μ h (γ j) c)] 61,bA fA 86 3 i r a s_0,cH x 0 f,Bt t] C:=b2.front 4 _ rfl;have u:Hp w (dE (X6 g h (γ j) c i r a s_0)) [cH x 0 f,aS s [(μ r (γ s_0) a)] 61,aS g [(μ h (γ j) c)] 61,bA fA 86 3 i r a s_0,Bt t] C:=b0.front 3 _ rfl;have d1:∀(m:PQ) (l:LQ) (y:Option Nat) (o:Option χ) (d:Nat) (w_:ν),Hp C (dE [cH x 0 f,aS s [(μ r (γ s_0) a)] 61,aS g [(μ h (γ j) c)] 61,bA fA 86 3 i r a s_0]) [cH x 0 f,aS s [(μ o (γ l) d)] 61,bA fA 86 3 y o d l] w_->∀(Y:(Nat×LQ)),acb fu m l=δ Y->YR Tryz.prog x [(Value.agg #[(str m.1),(str m.2.1),(ι m.2.2)])] w_ λv c3=>∃(c7:Option Nat),∃(a1:Option χ),∃(D:Nat),v=ι (decide (Y.1=0))/\Hp w_ (dE [cH x 0 f,aS s [(μ o (γ l) d)] 61,bA fA 86 3 y o d l]) [cH x Y.1 f,aS s [(μ a1 (γ Y.2) D)] 61,bA fA 86 3 c7 a1 D Y.2] c3:=by intro m l y o d R B Y K;have I:=Hp.dL (L1:=[cH x 0 f,aS s [(μ r (γ s_0) a)] 61,aS g [(μ h (γ j) c)] 61,bA fA 86 3 i r a s_0]) (L2:=[Bt t]) u B;have c0:=hG;replace hG:=hG.hp I hS;have e1:=Hp.qW I c0 hS 3 rfl;unfold acb at K;refine Kh (Hp.hand (L1:=[cH x 0 f,aS s [(μ o (γ l) d)] 61,bA fA 86 3 y o d l]) (L2:=[]) aE8) 0 rfl a8 a7 a6 a5 rfl ?_;have hH:Hp R (dE [cH x 0 f,aS s [(μ o (γ l) d)] 61,bA fA 86 3 y o d l]) [cH x 0 f,aS s [(μ o (γ l) d)] 61,bA fA 86 3 y o d l] R:=Hp.hand (L1:=[cH x 0 f,aS s [(μ o (γ l) d)] 61,bA fA 86 3 y o d l]) (L2:=[]) aE8;clear I B;refine cr (iQ hH [(str ([]:aC)),(str ([]:aC)),(ι η)] 86 (λb=>(ς (cQ b))) rfl rfl aF λW d9 b8=>qZ b8 0 W 0 _ [(str m.1),(str m.2.1),(ι m.2.2)] 86 _ rfl (bH rfl) aF aF rfl aF rfl λd8 b7=>wl (Py b7 1 rfl λd7 H=>ce (cr (iD H 2 s 0 _ 61 _ rfl rfl aF aF (Hr H 0 W 0 3 _ _ 86 rfl rfl rfl aF aF aF (iQ H [(str m.1),(str m.2.1),(ι m.2.2)] 86 (λb=>(μ (cQ b) 1 1)) rfl rfl aF λV d6 P=> ?_))))));refine gi K λd0 K=>RH P 4 y o (cQ V) d 1 86 3 40 l _ akm rfl Tryz.underlying61 aA9 aA1 aA1 aF (gX (b:=(μ (cQ V) 1 1)) aF (WG (by first|rfl|(simp;done)|omega|(simp;omega)|(rw [yM];omega)))) (P.nP 0 rfl) d0 λa2 X A c6 G=> ?_;replace G:Hp R (dE [cH x 0 f,aS s [(μ o (γ l) d)] 61,bA fA 86 3 y o d l]) [aS V [(str m.1),(str m.2.1),(ι m.2.2)] 86,aS W [(str m.1),(str m.2.1),(ι m.2.2)] 86,Gz x f,aS s [(μ o (γ l) d)] 61,bA fA 86 3 a2 X A (l++([m]:LQ))] c6:=G;refine Sp G 3 s 0 _ 61 (μ X (γ (l++([m]:LQ))) A) _ rfl (cP (cI _) (bH rfl)) aF aF rfl aF rfl λd5 b6=>wl (bn ?_);obtain rfl:=oi K;refine pV b6 2 rfl λd4 b5=> ?_;exact⟨a2,X,A,aB8,(Hp.front (Hp.front (Hp.front b5 4 _ rfl) 4 _ rfl) 4 _ rfl).kp⟩
 refine CR.mono (agz x f s i r a g h (γ j) c a4 (hG.hp u hS) rfl (E.XB u F) T (u.hand (L1:=[cH x 0 f,aS s [(μ r (γ s_0) a)] 61,aS g [(μ h (γ j) c)] 61,bA fA 86 3 i r a s_0]) (L2:=[Bt t])) (u.qW hG hS 4 rfl) (u.Cf 4 E F rfl) d1) ?_;rintro _ Z ⟨J,z,n,rfl,M⟩;have b4:Hp w (dE (X6 g h (γ j) c i r a s_0)) [aS s [(μ z (γ q.1) n)] 61,aS g [(μ h (γ j) c)] 61,bA fA 86 3 J z n q.1,cH x q.2 f,Bt t] Z:=Hp.dL (L1:=[cH x 0 f,aS s [(μ r (γ s_0) a)] 61,aS g [(μ h (γ j) c)] 61,bA fA 86 3 i r a s_0]) (L2:=[Bt t]) u M;clear M;have a9:Hp w (dE (X6 g h (γ j) c i r a s_0)) [cH x q.2 f,aS s [(μ z (γ q.1) n)] 61,aS g [(μ h (γ j) c)] 61,bA fA 86 3 J z n q.1,Bt t] Z:=b4.front 3 _ rfl;refine⟨q.2,[aS s [(μ z (γ q.1) n)] 61,aS g [(μ h (γ j) c)] 61,bA fA 86 3 J z n q.1,Bt t],a9, ?_⟩;intro d3 O;by_cases U:q.2=0;replace L:=HV U L;refine rg0 U (bn (qn (sr (iD O 0 s 0 _ 61 _ rfl rfl aF aF (wp 1 (nq (ct ?_)))))));obtain rfl:=oi L;refine Yw O 3 t rfl _ [(μ z (γ q.1) n)] (μ z (γ q.1) n) rfl rfl (λc5 N=>(lD (vG aF) Rb)) rfl λc5 N=> ?_;exact⟨J,z,n,iP,(Hp.front (Hp.front N 2 _ rfl) 2 _ rfl).kp⟩;replace L:=HW U L;exact absurd L aA2
theorem asw(d:Nat)(c:Option χ)(q:Nat)(a:Nat)(t:ada fu j=δ e)(B:Gl w)(l:q=γ j)(h:Rd w c (List.flatMap fA j))(n:q<=a)(F:Hp w (dE [aS d [(μ c (γ j) a)] 61]) [aS d [(μ c (γ j) a)] 61] w)(A:∀b∈dE [aS d [(μ c (γ j) a)] 61],9<=b)(i:List.flatMap fA j≠[]->∀p,c=δ p->p.block∉dE [aS d [(μ c (γ j) a)] 61]):CR Tryz.prog 192 [(Γ (.func 193) #[] #[(ς (cQ d))])] w λv w'=>∃(E:Option Nat),∃(C:Option χ),∃(r:Nat),v=(μ C (γ e) r)/\Hp w (dE [aS d [(μ c (γ j) a)] 61]) [aS d [(μ c (γ j) a)] 61,bA fA 86 3 E C r e] w':=by subst l;have G:Hp w (dE (tU d c (γ j) a)) (tU d c (γ j) a) w:=F;refine enter (k:=5) Tryz.func192 rfl rfl (bH rfl) ?_;unfold ada at t;refine sr (wp 1 (nq (sr (wp 1 ?_))));have m:=G.dF fA 86 3 ε;replace m:Hp w (dE (tU d c (γ j) a)) [bA fA 86 3 ε ε 0 ([]:LQ),aS d [(μ c (γ j) a)] 61] w:=m;refine bi t λy u t=> ?_;have g:Hp w (dE (tU d c (γ j) a)) [aS d [(μ c (γ j) a)] 61,bA fA 86 3 ε ε 0 ([]:LQ)] w:=m.front 1 _ rfl;refine pA 208 #[] [(μ ε 0 0),(Γ (.func 193) #[] #[(ς (cQ d))])] _ zi aF aF (asd (s_0:=([]:LQ)) ε ε 0 d c (γ j) a u (B.hp g A) rfl (h.XB g i) n (g.hand (L1:=[aS d [(μ c (γ j) a)] 61,bA fA 86 3 ε ε 0 ([]:LQ)]) (L2:=[])) (g.qW B A 2 rfl) (g.Cf 2 h i rfl)) ?_;rintro _ D ⟨z,o,f,rfl,s⟩;have x:Hp w (dE (tU d c (γ j) a)) (X6 d c (γ j) a z o f y) D:=Hp.dL (L1:=[aS d [(μ c (γ j) a)] 61,bA fA 86 3 ε ε 0 ([]:LQ)]) (L2:=[]) g s;clear s;refine wp 1 (nq (ct ?_));obtain rfl:=oi t;refine nR (μ o (γ y) f) rfl aF ?_;exact⟨z,o,f,iP,(Hp.front (Hp.front x 1 _ rfl) 1 _ rfl).kp⟩
theorem ahy(d:Nat)(c:Option χ)(x:Nat)(a:Nat)(t:abd fu j=δ e)(C:Gl w)(o:x=γ j)(h:Rd w c (List.flatMap fA j))(q:x<=a)(L:Hp w (dE [aS d [(μ c (γ j) a)] 61]) [aS d [(μ c (γ j) a)] 61] w)(B:∀b∈dE [aS d [(μ c (γ j) a)] 61],9<=b)(i:List.flatMap fA j≠[]->∀p,c=δ p->p.block∉dE [aS d [(μ c (γ j) a)] 61]):CR Tryz.prog 160 [(Γ (.func 193) #[] #[(ς (cQ d))]),(Γ (.func 162) #[] #[])] w λv w'=>∃(K:Option Nat),∃(I:Option χ),∃(m:Nat),v=(μ I (γ e) m)/\Hp w (dE [aS d [(μ c (γ j) a)] 61]) [aS d [(μ c (γ j) a)] 61,bA fA 86 3 K I m e] w':=by subst o;have u:Hp w (dE (tU d c (γ j) a)) (tU d c (γ j) a) w:=L;refine enter (k:=12) Tryz.func160 rfl rfl (bH rfl) ?_;unfold abd at t;refine sr (wp 1 (nq (sr (wp 1 (bi t λs E t=>pA 192 #[] [(Γ (.func 193) #[] #[(ς (cQ d))])] _ zl aF aF (asw d c (γ j) a E (C.hp u B) rfl (h.XB u i) q (u.hand (L1:=(tU d c (γ j) a)) (L2:=[])) (u.qW C B 1 rfl) (u.Cf 1 h i rfl)) ?_)))));rintro _ G ⟨n,r,f,rfl,z⟩;have F:Hp w (dE (tU d c (γ j) a)) (X6 d c (γ j) a n r f s) G:=Hp.dL (L1:=(tU d c (γ j) a)) (L2:=[]) u z;clear z;refine wp 1 (nq (sr (wp 2 (bi t λJ y t=> ?_))));have g:Hp w (dE (tU d c (γ j) a)) [bA fA 86 3 n r f s,aS d [(μ c (γ j) a)] 61] G:=F.front 1 _ rfl;refine pA 150 #[] [(μ r (γ s) f),(Γ (.func 162) #[] #[])] _ zt aF aF (amx n r f y (C.hp g B) (g.hand (L1:=[bA fA 86 3 n r f s]) (L2:=(tU d c (γ j) a))) (g.qW C B 1 rfl)) ?_;rintro _ D ⟨rfl,H,l⟩;have A:Hp w (dE (tU d c (γ j) a)) [bA fA 86 3 n r f J,aS d [(μ c (γ j) a)] 61] D:=Hp.dL (L1:=[bA fA 86 3 n r f s]) (L2:=(tU d c (γ j) a)) g l;clear l;refine nq (sr (wp 2 (nq (ct ?_))));obtain rfl:=oi t;refine nR (μ r (γ s) f) rfl aF ?_;exact⟨n,r,f,iP,(Hp.front A 1 _ rfl).kp⟩
theorem bcv(c:Option χ)(d:Nat)(a:Nat)(i:aly fu j=δ e)(o:Gl w)(p:d=γ j)(f:Rd w c (List.flatMap fA j))(h:d<=a):CR Tryz.prog 161 [(μ c d a)] w λv w'=>∃(l:Nat),v=(Γ (.func 193) #[] #[(ς (cQ l))])/\Hp w [] [aS l [(μ c (γ j) a)] 61] w':=by subst p;have m:Hp w [] [] w:=Hp.refl w;refine enter (k:=4) Tryz.func161 rfl rfl (bH rfl) ?_;unfold aly at i;refine sr (iQ m [(μ c (γ j) a)] 61 (λb=>(ς (cQ b))) rfl rfl aF λr n g=>wp 1 (nq (sr (wp 2 (wl ?_)))));refine qn (ct ?_);obtain rfl:=oi i;refine nR (Γ (.func 193) #[] #[(ς (cQ r))]) rfl aF ?_;exact⟨r,iP,g.kp⟩
theorem Cq(c:Option χ)(l:Nat)(a:Nat)(o:WJ fu j=δ e)(z:Gl w)(m:l=γ j)(d:Rd w c (List.flatMap fA j))(g:l<=a):CR Tryz.prog 113 [(μ c l a)] w λv w'=>∃(E:Option Nat),∃(B:Option χ),∃(r:Nat),v=(μ B (γ e) r)/\Hp w [] [bA fA 86 3 E B r e] w':=by subst m;have y:Hp w [] [] w:=Hp.refl w;refine enter (k:=6) Tryz.func113 rfl rfl (bH rfl) ?_;unfold WJ at o;refine sr (wp 1 (nq (sr (wp 1 (bi o λF x o=>pA 161 #[] [(μ c (γ j) a)] _ zp aF aF (bcv c (γ j) a x (z.iJ y) rfl (d.hp y) g) ?_)))));rintro _ D ⟨p,rfl,s⟩;have f:Hp w [] (tU p c (γ j) a) D:=Hp.dL (L1:=[]) (L2:=[]) y s;clear s;refine bi o λA u o=>pA 160 #[] [(Γ (.func 193) #[] #[(ς (cQ p))]),(Γ (.func 162) #[] #[])] _ zq aF aF (ahy p c (γ j) a u (z.iJ f) rfl (d.hp f) g (f.hand (L1:=(tU p c (γ j) a)) (L2:=[])) (f.qW z (λ_ h=>absurd h aA2) 1 rfl) (f.Cf 1 d (λ_ _ _ h=>absurd h aA2) rfl)) ?_;rintro _ C ⟨q,n,b,rfl,i⟩;have t:Hp w [] (X6 p c (γ j) a q n b A) C:=Hp.dL (L1:=(tU p c (γ j) a)) (L2:=[]) f i;clear i;refine wp 1 (nq (ct ?_));obtain rfl:=oi o;refine nR (μ n (γ A) b) rfl aF ?_;exact⟨q,n,b,iP,(Hp.front t 1 _ rfl).kp⟩
noncomputable def oF(fu:Nat):=kl Tryz.func113 ⟨[.r' zI],[.r' eU],λx=>.one (WJ fu x)⟩ (Fj (e:=86) (b:=40) (t:=.pr .s' (.pr .s' .b')) (λx=>x) (λy=>y) λw S x y a n cap h c d g f=>Cq a n cap c h.1 d g f)
noncomputable def xM(fu:Nat):=kf fu Tryz.func73 [auh,aqc fu,age fu,ahe fu,aku fu,aoy fu,aqj fu,anr fu,oF fu] [.pr .s' (.pr .s' (.pr (.i' .i64) (.pr .s' (.r' zI))))] [.r' (.s'),.r' (.c')] (λx=>ary fu x) (.s' .n' (.s' .n' (.s' (.j' [.s' 34 (.b')] [0,1,2,8,13] .n' .n') (.s' .n' (.j' [.s' 6 eU] [] (.s' .n' (.l' [.s' 6 eU,.s' 38 (.i' .i64)] .n')) (.j' [.s' 6 eU] [] .n' (.s' .n' (.s' .n' (.j' [.s' 4 (.s')] [] .n' .n')))))))))
noncomputable def bac(fu:Nat):=kf fu Tryz.func114 [ark fu,atg,aui fu] [.s'] [.r' (.i' .i64),.r' (.s'),.r' (.c')] (λx=>aoc fu x) (.s' .n' (.s' .n' (.j' [.s' 5 (.i' .i64)] [] .n' .n')))
noncomputable def sZ(fu:Nat):=kf fu Tryz.func74 [aqc fu,ams fu,bac fu] [.s'] [.r' (.i' .i64),.r' (.s'),.r' (.c')] (λx=>ava fu x) (.n')
noncomputable def Nk(fu:Nat):=kf fu Tryz.func75 [ams fu,sZ fu,bac fu] [.s'] [.r' (.i' .i64),.r' (.i' .i64),.r' (.s'),.r' (.c')] (λx=>ayj fu x) (.n')
noncomputable def Et(fu:Nat):=kf fu Tryz.func76 [ams fu,aui fu] [.s'] [.r' (.i' .i64),.r' (.c')] (λx=>auz fu x) (.n')
noncomputable def bav(fu:Nat):=kf fu Tryz.func26 [ams fu,arq fu,awb fu] [.s'] [.r' (.pr .s' eU),.r' (.c')] (λx=>api fu x) (.s' .n' (.s' .n' (.s' .n' (.s' .n' (.r' [.s' 4 (.i' .i64)] [] (.j' [.s' 25 (.b')] [0,1,3,4] .n' .n') .n')))))
noncomputable def vO(fu:Nat):=kf fu Tryz.func77 [aqc fu,bas,aqj fu,oF fu] [.pr .s' (.r' zI)] [.r' (.s'),.r' (.c')] (λx=>aqw fu x) (.s' .n' (.s' .n' (.s' (.j' [.s' 26 (.b')] [0,2,3] .n' .n') .n')))
noncomputable def Ni(fu:Nat):=kf fu Tryz.func49 [bav fu,auh,ams fu,oG fu,Av fu,bcm fu,Rz fu,xM fu,sZ fu,Nk fu,Et fu,vO fu,bat fu] [.s',.s'] [.r' (.s'),.r' (.c')] (λx=>aux fu x.1 x.2) (.s' .n' (.s' (.s' .n' (.s' .n' (.s' (.s' (.j' [.s' 33 (.b')] [0,1,2] .n' .n') .n') (.s' .n' (.s' .n' (.s' .n' (.s' .n' (.s' .n' (.s' .n' (.s' .n' (.s' .n' (.j' [.s' 109 (.b')] [] .n' .n')))))))))))) .n'))
noncomputable def Nf(fu:Nat):=kf fu Tryz.func118 [ark fu,axr] [.s',.i' .i64,.i' .i64] [.r' (.pr (.i' .i64) .s')] (λx=>auu fu x.1 x.2.1 x.2.2) (.n')
noncomputable def Ng(fu:Nat):=kf fu Tryz.func79 [aox fu,axj fu,ajw,Nf fu] [.s',.c'] [.r' (.l' 109 24 (.pr (.i' .i64) .s')),.r' (.i' .i64),.r' (.c')] (λx=>ayi fu x.1 x.2) (.s' .n' (.s' (.j' [.s' 27 (.b')] [0,2,6,10] .n' .n') (.s' .n' (.s' .n' (.r' [.s' 7 (.l' 109 24 (.pr (.i' .i64) .s')),.s' 8 (.i' .i64)] [] (.s' .n' (.l' [.s' 7 (.l' 109 24 (.pr (.i' .i64) .s')),.s' 8 (.i' .i64),.s' 9 (.i' .i64)] .n')) .n')))))
noncomputable def Nl(fu:Nat):=kf fu Tryz.func50 [Ng fu] [.s'] [.r' (.l' 9 16 .s'),.r' (.c')] (λx=>ayk fu x) (.s' .n' (.s' .n' (.s' .n' (.s' .n' (.r' [.s' 7 (.l' 9 16 .s')] [] (.s' .n' (.l' [.s' 7 (.l' 9 16 .s'),.s' 21 (.i' .i64)] .n')) .n')))))
noncomputable def bau(fu:Nat):=kf fu Tryz.func25 [mj fu,Nj fu,Ni fu,Nl fu,ayy] [.s',.s'] [.r' (.s'),.r' (.c')] (λx=>aph fu x.1 x.2) (.s' .n' (.s' .n' (.s' .n' (.s' .n' (.s' .n' (.s' .n' (.r' [.w' 8 (.l' 9 16 .s')] [] (.s' .n' (.l' [.w' 8 (.l' 9 16 .s'),.s' 36 (.i' .i64)] .n')) .n')))))))
noncomputable def avq(fu:Nat):=kf fu Tryz.func35 [bau fu] [.s',.s'] [.r' (.pr .s' .s'),.r' (.c')] (λx=>aje fu x.1 x.2) (.n')
noncomputable def xO(fu:Nat):=kf fu Tryz.func61 [mj fu,avq fu,bas,qT,axr] [.s'] [.r' (.pr .s' .s'),.r' (.c')] (λx=>aik fu x) (.n')
noncomputable def Ev(fu:Nat):=kf fu Tryz.func16 [JY,mj fu,avq fu] [.pr (.r' (.pr .s' .s')) (.r' .c')] [.r' (.pr (.l' 37 32 (.pr .s' .s')) (.l' 5 1 .c')),.r' (.b')] (λx=>aof fu x) (.s' .n' (.s' .n' (.s' .n' (.r' [.o' 4 0 (.l' 37 32 (.pr .s' .s'))] [] (.s' .n' (.l' [.s' 21 (.i' .i64),.o' 4 0 (.l' 37 32 (.pr .s' .s'))] .n')) .n'))))
noncomputable def Nn(fu:Nat):=kf fu Tryz.func62 [] [.r' .c',.r' .c'] [.r' (.b')] (λx=>ayl fu x.1 x.2) (.n')
noncomputable def xN(fu:Nat):=kf fu Tryz.func30 [Nn fu] [.r' .c',.r' .c'] [.r' (.b')] (λx=>aii fu x.1 x.2) (.s' .n' (.j' [.s' 4 (.b')] [0,2,4,5,13] .n' .n'))
noncomputable def wD(fu:Nat):=kf fu Tryz.func7 [] [.pr .s' (.pr .s' (.pr (.i' .i64) (.pr .s' (.pr (.r' (.pr .s' .s')) (.r' .c'))))),.pr .s' (.pr .s' (.pr (.i' .i64) (.pr .s' (.pr (.r' (.pr .s' .s')) (.r' .c')))))] [.r' (.b')] (λx=>baj fu x.1 x.2) (.s' .n' (.s' (.j' [.s' 49 (.b')] [0,2,4,5,12,19,26,35] .n' .n') (.r' [] [] (.s' .n' (.l' [.s' 5 (.i' .i64)] .n')) .n')))
noncomputable def As(fu:Nat):=kf fu Tryz.func32 [wD fu] [.pr (.r' (.pr .s' .s')) (.r' .c'),.pr (.r' (.pr .s' .s')) (.r' .c')] [.r' (.b')] (λx=>axo fu x.1 x.2) (.n')
noncomputable def bbl(fu:Nat):=kf fu Tryz.func20 [mj fu,asj fu] [.pr .s' .s'] [.r' (.s'),.r' (.b')] (λx=>ajs fu x) (.s' .n' (.s' .n' (.j' [.s' 3 (.b')] [0,1,2,3,7,8] .n' .n')))
noncomputable def qU(fu:Nat):=kf fu Tryz.func19 [bbl fu] [.pr .s' .s'] [.r' (.b')] (λx=>aqg fu x) (.n')
noncomputable def aiz(fu:Nat):=kf fu Tryz.func36 [qU fu] [.r' (.pr .s' .s'),.f' 19 .u'] [.r' (.i' .i64)] (λx=>adj fu x.1) (.s' .n' (.r' [] [] (.s' .n' (.l' [.s' 8 (.i' .i64)] .n')) .n'))
noncomputable def Es(fu:Nat):=kf fu Tryz.func41 [mj fu] [.s'] [.r' (.f' 68 (.pr (.p' 29 .c') (.p' 9 .s')))] (λx=>azi fu x) (.n')
noncomputable def xK(fu:Nat):=kf fu Tryz.func68 [mj fu] [.pr .s' .s',.p' 29 .c',.p' 9 .s'] [.r' (.b')] (λx=>art fu x.1 x.2.1 x.2.2) (.s' .n' (.s' .n' (.j' [.s' 4 (.b')] [1,2,6,11] .n' .n')))
noncomputable def aps(fu:Nat):=kf fu Tryz.func36 [xK fu] [.r' (.pr .s' .s'),.f' 68 (.pr (.p' 29 .c') (.p' 9 .s'))] [.r' (.i' .i64)] (λx=>aer fu x.1 x.2.1 x.2.2) (.s' .n' (.r' [] [] (.s' .n' (.l' [.s' 8 (.i' .i64)] .n')) .n'))
noncomputable def sY(fu:Nat):=kf fu Tryz.func22 [aiz fu,aps fu,Es fu] [.pr .s' (.pr .s' (.pr (.i' .i64) (.pr .s' (.pr (.r' (.pr .s' .s')) (.r' .c'))))),.s'] [.r' (.s'),.r' (.b')] (λx=>aru fu x.1 x.2) (.n')
noncomputable def Il(fu:Nat):=kf fu Tryz.func67 [] [.s'] [.r' (.s')] (λx=>awn fu x) (.s' .n' (.s' .n' (.j' [.w' 3 (.y')] [] (.s' .n' (.l' [.w' 3 (.y'),.s' 10 (.i' .i64)] (.s' .n' (.s' .n' (.s' (.s' .n' (.j' [.s' 20 (.b')] [0,1,2] .n' .n')) .n'))))) .n')))
noncomputable def Eu(fu:Nat):=kf fu Tryz.func38 [sY fu,bav fu,Il fu] [.pr (.r' (.pr .s' .s')) (.r' .c')] [.r' (.s'),.r' eU] (λx=>avb fu x) (.n')
noncomputable def azb(fu:Nat):=kf fu Tryz.func40 [] [.pr .s' (.pr .s' .b')] [.r' (.b')] (λx=>avc fu x) (.n')
noncomputable def apr(fu:Nat):=kf fu Tryz.func39 [azb fu] [.r' zI,.f' 40 .u'] [.r' (.i' .i64)] (λx=>abz fu x.1) (.s' .n' (.r' [] [] (.s' .n' (.l' [.s' 8 (.i' .i64)] .n')) .n'))
noncomputable def Ax(fu:Nat):=kf fu Tryz.func21 [asj fu,Eu fu,aid fu,apr fu,azb fu] [.pr (.r' (.pr .s' .s')) (.r' .c')] [.r' (.s'),.r' (.b')] (λx=>XN fu x) (.n')
noncomputable def Ik(fu:Nat):=kf fu Tryz.func9 [mj fu] [.r' (.pr .s' .s')] [.r' (.l' 37 32 (.pr .s' .s'))] (λx=>aqf fu x) (.s' .n' (.s' .n' (.j' [.s' 3 (.l' 37 32 (.pr .s' .s'))] [] (.s' .n' (.l' [.s' 3 (.l' 37 32 (.pr .s' .s')),.s' 4 (.i' .i64)] (.s' .n' (.s' (.s' .n' (.j' [.s' 29 (.b')] [0,2,3] .n' .n')) .n')))) .n')))
noncomputable def Nh(fu:Nat):=kf fu Tryz.func10 [mj fu,bau fu,bav fu] [.pr (.r' (.pr .s' .s')) (.r' .c')] [.r' (.b')] (λx=>sy fu x) (.s' .n' (.s' .n' (.r' [.s' 3 (.b')] [] (.s' .n' (.l' [.s' 3 (.b'),.s' 4 (.i' .i64)] (.s' .n' (.s' (.s' .n' (.s' (.j' [.s' 39 (.b')] [0,2,3,8] .n' .n') (.s' .n' (.s' .n' (.s' (.j' [.s' 79 (.b')] [0,1,2] .n' .n') .n'))))) .n')))) (.j' [.s' 2 (.b')] [0,1,7] .n' .n'))))
open Go.Value renaming slice → Vs, int → Vi, bool → Vb, pointer → Vp
open Go.Value renaming agg → kR, tuple → Kf
open List renaming flatMap → dY
open Tryz
theorem bbz(d:aoi fu a=δ r)(f:Gl w):CR prog 27 [str a] w λv c=>v=.bool r/\Hp w [] [] c:=
 XF (x:=a) (y:=r) (Ew fu).ok (λx=>[str x]) (λr=>.bool r) ⟨f,λb e=>by cases e⟩ d
theorem aua{r:(Int×(Int×Bool))×Bool}(f:X5 fu a d q=δ r)(h:Gl w):CR prog 28 [str a,.int .i64 d,str q] w λv e=>v=.tuple #[.agg #[.int .i64 r.1.1,.int .i64 r.1.2.1,.bool r.1.2.2],.bool r.2]/\Hp w [] [] e:=
 XF (x:=(a,d,q)) (y:=r) (bcj fu).ok (λx=>[str x.1,.int .i64 x.2.1,str x.2.2]) (λr=>.tuple #[.agg #[.int .i64 r.1.1,.int .i64 r.1.2.1,.bool r.1.2.2],.bool r.2]) ⟨h,λb g=>by cases g⟩ f
theorem vW{r:(aC×aC)×UInt8}(d:aik fu a=δ r)(f:Gl w):CR prog 61 [str a] w λv c=>v=.tuple #[.agg #[str r.1.1,str r.1.2],bt r.2]/\Hp w [] [] c:=
 XF (x:=a) (y:=r) (xO fu).ok (λx=>[str x]) (λr=>.tuple #[.agg #[str r.1.1,str r.1.2],bt r.2]) ⟨f,λb e=>by cases e⟩ d
theorem axw(d:mw fu f=δ r)(a:Gl w):CR prog 94 [bt f] w λv c=>v=.bool r/\Hp w [] [] c:=
 XF (x:=f) (y:=r) (aox fu).ok (λx=>[bt x]) (λr=>.bool r) ⟨a,λb e=>by cases e⟩ d
theorem Iu{r:Int×Bool}(d:arv fu a=δ r)(f:Gl w):CR prog 96 [str a] w λv c=>v=.tuple #[.int .i64 r.1,.bool r.2]/\Hp w [] [] c:=
 XF (x:=a) (y:=r) (Nd fu).ok (λx=>[str x]) (λr=>.tuple #[.int .i64 r.1,.bool r.2]) ⟨f,λb e=>by cases e⟩ d
theorem rV(e:agf fu a q=δ r)(g:Gl w):CR prog 56 [str a,str q] w λv d=>v=.bool r/\Hp w [] [] d:=
 XF (x:=(a,q)) (y:=r) (axs fu).ok (λx=>[str x.1,str x.2]) (λr=>.bool r) ⟨g,λb f=>by cases f⟩ e
variable {k:(aC×aC)}
theorem bal{r:aC×Bool}(d:ajs fu k=δ r)(f:Gl w):CR prog 20 [.agg #[str k.1,str k.2]] w λv c=>v=.tuple #[str r.1,.bool r.2]/\Hp w [] [] c:=
 XF (x:=k) (y:=r) (bbl fu).ok (λx=>[.agg #[str x.1,str x.2]]) (λr=>.tuple #[str r.1,.bool r.2]) ⟨f,λb e=>by cases e⟩ d
variable {h:qL}{g:(aC×Bool)}
theorem yI(s:Option χ)(c:Nat)(f:Nat)(e:Option χ)(a:Nat)(d:Nat)(r:XN fu h=δ g)(j:Gl w)(p:c=γ h.1)(o:Rd w s (dY dA h.1))(n:c<=f)(m:a=γ h.2)(l:Rd w e (dY eB h.2))(k:a<=d):CR prog 21 [(kR #[(Vs s c f),(Vs e a d)])] w λv w'=>v=(Kf #[(str g.1),(Vb g.2)])/\Hp w [] [] w':=
 bcq (x:=h) (y:=g) (Ax fu).ok [(s,c,f),(e,a,d)] [(kR #[(Vs s c f),(Vs e a d)])] (Kf #[(str g.1),(Vb g.2)]) ⟨j,λb i=>by cases i⟩ r (.intro (.intro p (.intro o n)) (.intro (.intro m (.intro l k)) trivial))
variable {c:(aC×aC×Int×aC×cD×(List UInt8))}
theorem It(h:Option χ)(d:Nat)(r:Nat)(f:Option χ)(i:Nat)(e:Nat)(j:aru fu c a=δ g)(l:Gl w)(s:d=γ c.2.2.2.2.1)(q:Rd w h (dY dA c.2.2.2.2.1))(p:d<=r)(o:i=γ c.2.2.2.2.2)(n:Rd w f (dY eB c.2.2.2.2.2))(m:i<=e):CR prog 22 [(kR #[(str c.1),(str c.2.1),(Vi .i64 c.2.2.1),(str c.2.2.2.1),(Vs h d r),(Vs f i e)]),(str a)] w λv w'=>v=(Kf #[(str g.1),(Vb g.2)])/\Hp w [] [] w':=
 bcq (x:=(c,a)) (y:=g) (sY fu).ok [(h,d,r),(f,i,e)] [(kR #[(str c.1),(str c.2.1),(Vi .i64 c.2.2.1),(str c.2.2.2.1),(Vs h d r),(Vs f i e)]),(str a)] (Kf #[(str g.1),(Vb g.2)]) ⟨l,λb k=>by cases k⟩ j (.intro (.intro s (.intro q p)) (.intro (.intro o (.intro n m)) trivial))
theorem bby(i:Option χ)(e:Nat)(D:Nat)(g:Option χ)(d:Nat)(f:Nat){r:(qL×Bool)}(p:aof fu h=δ r)(s:Gl w)(C:e=γ h.1)(B:Rd w i (dY dA h.1))(A:e<=D)(z:d=γ h.2)(u:Rd w g (dY eB h.2))(t:d<=f):CR prog 16 [(kR #[(Vs i e D),(Vs g d f)])] w λv w'=>∃(m:Option Nat),∃(k:Option χ),∃(c:Nat),∃(l:Option Nat),∃(j:Option χ),∃(a:Nat),v=(Kf #[(kR #[(Vs k (γ r.1.1) c),(Vs j (γ r.1.2) a)]),(Vb r.2)])/\Hp w [] [bA dA 37 2 m k c r.1.1,bA eB 5 1 l j a r.1.2] w':=
 P1 (x:=h) (y:=r) (Ev fu).ok [(i,e,D),(g,d,f)] [(kR #[(Vs i e D),(Vs g d f)])] 37 32 (.pr .s' .s') r.1.1 5 1 .c' r.1.2 (λk o c j n a=>(Kf #[(kR #[(Vs k o c),(Vs j n a)]),(Vb r.2)])) ⟨s,λb q=>by cases q⟩ p (.intro (.intro C (.intro B A)) (.intro (.intro z (.intro u t)) trivial))
variable {F:List UInt8}
theorem gK{h:List UInt8}(g:Option χ)(c:Nat)(f:Nat)(e:Option χ)(a:Nat)(d:Nat)(i:aii fu F h=δ r)(k:Gl w)(q:c=γ F)(p:Rd w g (dY eB F))(o:c<=f)(n:a=γ h)(m:Rd w e (dY eB h))(l:a<=d):CR prog 30 [(Vs g c f),(Vs e a d)] w λv w'=>v=(Vb r)/\Hp w [] [] w':=
 bcq (x:=(F,h)) (y:=r) (xN fu).ok [(g,c,f),(e,a,d)] [(Vs g c f),(Vs e a d)] (Vb r) ⟨k,λb j=>by cases j⟩ i (.intro (.intro q (.intro p o)) (.intro (.intro n (.intro m l)) trivial))
theorem Gc(d:aqg fu k=δ r)(f:Gl w):CR prog 19 [.agg #[str k.1,str k.2]] w λv c=>v=.bool r/\Hp w [] [] c:=
 XF (x:=k) (y:=r) (qU fu).ok (λx=>[.agg #[str x.1,str x.2]]) (λr=>.bool r) ⟨f,λb e=>by cases e⟩ d
variable {l:cD}
theorem ard(r:Option χ)(a:Nat)(c:Nat)(e:adj fu l=δ d)(g:Gl w)(j:a=γ l)(i:Rd w r (dY dA l))(h:a<=c):CR prog 36 [(Vs r a c),(Γ (.func 19) #[] #[])] w λv w'=>v=(Vi .i64 d)/\Hp w [] [] w':=
 bcq (x:=(l,())) (y:=d) (aiz fu).ok [(r,a,c)] [(Vs r a c),(Γ (.func 19) #[] #[])] (Vi .i64 d) ⟨g,λb f=>by cases f⟩ e (.intro (.intro j (.intro i h)) trivial)
theorem yF{a:qL}(o:Option χ)(g:Nat)(n:Nat)(m:Option χ)(f:Nat)(l:Nat)(k:Option χ)(e:Nat)(j:Nat)(i:Option χ)(d:Nat)(c:Nat)(p:axo fu h a=δ r)(s:Gl w)(I:g=γ h.1)(H:Rd w o (dY dA h.1))(G:g<=n)(F:f=γ h.2)(E:Rd w m (dY eB h.2))(D:f<=l)(C:e=γ a.1)(B:Rd w k (dY dA a.1))(A:e<=j)(z:d=γ a.2)(u:Rd w i (dY eB a.2))(t:d<=c):CR prog 32 [(kR #[(Vs o g n),(Vs m f l)]),(kR #[(Vs k e j),(Vs i d c)])] w λv w'=>v=(Vb r)/\Hp w [] [] w':=
 bcq (x:=(h,a)) (y:=r) (As fu).ok [(o,g,n),(m,f,l),(k,e,j),(i,d,c)] [(kR #[(Vs o g n),(Vs m f l)]),(kR #[(Vs k e j),(Vs i d c)])] (Vb r) ⟨s,λb q=>by cases q⟩ p (.intro (.intro I (.intro H G)) (.intro (.intro F (.intro E D)) (.intro (.intro C (.intro B A)) (.intro (.intro z (.intro u t)) trivial))))
theorem oW(e:Option χ)(c:Nat)(d:Nat){r:cD}(j:aqf fu l=δ r)(f:Gl w)(o:c=γ l)(n:Rd w e (dY dA l))(m:c<=d):CR prog 9 [(Vs e c d)] w λv w'=>∃(h:Option Nat),∃(g:Option χ),∃(a:Nat),v=(Vs g (γ r) a)/\Hp w [] [bA dA 37 2 h g a r] w':=
 P2 (x:=l) (y:=r) (Ik fu).ok [(e,c,d)] [(Vs e c d)] 37 32 (.pr .s' .s') r (λg i a=>(Vs g i a)) ⟨f,λb k=>by cases k⟩ j (.intro (.intro o (.intro n m)) trivial)
theorem Iv(g:Option χ)(c:Nat)(f:Nat)(e:Option χ)(a:Nat)(d:Nat)(s:sy fu h=δ r)(j:Gl w)(p:c=γ h.1)(o:Rd w g (dY dA h.1))(n:c<=f)(m:a=γ h.2)(l:Rd w e (dY eB h.2))(k:a<=d):CR prog 10 [(kR #[(Vs g c f),(Vs e a d)])] w λv w'=>v=(Vb r)/\Hp w [] [] w':=
 bcq (x:=h) (y:=r) (Nh fu).ok [(g,c,f),(e,a,d)] [(kR #[(Vs g c f),(Vs e a d)])] (Vb r) ⟨j,λb i=>by cases i⟩ s (.intro (.intro p (.intro o n)) (.intro (.intro m (.intro l k)) trivial))
variable {i:aC×UInt8}
theorem Gb(d:RL fu a=δ i)(f:Gl w):CR prog 24 [str a] w λv c=>v=.tuple #[str i.1,bt i.2]/\Hp w [] [] c:=
 XF (x:=a) (y:=i) (mj fu).ok (λx=>[str x]) (λi=>.tuple #[str i.1,bt i.2]) ⟨f,λb e=>by cases e⟩ d
theorem Iw(e:aph fu a q=δ i)(g:Gl w):CR prog 25 [str a,str q] w λv d=>v=.tuple #[str i.1,bt i.2]/\Hp w [] [] d:=
 XF (x:=(a,q)) (y:=i) (bau fu).ok (λx=>[str x.1,str x.2]) (λi=>.tuple #[str i.1,bt i.2]) ⟨g,λb f=>by cases f⟩ e
theorem Ql{a:(aC×aC×Int×aC×cD×(List UInt8))}(o:Option χ)(g:Nat)(n:Nat)(m:Option χ)(f:Nat)(l:Nat)(k:Option χ)(e:Nat)(j:Nat)(i:Option χ)(d:Nat)(h:Nat)(p:baj fu c a=δ r)(s:Gl w)(I:g=γ c.2.2.2.2.1)(H:Rd w o (dY dA c.2.2.2.2.1))(G:g<=n)(F:f=γ c.2.2.2.2.2)(E:Rd w m (dY eB c.2.2.2.2.2))(D:f<=l)(C:e=γ a.2.2.2.2.1)(B:Rd w k (dY dA a.2.2.2.2.1))(A:e<=j)(z:d=γ a.2.2.2.2.2)(u:Rd w i (dY eB a.2.2.2.2.2))(t:d<=h):CR prog 7 [(kR #[(str c.1),(str c.2.1),(Vi .i64 c.2.2.1),(str c.2.2.2.1),(Vs o g n),(Vs m f l)]),(kR #[(str a.1),(str a.2.1),(Vi .i64 a.2.2.1),(str a.2.2.2.1),(Vs k e j),(Vs i d h)])] w λv w'=>v=(Vb r)/\Hp w [] [] w':=
 bcq (x:=(c,a)) (y:=r) (wD fu).ok [(o,g,n),(m,f,l),(k,e,j),(i,d,h)] [(kR #[(str c.1),(str c.2.1),(Vi .i64 c.2.2.1),(str c.2.2.2.1),(Vs o g n),(Vs m f l)]),(kR #[(str a.1),(str a.2.1),(Vi .i64 a.2.2.1),(str a.2.2.2.1),(Vs k e j),(Vs i d h)])] (Vb r) ⟨s,λb q=>by cases q⟩ p (.intro (.intro I (.intro H G)) (.intro (.intro F (.intro E D)) (.intro (.intro C (.intro B A)) (.intro (.intro z (.intro u t)) trivial))))
open Go.Wk Go.Px
open Go.Lib renaming cut → eD, index → cK, join → cY, trimPrefix → fK
open Int renaming toNat → bF
open List renaming drop → cG, set → gQ, take → jV
theorem rf:Wk.Enters prog 51:=⟨f51,_,func51,rfl,aF⟩
theorem ent56:Wk.Enters prog 56:=⟨f56,_,func56,rfl,aF⟩
theorem ent57:Wk.Enters prog 57:=⟨f57,_,func57,rfl,aF⟩
theorem ent59:Wk.Enters prog 59:=⟨f59,_,func59,rfl,aF⟩
theorem ent60:Wk.Enters prog 60:=⟨f60,_,func60,rfl,aF⟩
theorem ent61:Wk.Enters prog 61:=⟨f61,_,func61,rfl,aF⟩
theorem ent83:Wk.Enters prog 83:=⟨f83,_,func83,rfl,aF⟩
theorem qz:Wk.Enters prog 94:=⟨f94,_,func94,rfl,aF⟩
theorem ent96:Wk.Enters prog 96:=⟨f96,_,func96,rfl,aF⟩
theorem ent97:Wk.Enters prog 97:=⟨f97,_,func97,rfl,aF⟩
theorem zu:Wk.Enters prog 135:=⟨f135,_,func135,rfl,aF⟩
theorem yG(r:apv fu a=δ q)(h:Gl w):CR prog 97 [(str a)] w λv w'=>∃d,v=(Γ (.func 135) #[] #[(Vp (cQ d))])/\Hp w [] [aS d [(str q)] 9] w':=by have e:=Hp.refl w;refine enter func97 rfl rfl fL ?_;unfold apv at r;refine sr (iQ e [(str a)] 9 (λb=>(Vp (cQ b))) rfl rfl aF λc g f=>wp 1 (nq (sr (wp 2 (wl ?_)))));refine qn (ct ?_);obtain rfl:=oi r;refine nR (Γ (.func 135) #[] #[(Vp (cQ c))]) rfl aF ?_;exact⟨c,iP,f.kp⟩
theorem aso{e:List aC}{d:jU}(c:Nat)(n:Loop)(m:Nat)(C:Option Nat)(l:Option χ)(j:Nat)(i:Nat)(B:Option Nat)(h:Option χ)(g:Nat)(f:Nat){r:((List aC)×jU×Nat)}(Y:acv fu e d a=δ r)(hG:Gl w)(hM:Hp w (dE [cH c 0 n,aS m [(Vs l (γ e) j)] 93,aS i [(Vs h (γ d) g)] 105,aS f [(str a)] 9,bA eS 9 1 C l j e,bA fM 109 2 B h g d]) [cH c 0 n,aS m [(Vs l (γ e) j)] 93,aS i [(Vs h (γ d) g)] 105,aS f [(str a)] 9,bA eS 9 1 C l j e,bA fM 109 2 B h g d] w)(hS:∀b∈dE [cH c 0 n,aS m [(Vs l (γ e) j)] 93,aS i [(Vs h (γ d) g)] 105,aS f [(str a)] 9,bA eS 9 1 C l j e,bA fM 109 2 B h g d],9<=b)(f4:∀f5 f6 d0 d1 f7 d5 d6 f8 d7 d8 V,Hp w (dE [cH c 0 n,aS m [(Vs l (γ e) j)] 93,aS i [(Vs h (γ d) g)] 105,aS f [(str a)] 9,bA eS 9 1 C l j e,bA fM 109 2 B h g d]) [cH c 0 n,aS m [(Vs d5 (γ d0) d6)] 93,aS i [(Vs d7 (γ d1) d8)] 105,bA eS 9 1 f7 d5 d6 d0,bA fM 109 2 f8 d7 d8 d1] V->∀L,X2 fu f5 f6 d0 d1=δ L->YR prog c [(Vi .i64 f5),(str f6)] V λv g6=>∃g7,∃f9,∃F,∃g8,∃g0,∃E,v=Vb (decide (L.1=0))/\Hp V (dE [cH c 0 n,aS m [(Vs d5 (γ d0) d6)] 93,aS i [(Vs d7 (γ d1) d8)] 105,bA eS 9 1 f7 d5 d6 d0,bA fM 109 2 f8 d7 d8 d1]) [cH c L.1 n,aS m [(Vs f9 (γ L.2.1) F)] 93,aS i [(Vs g0 (γ L.2.2) E)] 105,bA eS 9 1 g7 f9 F L.2.1,bA fM 109 2 g8 g0 E L.2.2] g6):CR prog 135 [(Γ (.yield c) #[] #[]),(Vp (cQ f))] w λv w'=>∃o0,∃a0,∃K,∃o1,∃a1,∃J,v=(Kf #[])/\Hp w (dE [cH c 0 n,aS m [(Vs l (γ e) j)] 93,aS i [(Vs h (γ d) g)] 105,aS f [(str a)] 9,bA eS 9 1 C l j e,bA fM 109 2 B h g d]) [aS m [(Vs a0 (γ r.1) K)] 93,aS i [(Vs a1 (γ r.2.1) J)] 105,aS f [(str a)] 9,bA eS 9 1 o0 a0 K r.1,bA fM 109 2 o1 a1 J r.2.1,cH c r.2.2 n] w':=by
 have hH:Hp w (dE [cH c 0 n,aS m [(Vs l (γ e) j)] 93,aS i [(Vs h (γ d) g)] 105,aS f [(str a)] 9,bA eS 9 1 C l j e,bA fM 109 2 B h g d]) [cH c 0 n,aS m [(Vs l (γ e) j)] 93,aS i [(Vs h (γ d) g)] 105,aS f [(str a)] 9,bA eS 9 1 C l j e,bA fM 109 2 B h g d] w:=hM;refine KQ (k:=35) func135 rfl rfl fL ?_;unfold acv at Y;refine sr (wp 1 (nq (ce (Yx (σ:=Nat×Int×(List aC)×jU×(Option Nat)×(Option χ)×Nat×(Option Nat)×(Option χ)×Nat) [0,1,3] (λ⟨M,A,u,t,z,s,q,y,p,o⟩=>[(3,(Vi .i64 A))]) (λ⟨M,A,u,t,z,s,q,y,p,o⟩ w'=>Hp w (dE [cH c 0 n,aS m [(Vs l (γ e) j)] 93,aS i [(Vs h (γ d) g)] 105,aS f [(str a)] 9,bA eS 9 1 C l j e,bA fM 109 2 B h g d]) [cH c 0 n,aS m [(Vs s (γ u) q)] 93,aS i [(Vs p (γ t) o)] 105,aS f [(str a)] 9,bA eS 9 1 z s q u,bA fM 109 2 y p o t] w'/\tm fu a M A u t=δ r) (λ⟨M,A,u,t,z,s,q,y,p,o⟩=>M) (fu,(0:Int),e,d,C,l,j,B,h,g) (by exact⟨(Hp.front (Hp.front (Hp.front (Hp.front (Hp.front (Hp.front hH 5 _ rfl) 5 _ rfl) 5 _ rfl) 5 _ rfl) 5 _ rfl) 5 _ rfl).kp,Y⟩) ?_))));rintro⟨_|M,A,u,t,z,s,q,y,p,o⟩ g9 G ⟨d2,x⟩
 ·exact Ug x
 rw [aaz,nj]at x;refine cs (sr (wp 1 (iD d2 3 f 0 _ 9 _ rfl rfl aF aF (wp 2 (nq (cd x (λh0 x=> ?_) (λh0 x=> ?_)))))));refine ck (qn (ce (sr (iD d2 3 f 0 _ 9 _ rfl rfl aF aF (wp 1 (gi x λh1 x=>pL a .i64 A underlying9 aF aF h1 (gi x λh2 x=> ?_)))))));refine pA 55 #[] [(str (cG (bF A) a)),(str ([13,10]:aC))] _ rb aF aF (Lm (cG (bF A) a) ([13,10]:aC) g9 h2 (hG.hp d2 hS)) ?_;rintro _ D ⟨rfl,g1⟩;have d9:=d2.call g1;clear g1;refine wp 1 (nq (cs (sr (wp 2 (nq (cd x (λh3 x=> ?_) (λh3 x=> ?_)))))));refine sr (wp 2 (iD d9 3 f 0 _ 9 _ rfl rfl aF aF (wp 1 (gi x λh4 x=>pL a .i64 A underlying9 aF aF h4 (bi x λI h5 x=> ?_)))));have h6:Hp w (dE [cH c 0 n,aS m [(Vs l (γ e) j)] 93,aS i [(Vs h (γ d) g)] 105,aS f [(str a)] 9,bA eS 9 1 C l j e,bA fM 109 2 B h g d]) [bA fM 109 2 y p o t,cH c 0 n,aS m [(Vs s (γ u) q)] 93,aS i [(Vs p (γ t) o)] 105,aS f [(str a)] 9,bA eS 9 1 z s q u] D:=d9.front 5 _ rfl;have h7:Hp w (dE [cH c 0 n,aS m [(Vs l (γ e) j)] 93,aS i [(Vs h (γ d) g)] 105,aS f [(str a)] 9,bA eS 9 1 C l j e,bA fM 109 2 B h g d]) [bA eS 9 1 z s q u,bA fM 109 2 y p o t,cH c 0 n,aS m [(Vs s (γ u) q)] 93,aS i [(Vs p (γ t) o)] 105,aS f [(str a)] 9] D:=h6.front 5 _ rfl;have h8:Hp w (dE [cH c 0 n,aS m [(Vs l (γ e) j)] 93,aS i [(Vs h (γ d) g)] 105,aS f [(str a)] 9,bA eS 9 1 C l j e,bA fM 109 2 B h g d]) [aS i [(Vs p (γ t) o)] 105,bA eS 9 1 z s q u,bA fM 109 2 y p o t,cH c 0 n,aS m [(Vs s (γ u) q)] 93,aS f [(str a)] 9] D:=h7.front 4 _ rfl;have h9:Hp w (dE [cH c 0 n,aS m [(Vs l (γ e) j)] 93,aS i [(Vs h (γ d) g)] 105,aS f [(str a)] 9,bA eS 9 1 C l j e,bA fM 109 2 B h g d]) [aS m [(Vs s (γ u) q)] 93,aS i [(Vs p (γ t) o)] 105,bA eS 9 1 z s q u,bA fM 109 2 y p o t,cH c 0 n,aS f [(str a)] 9] D:=h8.front 4 _ rfl;have g2:Hp w (dE [cH c 0 n,aS m [(Vs l (γ e) j)] 93,aS i [(Vs h (γ d) g)] 105,aS f [(str a)] 9,bA eS 9 1 C l j e,bA fM 109 2 B h g d]) [cH c 0 n,aS m [(Vs s (γ u) q)] 93,aS i [(Vs p (γ t) o)] 105,bA eS 9 1 z s q u,bA fM 109 2 y p o t,aS f [(str a)] 9] D:=h9.front 4 _ rfl;have i0:Hp w (dE [cH c 0 n,aS m [(Vs l (γ e) j)] 93,aS i [(Vs h (γ d) g)] 105,aS f [(str a)] 9,bA eS 9 1 C l j e,bA fM 109 2 B h g d]) [cH c 0 n,aS m [(Vs s (γ u) q)] 93,aS i [(Vs p (γ t) o)] 105,bA eS 9 1 z s q u,bA fM 109 2 y p o t] D:=Hp.Ze (L1:=[cH c 0 n,aS m [(Vs s (γ u) q)] 93,aS i [(Vs p (γ t) o)] 105,bA eS 9 1 z s q u,bA fM 109 2 y p o t]) (L2:=[aS f [(str a)] 9]) g2;refine zF c _ _ aF aF (f4 A (cG (bF A) a) u t z s q y p o D i0 I h5) ?_;rintro _ i1 ⟨X,U,T,W,S,R,rfl,g3⟩;have f0:Hp w (dE [cH c 0 n,aS m [(Vs l (γ e) j)] 93,aS i [(Vs h (γ d) g)] 105,aS f [(str a)] 9,bA eS 9 1 C l j e,bA fM 109 2 B h g d]) [cH c I.1 n,aS m [(Vs U (γ I.2.1) T)] 93,aS i [(Vs S (γ I.2.2) R)] 105,bA eS 9 1 X U T I.2.1,bA fM 109 2 W S R I.2.2,aS f [(str a)] 9] i1:=Hp.dL (L1:=[cH c 0 n,aS m [(Vs s (γ u) q)] 93,aS i [(Vs p (γ t) o)] 105,bA eS 9 1 z s q u,bA fM 109 2 y p o t]) (L2:=[aS f [(str a)] 9]) g2 g3;clear g3;by_cases d3:I.1=0;replace x:=HV d3 x;rw [d3]at f0;rw [show decide (I.1=0)=ζ from(aK d3)];refine nq (ct (st (gU (kW (gU ?_)))));obtain rfl:=oi x;refine xD rfl ?_;exact⟨X,U,T,W,S,R,iP,(Hp.front (Hp.front (Hp.front (Hp.front (Hp.front f0 4 _ rfl) 4 _ rfl) 5 _ rfl) 5 _ rfl) 5 _ rfl).kp⟩;replace x:=HW d3 x;rw [show decide (I.1=0)=η from(aL d3)];refine nq (ct (st (gU (kW (gU ?_)))));obtain rfl:=oi x;refine xD rfl ?_;exact⟨X,U,T,W,S,R,iP,(Hp.front (Hp.front (Hp.front (Hp.front (Hp.front f0 4 _ rfl) 4 _ rfl) 5 _ rfl) 5 _ rfl) 5 _ rfl).kp⟩;refine ck (qn (cs (sr (wp 2 (iD d9 3 f 0 _ 9 _ rfl rfl aF aF (wp 3 (gi x λi2 x=>vH A _ aF aF i2 ?_)))))));refine gi x λi3 x=>MQ a .i64 .i64 A (A+(cK (cG (bF A) a) ([13,10]:aC))) underlying9 aF aF aF i3 (bi x λH i4 x=> ?_);have i5:Hp w (dE [cH c 0 n,aS m [(Vs l (γ e) j)] 93,aS i [(Vs h (γ d) g)] 105,aS f [(str a)] 9,bA eS 9 1 C l j e,bA fM 109 2 B h g d]) [bA fM 109 2 y p o t,cH c 0 n,aS m [(Vs s (γ u) q)] 93,aS i [(Vs p (γ t) o)] 105,aS f [(str a)] 9,bA eS 9 1 z s q u] D:=d9.front 5 _ rfl;have i6:Hp w (dE [cH c 0 n,aS m [(Vs l (γ e) j)] 93,aS i [(Vs h (γ d) g)] 105,aS f [(str a)] 9,bA eS 9 1 C l j e,bA fM 109 2 B h g d]) [bA eS 9 1 z s q u,bA fM 109 2 y p o t,cH c 0 n,aS m [(Vs s (γ u) q)] 93,aS i [(Vs p (γ t) o)] 105,aS f [(str a)] 9] D:=i5.front 5 _ rfl;have i7:Hp w (dE [cH c 0 n,aS m [(Vs l (γ e) j)] 93,aS i [(Vs h (γ d) g)] 105,aS f [(str a)] 9,bA eS 9 1 C l j e,bA fM 109 2 B h g d]) [aS i [(Vs p (γ t) o)] 105,bA eS 9 1 z s q u,bA fM 109 2 y p o t,cH c 0 n,aS m [(Vs s (γ u) q)] 93,aS f [(str a)] 9] D:=i6.front 4 _ rfl;have i9:Hp w (dE [cH c 0 n,aS m [(Vs l (γ e) j)] 93,aS i [(Vs h (γ d) g)] 105,aS f [(str a)] 9,bA eS 9 1 C l j e,bA fM 109 2 B h g d]) [aS m [(Vs s (γ u) q)] 93,aS i [(Vs p (γ t) o)] 105,bA eS 9 1 z s q u,bA fM 109 2 y p o t,cH c 0 n,aS f [(str a)] 9] D:=i7.front 4 _ rfl;have g4:Hp w (dE [cH c 0 n,aS m [(Vs l (γ e) j)] 93,aS i [(Vs h (γ d) g)] 105,aS f [(str a)] 9,bA eS 9 1 C l j e,bA fM 109 2 B h g d]) [cH c 0 n,aS m [(Vs s (γ u) q)] 93,aS i [(Vs p (γ t) o)] 105,bA eS 9 1 z s q u,bA fM 109 2 y p o t,aS f [(str a)] 9] D:=i9.front 4 _ rfl;have j0:Hp w (dE [cH c 0 n,aS m [(Vs l (γ e) j)] 93,aS i [(Vs h (γ d) g)] 105,aS f [(str a)] 9,bA eS 9 1 C l j e,bA fM 109 2 B h g d]) [cH c 0 n,aS m [(Vs s (γ u) q)] 93,aS i [(Vs p (γ t) o)] 105,bA eS 9 1 z s q u,bA fM 109 2 y p o t] D:=Hp.Ze (L1:=[cH c 0 n,aS m [(Vs s (γ u) q)] 93,aS i [(Vs p (γ t) o)] 105,bA eS 9 1 z s q u,bA fM 109 2 y p o t]) (L2:=[aS f [(str a)] 9]) g4;refine zF c _ _ aF aF (f4 A (sub a A (A+(cK (cG (bF A) a) ([13,10]:aC)))) u t z s q y p o D j0 H i4) ?_;rintro _ j1 ⟨f1,Q,P,f2,O,N,rfl,Z⟩;have f3:Hp w (dE [cH c 0 n,aS m [(Vs l (γ e) j)] 93,aS i [(Vs h (γ d) g)] 105,aS f [(str a)] 9,bA eS 9 1 C l j e,bA fM 109 2 B h g d]) [cH c H.1 n,aS m [(Vs Q (γ H.2.1) P)] 93,aS i [(Vs O (γ H.2.2) N)] 105,bA eS 9 1 f1 Q P H.2.1,bA fM 109 2 f2 O N H.2.2,aS f [(str a)] 9] j1:=Hp.dL (L1:=[cH c 0 n,aS m [(Vs s (γ u) q)] 93,aS i [(Vs p (γ t) o)] 105,bA eS 9 1 z s q u,bA fM 109 2 y p o t]) (L2:=[aS f [(str a)] 9]) g4 Z;clear Z;by_cases d4:H.1=0;replace x:=HV d4 x;rw [d4]at f3;rw [show decide (H.1=0)=ζ from(aK d4)];refine wp 1 (nq (lh aF (ck (qn (cr (wp 2 (gi x λj2 x=>vH (cK (cG (bF A) a) ([13,10]:aC)) _ aF aF j2 ?_)))))));refine gi x λj3 x=>vH A _ aF aF j3 (wp 1 (wl (bn (ql ?_))));exact⟨(M,A+((cK (cG (bF A) a) ([13,10]:aC))+(2:Int)),H.2.1,H.2.2,f1,Q,P,f2,O,N),_,rfl,by kernel_rfl,⟨(Hp.front (Hp.front (Hp.front (Hp.front (Hp.front (Hp.front f3 4 _ rfl) 4 _ rfl) 5 _ rfl) 5 _ rfl) 5 _ rfl) 5 _ rfl).kp,x⟩,nF _⟩;replace x:=HW d4 x;rw [show decide (H.1=0)=η from(aL d4)];refine wp 1 (nq (tP aF (ct (st (gU (kW (gU ?_)))))));obtain rfl:=oi x;refine xD rfl ?_;exact⟨f1,Q,P,f2,O,N,iP,(Hp.front (Hp.front (Hp.front (Hp.front (Hp.front f3 4 _ rfl) 4 _ rfl) 5 _ rfl) 5 _ rfl) 5 _ rfl).kp⟩;refine Ch (yV (Ci (Cg ?_)));obtain rfl:=oi x;refine uN rfl ?_;exact⟨z,s,q,y,p,o,iP,(Hp.front (Hp.front (Hp.front (Hp.front (Hp.front d2 5 _ rfl) 5 _ rfl) 5 _ rfl) 5 _ rfl) 5 _ rfl).kp⟩
theorem Ga{fu:Nat}{s_0:aC}{w:ν}{r:(jU×Int×UInt8)}(a:amu fu s_0=δ r)(F:Gl w):CR prog 60 [(str s_0)] w λv w'=>∃(o0:Option Nat),∃(a0:Option χ),∃(L:Nat),v=(Kf #[(Vs a0 (γ r.1) L),(Vi .i64 r.2.1),(bt r.2.2)])/\Hp w [] [bA fM 109 2 o0 a0 L r.1] w':=by
 have V:=Hp.refl w;refine KP func60 rfl rfl fL ?_;unfold amu at a;refine sr (wp 3 (nq (cs (sr (wp 2 (wl ?_))))));refine qn (cd a (λh1 a=> ?_) (λh1 a=> ?_));refine sr (wp 3 (nq (ct (st ?_))));obtain rfl:=oi a;refine Mz _ [(Vs ε 0 0),(Vi .i64 0),(bt 0)] (Kf #[(Vs ε 0 0),(Vi .i64 0),(bt 0)]) rfl rfl (lD (vG aF) (lD (vG aF) (lD (vG aF) Rb))) rfl ?_;exact⟨ε,ε,0,iP,(Hp.dF V fM 109 2 ε).kp⟩;refine ck (qn (cs (sr (wp 1 (gi a λg2 a=>uI s_0 .i64 0 underlying9 aF aF g2 (bi a λy3 h5 a=>wc qz V (axw h5 (F.iJ V)) λw5 e1=> ?_))))));refine nq (cb a (λh8 a=> ?_) (λh8 a=> ?_));refine sr (wp 3 (nq (ct (st ?_))));obtain rfl:=oi a;refine Mz _ [(Vs ε 0 0),(Vi .i64 _),(bt 5)] (Kf #[(Vs ε 0 0),(Vi .i64 0),(bt 5)]) rfl rfl (lD (vG aF) (lD (vG aF) (lD (vG aF) Rb))) rfl ?_;exact⟨ε,ε,0,iP,(Hp.dF e1 fM 109 2 ε).kp⟩;refine ck (qn (cs (sr (wp 1 (bi a λy9 h6 a=>wc ent96 e1 (Iu h6 (F.iJ e1)) λo1 e2=>wp 5 (wl ?_))))));refine qn (sr (wp 1 (nq (cb a (λh7 a=> ?_) (λh7 a=> ?_)))));refine sr (wp 4 (nq (ct (st ?_))));obtain rfl:=oi a;refine Mz _ [(Vs ε 0 0),(Vi .i64 y9.1),(bt 5)] (Kf #[(Vs ε 0 0),(Vi .i64 y9.1),(bt 5)]) rfl rfl (lD (vG aF) (lD (vG aF) (lD (vG aF) Rb))) rfl ?_;exact⟨ε,ε,0,iP,(Hp.dF e2 fM 109 2 ε).kp⟩;refine ck (qn (cs (sr (wp 1 (bi a λo2 h9 a=>wc ent56 e2 (rV h9 (F.iJ e2)) λo4 f5=>wp 1 (wl ?_))))));refine qn (cb a (λi0 a=> ?_) (λi0 a=> ?_));refine sr (wp 5 (nq (ct (st ?_))));obtain rfl:=oi a;refine Mz _ [(Vs ε 0 0),(Vi .i64 (γ s_0)),(bt 6)] (Kf #[(Vs ε 0 0),(Vi .i64 (γ s_0)),(bt 6)]) rfl rfl (lD (vG aF) (lD (vG aF) (lD (vG aF) Rb))) rfl ?_;exact⟨ε,ε,0,iP,(Hp.dF f5 fM 109 2 ε).kp⟩;refine ck (qn (sr (iQ f5 [(Vs ε 0 0)] 105 (λb=>(Vp (cQ b))) rfl rfl aF λg o5 i1=>nq (sr (iQ i1 [(Vs ε 0 0)] 93 (λb=>(Vp (cQ b))) rfl rfl aF λn o6 f6=> ?_)))));refine nq (cs (sr (wp 1 (bi a λe3 i2 a=>pA 97 #[] [(str s_0)] _ ent97 aF aF (yG i2 (F.iJ f6)) ?_))));rintro _ i3 ⟨U,rfl,f7⟩;have i4:Hp w [] [aS U [(str e3)] 9,aS n [(Vs ε 0 0)] 93,aS g [(Vs ε 0 0)] 105] i3:=Hp.dL (L1:=[]) (L2:=[aS n _ 93,aS g _ 105]) f6 f7;clear f7;refine nq (ce (tQ i4 135 [(Vp (cQ U))] aF zu λe4 p y d0 i5 i6 i7 i9 j0=> ?_));have e5:=j0.dF eS 9 1 ε;replace e5:Hp w [] _ d0:=e5;have e6:=e5.dF fM 109 2 ε;replace e6:Hp w [] _ d0:=e6;have e7:=e6.dF eS 9 1 ε;replace e7:Hp w [] _ d0:=e7;have e8:=e7.dF fM 109 2 ε;replace e8:Hp w [] _ d0:=e8;refine bi a λd j1 a=> ?_;have j2:=e8.front 1 _ rfl;have j3:=j2.front 6 _ rfl;have j4:=j3.front 8 _ rfl;have j5:=j4.front 8 _ rfl;have d1:=j5.front 7 _ rfl;have X:∀d2 P f c x k j u l m A,Hp d0 (dE [cH p 0 y,aS n [(Vs ε 0 0)] 93,aS g [(Vs ε 0 0)] 105,aS U [(str e3)] 9,bA eS 9 1 ε ε 0 [],bA fM 109 2 ε ε 0 []]) [cH p 0 y,aS n [(Vs k (γ f) j)] 93,aS g [(Vs l (γ c) m)] 105,bA eS 9 1 x k j f,bA fM 109 2 u l m c] A->∀(K:(Nat×_×_)),X2 fu d2 P f c=δ K->YR prog p [(Vi .i64 d2),(str P)] A λv j6=>∃j7,∃f8,∃C,∃j8,∃f9,∃B,v=Vb (decide (K.1=0))/\Hp A (dE [cH p 0 y,aS n [(Vs k (γ f) j)] 93,aS g [(Vs l (γ c) m)] 105,bA eS 9 1 x k j f,bA fM 109 2 u l m c]) [cH p K.1 y,aS n [(Vs f8 (γ K.2.1) C)] 93,aS g [(Vs f9 (γ K.2.2) B)] 105,bA eS 9 1 j7 f8 C K.2.1,bA fM 109 2 j8 f9 B K.2.2] j6:=by intro d2 P f c x k j u l m E d4 K i;have D:=Hp.dL d1 d4;have W:=F;replace F:=F.iJ D;have e:=Hp.qW D W (λ_ h=>absurd h aA2) 5 rfl;unfold X2 at i;refine Kh (Hp.hand (L1:=[cH p 0 y,aS n [(Vs k (γ f) j)] 93,aS g [(Vs l (γ c) m)] 105,bA eS 9 1 x k j f,bA fM 109 2 u l m c]) (L2:=[]) (by simpa using d4)) 0 rfl i5 i6 i7 i9 rfl ?_;have V:Hp E (dE [cH p 0 y,aS n [(Vs k (γ f) j)] 93,aS g [(Vs l (γ c) m)] 105,bA eS 9 1 x k j f,bA fM 109 2 u l m c]) [cH p 0 y,aS n [(Vs k (γ f) j)] 93,aS g [(Vs l (γ c) m)] 105,bA eS 9 1 x k j f,bA fM 109 2 u l m c] E:=Hp.hand (L1:=[cH p 0 y,aS n [(Vs k (γ f) j)] 93,aS g [(Vs l (γ c) m)] 105,bA eS 9 1 x k j f,bA fM 109 2 u l m c]) (L2:=[]) (by simpa using d4);clear D d4;refine sr (wp 1 (nq (cr (wp 1 (wl (Py V 0 rfl λo7 d5=>ce ?_))))));refine bi i λj9 t i=>cut (σ:=((List aC)×(List _))×(Option Nat)×(Option χ)×Nat) [8,10] (λ⟨J,d3,T,S⟩=>[]) (λ⟨J,d3,T,S⟩ w'=>Hp E (dE [cH p 0 y,aS n [(Vs k (γ f) j)] 93,aS g [(Vs l (γ c) m)] 105,bA eS 9 1 x k j f,bA fM 109 2 u l m c]) [Gz p y,aS n [(Vs k (γ J.1) j)] 93,aS g [(Vs T (γ J.2) S)] 105,bA eS 9 1 x k j J.1,bA fM 109 2 d3 T S J.2] w'/\J=j9) ?_ ?_;refine bi t λk0 I t=>lC d5 [7,8,9,10,40] [(40,(Vb k0))] ?_ ?_;refine cr (wp 2 (wd I (λk1 I=> ?_) (λk1 I=> ?_)));refine wp 5 (wl (ql ?_));obtain rfl:=oi I;exact je (Hp.front (Hp.front (Hp.front (Hp.front (Hp.front d5 4 _ rfl) 4 _ rfl) 4 _ rfl) 4 _ rfl) 4 _ rfl).kp;refine wp 1 (gy 35 (gi I λk2 I=>uI P .i64 0 underlying9 aF aF k2 (gy 35 (bi I λo8 k3 I=>wc qz d5 (axw k3 (F.hp d5 e)) λo9 k4=>wp 2 (wl (ql ?_))))));obtain rfl:=oi I;exact je (Hp.front (Hp.front (Hp.front (Hp.front (Hp.front k4 4 _ rfl) 4 _ rfl) 4 _ rfl) 4 _ rfl) 4 _ rfl).kp;intro p0 G d6;refine cb t (λk5 t=> ?_) (λk5 t=> ?_);refine bi t λk6 s t=>cut (σ:=(List _)) [7,8,9,10] (λH=>[]) (λH w'=>Hp E (dE [cH p 0 y,aS n [(Vs k (γ f) j)] 93,aS g [(Vs l (γ c) m)] 105,bA eS 9 1 x k j f,bA fM 109 2 u l m c]) [Gz p y,aS n [(Vs k (γ f) j)] 93,aS g [(Vs l (γ H) m)] 105,bA eS 9 1 x k j f,bA fM 109 2 u l m H] w'/\γ H=γ c/\H=k6) ?_ ?_;refine sr (iD d6 2 g 0 _ 105 _ rfl rfl aF aF (wp 2 (nq (cd s (λk7 s=> ?_) (λk7 s=> ?_)))));refine gi s λk8 s=>gi s λk9 s=>c_np (Wd 6 (λM A o=>dD [6,7,8] (λw'=>w'.heap[g]? =δ (.cells [(Vs l (γ c) m)].toArray 105 (0,0))) M A o/\dD [2,3,6,7,8] (λw'=>w'.heap[g]? =δ (.cells [(Vs l (γ c) m)].toArray 105 (0,0))) M A o/\dD [5,6,7,8] (λw'=>w'.heap[n]? =δ (.cells [(Vs k (γ f) j)].toArray 93 (0,0))) M A o/\True) _ (λ_ _=>⟨dD.same,dD.same,dD.same,trivial⟩) aF aF d6 rfl qa λl0 R=>bce _ 0 44 _ [6,7,8] (λ_ _ _ h=>h.1) _ rfl rfl aF aF aF aF aF rfl (iE rfl (by intro E e;exact(jW g 0 _ 105 _ e rfl aF aF))) (by exact R.dG 2 rfl) (bce _ 1 45 _ [2,3,6,7,8] (λ_ _ _ h=>h.2.1) _ rfl rfl aF aF aF aF aF rfl (iE rfl (by intro E e;exact(jW g 0 _ 105 _ e rfl aF aF))) (by exact R.dG 2 rfl) (rpO 3 [2] (rtO 3 _ rfl rfl (iE rfl (by intro E e;exact(uG (γ c) 1 aF aF k8))) (bce _ 4 48 _ [5,6,7,8] (λ_ _ _ h=>h.2.2.1) _ rfl rfl aF aF aF aF aF rfl (iE rfl (by intro E e;exact(jW n 0 _ 93 _ e rfl aF aF))) (by exact R.dG 1 rfl) (roO 5 rfl ?_))))));refine pA 51 #[] [(Vs k (γ f) j),(str [32])] _ rf aF aF (Xv [32] l0 k (γ f) j f rfl (R.eV 3 rfl) (R.sK 3 rfl) k9) ?_;rintro _ p1 ⟨rfl,g0⟩;have d7:=R.call g0;clear g0;refine wl (OG (by exact⟨dD.new (d7.dG 2 rfl),dD.new (d7.dG 2 rfl),dD.out rfl,trivial⟩) (OE aF (gi s λl1 s=>yU l (γ c) m 109 2 .i64 _ underlying105 aF aF aF c rfl l1 (d7.eV 4 rfl) ati aA1 (WA l ((γ c-(1:Int)).toNat*2) 1 aF aF (gi s λl2 s=>ov d7 4 u l m 109 2 _ 1 c ((el c (γ c-1)).1,cY f [32]) rfl ati (str (cY f [32])) l2 aF aF aF aF aA1 λl3 Z=> ?_)))));replace Z:Hp E _ _ l3:=Z;refine wl (Ui (ql ?_));obtain rfl:=oi s;exact⟨gQ c _ _,_,rfl,by kernel_rfl,(Hp.front (Hp.front (Hp.front (Hp.front (Hp.front (Z.blkeq 2 g _ [(Vs l (γ (gQ c (bF (γ c-1)) ((el c (γ c-1)).1,cY f [32]))) m)] 105 rfl aA2) 4 _ rfl) 4 _ rfl) 4 _ rfl) 4 _ rfl) 4 _ rfl).kp,WZ,rfl⟩;refine ck (ql ?_);obtain rfl:=oi s;exact⟨c,_,rfl,by kernel_rfl,(Hp.front (Hp.front (Hp.front (Hp.front (Hp.front d6 4 _ rfl) 4 _ rfl) 4 _ rfl) 4 _ rfl) 4 _ rfl).kp,WZ,rfl⟩;rintro H p2 G ⟨g1,p3,rfl⟩;refine sr (iD g1 2 g 0 _ 105 _ rfl rfl aF aF (wp 2 (iQ g1 _ 109 (λb=>(Vs (cQ b) 1 1)) rfl rfl aF λp4 p5 g3=>gi t λl4 t=>RH g3 5 u l _ m 1 109 2 24 H _ ati rfl underlying105 aA9 aA1 aA1 aF (gX aF (WG aA7)) (g3.nP 0 rfl) l4 λl5 g4 g5 l6 f0=> ?_)));replace f0:Hp E _ _ l6:=f0;refine Sp f0 3 g 0 _ 105 (Vs g4 (γ (H++([(d2,[])]:List _))) g5) _ rfl (Tb (nF _) fL) aF aF rfl aF rfl λp6 f1=>nq (cr (iD f1 2 n 0 _ 93 _ rfl rfl aF aF (gi t λl7 t=>YW k (γ f) j 9 1 .i64 (0:Int) underlying93 aF aF aF f rfl l7 (f1.sK 4 rfl) (Sp f1 2 n 0 _ 93 (Vs k (bF (0:Int)) j) _ rfl (Tb (nF _) fL) aF aF rfl aF rfl λp7 l8=>wl (ql ?_)))));obtain rfl:=oi t;exact⟨((jV _ f,H++([(d2,[])]:List _)),l5,g4,g5),_,rfl,by kernel_rfl,(Hp.front (Hp.front (Hp.front (Hp.front (Hp.front (Hp.cuts l8 R1 4 rfl (bF 0)) 5 _ rfl) 5 _ rfl) 5 _ rfl) 5 _ rfl) 5 _ rfl).kp,rfl⟩;refine ck (ql ?_);obtain rfl:=oi t;exact⟨((f,c),u,l,m),_,rfl,by kernel_rfl,(Hp.front (Hp.front (Hp.front (Hp.front (Hp.front d6 4 _ rfl) 4 _ rfl) 4 _ rfl) 4 _ rfl) 4 _ rfl).kp,rfl⟩;rintro⟨J,d3,T,S⟩ l9 G ⟨m0,rfl⟩;refine sr (wp 1 (gi i λm1 i=>gi i λm2 i=>pA 83 #[] [(str P),(str [32,9])] _ ent83 aF aF (NL P [32,9] l9 m1 m2) ?_));rintro _ p8 ⟨rfl,g6⟩;have f2:=m0.call g6;clear g6;refine wp 1 (nq (sr (wp 2 (nq (cn i (λm3 i=> ?_) (λm3 i=> ?_))))));refine cr (iD f2 1 n 0 _ 93 _ rfl rfl aF aF (wp 1 (iQ f2 _ 9 (λb=>(Vs (cQ b) 1 1)) rfl rfl aF λp9 q0 g7=>gi i λm4 i=>RH g7 4 x k _ j 1 9 1 16 J.1 _ R1 rfl underlying93 aA9 aA1 aA1 aF (gX aF (WG aA7)) (g7.nP 0 rfl) m4 λm5 g8 g9 m6 f3=> ?_)));replace f3:Hp E _ _ m6:=f3;refine Sp f3 2 n 0 _ 93 (Vs g8 (γ (J.1++([Lib.trimS P [32,9]]:List aC))) g9) _ rfl (Tb (nF _) fL) aF aF rfl aF rfl λq1 m7=>wl (bn ?_);obtain rfl:=oi i;refine pV m7 1 rfl λq2 m8=> ?_;exact⟨m5,g8,g9,d3,T,S,aB8,(Hp.front (Hp.front (Hp.front (Hp.front (Hp.front m8 5 _ rfl) 5 _ rfl) 5 _ rfl) 5 _ rfl) 5 _ rfl).kp⟩;refine ck (bn ?_);obtain rfl:=oi i;refine pV f2 0 rfl λq3 m9=> ?_;exact⟨x,k,j,d3,T,S,aB8,(Hp.front (Hp.front (Hp.front (Hp.front (Hp.front m9 4 _ rfl) 4 _ rfl) 4 _ rfl) 4 _ rfl) 4 _ rfl).kp⟩
 refine CR.mono (aso p y n ε ε 0 g ε ε 0 U j1 (F.iJ d1) (d1.hand) (d1.qW F (λ_ h=>absurd h aA2) 6 rfl) X) ?_;rintro _ q4 ⟨h0,O,N,d8,q,z,rfl,h2⟩;have n0:=Hp.dL d1 h2;clear h2;have n1:=n0.front 5 _ rfl;refine⟨d.2.2,[aS n _ 93,aS g _ 105,aS U _ 9,bA eS 9 1 h0 O N d.1,bA fM 109 2 d8 q z d.2.1,bA fM 109 2 ε ε 0 [],bA eS 9 1 ε ε 0 _,Bt e4],n1, ?_⟩;intro q5 n2;by_cases f4:d.2.2=0;replace a:=HV f4 a;refine rg0 f4 (bn (qn (cs (gi a λn3 a=>gi a λn4 a=>c_np (Wd 6 (λM A o=>dD [6,7,8] (λw'=>w'.heap[g]? =δ (.cells [(Vs q (γ d.2.1) z)].toArray 105 (0,0))) M A o/\dD [2,3,6,7,8] (λw'=>w'.heap[g]? =δ (.cells [(Vs q (γ d.2.1) z)].toArray 105 (0,0))) M A o/\dD [5,6,7,8] (λw'=>w'.heap[n]? =δ (.cells [(Vs O (γ d.1) N)].toArray 93 (0,0))) M A o/\True) _ (λ_ _=>⟨dD.same,dD.same,dD.same,trivial⟩) aF aF n2 rfl qa λn5 Q=>bce [ζ,η,η,η,η,η,η,η,η] 0 67 (Vs q (γ d.2.1) z) [6,7,8] (λ_ _ _ h=>h.1) _ rfl rfl aF aF aF aF aF rfl (iE rfl (by intro w e;exact(jW g 0 _ 105 _ e rfl aF aF))) (by exact Q.dG 1 rfl) (bce [ζ,ζ,η,η,η,η,η,η,η] 1 68 (Vs q (γ d.2.1) z) [2,3,6,7,8] (λ_ _ _ h=>h.2.1) _ rfl rfl aF aF aF aF aF rfl (iE rfl (by intro w e;exact(jW g 0 _ 105 _ e rfl aF aF))) (by exact Q.dG 1 rfl) ?_))))));refine rpO 3 [2] (rtO 3 (Vi .i64 ((γ d.2.1:Int)-(1:Int))) rfl rfl (iE rfl (by intro w e;exact(uG (γ d.2.1:Int) (1:Int) aF aF n3))) (bce [ζ,ζ,ζ,ζ,ζ,η,η,η,η] 4 71 (Vs O (γ d.1) N) [5,6,7,8] (λ_ _ _ h=>h.2.2.1) _ rfl rfl aF aF aF aF aF rfl (iE rfl (by intro w e;exact(jW n 0 _ 93 _ e rfl aF aF))) (by exact Q.dG 0 rfl) (roO 5 rfl (pA 51 #[] [(Vs O (γ d.1) N),(str ([32]:aC))] _ rf aF aF (Xv ([32]:aC) n5 O (γ d.1) N d.1 rfl (Q.eV 3 rfl) (Q.sK 3 rfl) n4) ?_))));rintro _ q6 ⟨rfl,h3⟩;have d9:=Q.call h3;clear h3;refine wl (OG (by exact⟨dD.new (d9.dG 1 rfl),dD.new (d9.dG 1 rfl),dD.out rfl,trivial⟩) (OE aF (gi a λn6 a=>yU q (γ d.2.1) z 109 2 .i64 ((γ d.2.1:Int)-(1:Int)) underlying105 aF aF aF d.2.1 rfl n6 (d9.eV 4 rfl) ati aA1 (WA q (((γ d.2.1:Int)-(1:Int)).toNat*2) 1 aF aF (gi a λn7 a=>ov d9 4 d8 q z 109 2 ((γ d.2.1:Int)-(1:Int)) 1 d.2.1 ((el d.2.1 ((γ d.2.1:Int)-(1:Int))).1,cY d.1 ([32]:aC)) rfl ati (str (cY d.1 ([32]:aC))) n7 aF aF aF aF aA1 λn8 Y=> ?_)))));replace Y:Hp w [] [aS n [(Vs O (γ d.1) N)] 93,aS g [(Vs q (γ d.2.1) z)] 105,aS U [(str e3)] 9,bA eS 9 1 h0 O N d.1,bA fM 109 2 d8 q z (gQ d.2.1 (bF ((γ d.2.1:Int)-(1:Int))) ((el d.2.1 ((γ d.2.1:Int)-(1:Int))).1,cY d.1 ([32]:aC))),bA fM 109 2 ε ε 0 ([]:jU),bA eS 9 1 ε ε 0 ([]:List aC),Bt e4] n8:=Y;refine wl (Ui (qn (sr (iD Y 1 g 0 _ 105 _ rfl rfl aF aF (wp 3 (nq (ct ?_)))))));obtain rfl:=oi a;refine Yw Y 7 e4 rfl _ [(Vs q (γ d.2.1) z),(Vi .i64 (0:Int)),(bt (0:UInt8))] (Kf #[(Vs q (γ d.2.1) z),(Vi .i64 (0:Int)),(bt (0:UInt8))]) rfl rfl (λn9 h4=>(lD (vG aF) (lD (vG aF) (lD (vG aF) Rb)))) rfl λn9 h4=> ?_;exact⟨d8,q,z,iP,(Hp.front h4 4 _ rfl).kp⟩;replace a:=HW f4 a;exact Ug a
theorem vV{r:(qL×Int×UInt8)}(d:aij fu a=δ r)(O:Gl w):CR prog 29 [(str a)] w λv w'=>∃(o0:Option Nat),∃(a0:Option χ),∃(o:Nat),∃(o1:Option Nat),∃(a1:Option χ),∃(n:Nat),v=(Kf #[(kR #[(Vs a0 (γ r.1.1) o),(Vs a1 (γ r.1.2) n)]),(Vi .i64 r.2.1),(bt r.2.2)])/\Hp w [] [bA dA 37 2 o0 a0 o r.1.1,oM eB o1 a1 n r.1.2] w':=by
 have hH:=Hp.refl w;refine enter (k:=85) func29 rfl rfl fL ?_;unfold aij at d;refine sr (iQ hH (Ws) 40 (λb=>(Vp (cQ b))) rfl rfl aF λf w2 f4=>wp 2 (nq (cs (sr (wp 1 ?_)))));refine pA 57 #[] [(str a),(str [13,10])] _ ent57 aF aF (zM a [13,10] w2) ?_;rintro _ w4 ⟨rfl,Z⟩;have P:=f4.call Z;clear Z;refine wp 5 (nq (sr (wp 1 (nq (cb d (λh7 d=> ?_) (λh7 d=> ?_))))));refine sr (wp 1 (Dg P (fK a [13,10]) 5 underlying9 underlying23 underlying5 aF λL i i2 f5=>wp 1 (qZ f5 1 f 0 _ [(Vs ε 0 0),(Vs L (γ (fK a [13,10])) i)] 40 _ rfl fL aF aF rfl aF rfl λi3 Y=>wp 2 (nq (ct ?_)))));refine st ?_;obtain rfl:=oi d;refine nQ _ [(kR #[(Vs ε 0 0),(Vs L _ i)]),(Vi .i64 (0:Int)),(bt (0:UInt8))] _ rfl rfl (lD (WC Y 1 f 40 _ rfl aF aF aF) (lD (vG aF) (lD (vG aF) Rb))) rfl ?_;exact⟨ε,ε,0,(Vs L (γ (fK a [13,10])) i).ownBlock,L,i,iP,(Hp.front (Hp.front (Hp.sh (Hp.dF Y dA 37 2 ε) 1 rfl) 1 _ rfl) 1 _ rfl).kp⟩;refine ck (qn (sr (wp 1 (gi d λf6 d=>pA 59 #[] [(str a),(str [13,10,13,10])] _ ent59 aF aF (B7 a _ w4 f6 (O.iJ P)) ?_))));rintro _ i4 ⟨rfl,X⟩;have d0:=P.call X;clear X;refine wp 7 (nq (cs (sr (wp 2 (nq (cb d (λf7 d=> ?_) (λf7 d=> ?_)))))));refine sr (wp 1 (qZ d0 0 f 0 _ (Ws) 40 _ rfl fL aF aF rfl aF rfl λi5 W=>wp 2 (nq (ct (st ?_)))));obtain rfl:=oi d;refine nQ _ [(kR #[(Vs ε 0 0),(Vs ε 0 0)]),(Vi .i64 (0:Int)),(bt (5:UInt8))] _ rfl rfl (lD (WC W 0 f 40 _ rfl aF aF aF) (lD (vG aF) (lD (vG aF) Rb))) rfl ?_;exact⟨ε,ε,0,ε,ε,0,iP,(Hp.front (Hp.sW (Hp.dF W dA 37 2 ε) eB) 1 _ rfl).kp⟩;refine ck (qn (sr (wp 1 (gi d λf8 d=>V9 _ _ aF aF f8 (bi d λe f9 d=>pA 60 #[] [(str (((eD a _).1)++([13,10]:aC)))] _ ent60 aF aF (Ga f9 (O.iJ d0)) ?_)))));rintro _ g0 ⟨d1,F,K,rfl,V⟩;have U:Hp w [] [bA fM 109 2 d1 F K e.1,aS f _ 40] g0:=Hp.dL (L1:=[]) (L2:=[aS f _ 40]) d0 V;clear V;refine wp 7 (nq (cs (sr (wp 1 (mV e.2.2 0 aF aF (nq (cn d (λg1 d=> ?_) (λg1 d=> ?_))))))));refine sr (wp 3 (qZ U 1 f 0 _ (Ws) 40 _ rfl fL aF aF rfl aF rfl λi6 T=>wp 2 (nq (ct (st ?_)))));obtain rfl:=oi d;refine nQ _ [(kR #[(Vs ε 0 0),(Vs ε 0 0)]),(Vi .i64 e.2.1),(bt e.2.2)] _ rfl rfl (lD (WC T 1 f 40 _ rfl aF aF aF) (lD (vG aF) (lD (vG aF) Rb))) rfl ?_;exact⟨ε,ε,0,ε,ε,0,iP,(Hp.front (Hp.sW (Hp.dF T dA 37 2 ε) eB) 1 _ rfl).kp⟩;refine ck (qn (sr (wp 1 (Dg U ((eD a [13,10,13,10]).2.1) 5 underlying9 underlying23 underlying5 aF λm l i7 g2=>wp 1 (iQ g2 (Ws) 40 (λb=>(Vp (cQ b))) rfl rfl aF λp i9 g3=>qZ g3 0 p 0 _ [(Vs ε 0 0),(Vs m (γ ((eD a ([13,10,13,10]:aC)).2.1)) l)] 40 _ rfl fL aF aF rfl aF rfl λj0 g4=>wl ?_)))));refine qn (bi d λS g5 d=>cut (σ:=cD×(Option Nat)×(Option χ)×Nat) [2,3,4,13] (λ⟨z,J,y,x⟩=>[]) (λ⟨z,J,y,x⟩ w'=>Hp w [] [aS p [(Vs y (γ z) x),(Vs m (γ ((eD a [13,10,13,10]).2.1)) l)] 40,iY (Vs m (γ ((eD a [13,10,13,10]).2.1)) l) (γ ((eD a [13,10,13,10]).2.1)) ((eD a [13,10,13,10]).2.1),aS f (Ws) 40,bA dA 37 2 J y x z] w'/\.inl z=S) ?_ ?_);refine sr (wp 3 (nq (ce (Yx (σ:=Nat×Int×_×_×_×Nat) [2,3,4,13,51,52,53] (λ⟨B,g,j,A,u,t⟩=>[(53,(Vi .i64 g))]) (λ⟨B,g,j,A,u,t⟩ w'=>Hp w [] [aS p [(Vs u (γ j) t),(Vs m (γ ((eD a [13,10,13,10]).2.1)) l)] 40,iY (Vs m (γ ((eD a [13,10,13,10]).2.1)) l) (γ ((eD a [13,10,13,10]).2.1)) ((eD a [13,10,13,10]).2.1),bA fM 109 2 d1 F K e.1,aS f (Ws) 40,bA dA 37 2 A u t j] w'/\ti fu e B g j=δ S) (λ⟨B,g,j,A,u,t⟩=>B) (fu,(0:Int),([]:cD),ε,ε,0) (by exact⟨(Hp.front (Hp.front (Hp.front (Hp.front (Hp.dF g4 dA 37 2 ε) 4 _ rfl) 4 _ rfl) 4 _ rfl) 4 _ rfl).kp,g5⟩) ?_))));rintro⟨_|B,g,j,A,u,t⟩ j1 G ⟨I,c⟩
 ·exact Ug c
 rw [ahl,aes]at c;refine sr (wp 1 (nq (cs (cd c (λg6 c=> ?_) (λg6 c=> ?_)))));refine ck (qn (cs (ce (sr (gi c λg7 c=>yU F (γ e.1) K 109 2 .i64 g underlying105 aF aF aF e.1 rfl g7 (I.eV 2 rfl) ati aA1 (gi c λg8 c=>nH F fM e.1 2 g ati (I.eV 2 rfl) [(Vi .i64 ((el e.1 g).1)),(str ((el e.1 g).2))] g8 aF aF aF aF aA1 ?_))))));refine iQ I [(Vi .i64 (0:Int)),(str [])] 109 (λb=>(Vp (cQ b))) rfl rfl aF λE j2 g9=>qZ g9 0 E 0 _ [(Vi .i64 ((el e.1 g).1)),(str ((el e.1 g).2))] 109 _ rfl fL aF aF rfl aF rfl λj3 d2=>nq (sr (wp 1 (iD d2 0 E 1 _ 109 _ rfl rfl aF aF (bi c λs h0 c=>wc ent61 d2 (vW h0 (O.iJ d2)) λj4 h1=> ?_))));refine wp 3 (iQ h1 [(str []),(str [])] 37 (λb=>(Vp (cQ b))) rfl rfl aF λd3 j5 h2=>qZ h2 0 d3 0 _ [(str s.1.1),(str s.1.2)] 37 _ rfl fL aF aF rfl aF rfl λj6 D=>wp 1 (nq (bi c λd4 q c=>lC D [2,3,4,13,15,16,17,51,52,53] [(17,(bt d4))] ?_ ?_)));refine bi q λh3 C q=>lC D [2,3,4,13,15,16,17,51,52,53,70] [(70,(Vb h3))] ?_ ?_;refine cr (wp 1 (Dh s.2 0 aF aF (wd C (λh4 C=> ?_) (λh4 C=> ?_))));refine wp 1 (gy 65 (iD D 2 p 0 _ 40 _ rfl rfl aF aF (wp 3 (wl (ql ?_)))));obtain rfl:=oi C;exact je (Hp.front (Hp.front (Hp.front (Hp.front (Hp.front (Hp.front (Hp.front D 6 _ rfl) 6 _ rfl) 6 _ rfl) 6 _ rfl) 6 _ rfl) 6 _ rfl) 6 _ rfl).kp;refine wp 5 (wl (ql ?_));obtain rfl:=oi C;exact je (Hp.front (Hp.front (Hp.front (Hp.front (Hp.front (Hp.front (Hp.front D 6 _ rfl) 6 _ rfl) 6 _ rfl) 6 _ rfl) 6 _ rfl) 6 _ rfl) 6 _ rfl).kp;intro j7 G R;refine cb q (λh5 q=> ?_) (λh5 q=> ?_);refine cr (wp 1 (wl (ql ?_)));obtain rfl:=oi q;exact je (Hp.front (Hp.front (Hp.front (Hp.front (Hp.front (Hp.front (Hp.front R 6 _ rfl) 6 _ rfl) 6 _ rfl) 6 _ rfl) 6 _ rfl) 6 _ rfl) 6 _ rfl).kp;refine ck (ql ?_);obtain rfl:=oi q;exact je (Hp.front (Hp.front (Hp.front (Hp.front (Hp.front (Hp.front (Hp.front R 6 _ rfl) 6 _ rfl) 6 _ rfl) 6 _ rfl) 6 _ rfl) 6 _ rfl) 6 _ rfl).kp;intro j8 G H;refine cs (sr (wp 1 (mV d4 0 aF aF (nq (cn c (λh6 c=> ?_) (λh6 c=> ?_))))));refine cs (RA 6 (λj_ w_ M=>dD [5,6] (λw'=>w'.heap[E]? =δ (.cells [(Vi .i64 ((el e.1 g).1)),(str _)].toArray 109 (0,0))) j_ w_ M/\True) _ (λ_ _=>⟨dD.same,trivial⟩) aF aF H rfl (alt (alt (yW (alt (xZ (yW (xZ IB))))))) λj9 Q=>rp 4 [0,1] (rA _ 2 75 _ _ (λ_ _ _ h=>h.1) _ rfl rfl aF aF aF aF aF rfl (iE rfl (by intro w N;exact(jW E 0 _ 109 _ N rfl aF aF))) (by exact Q.dG 1 rfl) (rp 2 [3] (ro 4 rfl (qZ Q 5 f 0 _ (Ws) 40 _ rfl fL aF aF rfl aF rfl λk0 d5=>wl (lH (by exact⟨dD.new (d5.dG 1 rfl),trivial⟩) (rp 0 [5] ?_)))))));refine HH aF (wp 1 (nq (ct (st (gU (st (kW (gU ?_))))))));refine kW ?_;obtain rfl:=oi c;obtain rfl:=oi d;refine nQ _ [(kR #[(Vs ε 0 0),(Vs ε 0 0)]),(Vi .i64 ((el e.1 g).1)),(bt d4)] _ rfl rfl (lD (WC d5 5 f 40 _ rfl aF aF aF) (lD (vG aF) (lD (vG aF) Rb))) rfl ?_;exact⟨ε,ε,0,ε,ε,0,iP,(Hp.front (Hp.sW (Hp.dF d5 dA 37 2 ε) eB) 1 _ rfl).kp⟩;refine ck (qn (cr (wp 1 (iD H 2 p 0 _ 40 _ rfl rfl aF aF (Hr H 0 d3 0 2 _ _ 37 rfl rfl rfl aF aF aF (iQ H [(str s.1.1),(str s.1.2)] 37 (λb=>(Vs (cQ b) 1 1)) rfl rfl aF λd6 k1 f0=>gi c λh8 c=>RH f0 7 A u (cQ d6) t 1 37 2 32 j _ yD rfl underlying22 aA9 aA1 aA1 aF (gX (b:=(Vs (cQ d6) 1 1)) aF (WG aA7)) (f0.nP 0 rfl) h8 λf1 d7 d8 h9 d9=> ?_))))));replace d9:Hp w [] [aS d6 _ 37,aS d3 _ 37,aS E _ 109,aS p _ 40,iY _ _ _,bA fM 109 2 d1 F K e.1,aS f _ 40,bA dA 37 2 f1 d7 d8 _] h9:=d9;refine wp 1 (Sp d9 3 p 0 _ 40 (Vs d7 (γ (j++([s.1]:cD))) d8) _ rfl (Tb (nF _) fL) aF aF rfl aF rfl λk2 i0=>wl (bn (qn (cr (gi c λi1 c=>vH g _ aF aF i1 (wp 1 (wl ?_)))))));refine ql ?_;exact⟨(B,g+(1:Int),j++([s.1]:cD),f1,d7,d8),_,rfl,by kernel_rfl,⟨(Hp.front (Hp.front (Hp.front (Hp.front (Hp.front i0 7 _ rfl) 7 _ rfl) 7 _ rfl) 7 _ rfl) 7 _ rfl).kp,c⟩,nF _⟩;refine Ch (yV (Ci (Cg (ql ?_))));obtain rfl:=oi c;exact⟨(j,A,u,t),_,rfl,by kernel_rfl,(Hp.front (Hp.front (Hp.front (Hp.front I 4 _ rfl) 4 _ rfl) 3 _ rfl) 3 _ rfl).kp,rfl⟩;rintro⟨z,J,y,x⟩ k3 G ⟨f2,rfl⟩;refine sr (Hr f2 0 p 0 2 _ _ 40 rfl rfl rfl aF aF aF (qZ f2 2 f 0 _ [(Vs y (γ z) x),(Vs m (γ ((eD a [13,10,13,10]).2.1)) l)] 40 _ rfl fL aF aF rfl aF rfl λk4 f3=>wp 2 (nq (ct ?_))));obtain rfl:=oi d;refine nQ _ [(kR #[(Vs y (γ z) x),(Vs m _ l)]),(Vi .i64 (0:Int)),(bt (0:UInt8))] _ rfl rfl (lD (WC f3 2 f 40 _ rfl aF aF aF) (lD (vG aF) (lD (vG aF) Rb))) rfl ?_;exact⟨J,y,x,(Vs m (γ ((eD a [13,10,13,10]).2.1)) l).ownBlock,m,l,iP,(Hp.front (Hp.front (Hp.sh f3 1 rfl) 1 _ rfl) 3 _ rfl).kp⟩
open Go.Lib renaming index → cK
open List renaming drop → cG, flatMap → dY
theorem rr:Wk.Enters prog 12:=⟨f12,_,func12,rfl,aF⟩
theorem rl:Wk.Enters prog 20:=⟨f20,_,func20,rfl,aF⟩
theorem ent21:Wk.Enters prog 21:=⟨f21,_,func21,rfl,aF⟩
theorem ent22:Wk.Enters prog 22:=⟨f22,_,func22,rfl,aF⟩
theorem rk:Wk.Enters prog 23:=⟨f23,_,func23,rfl,aF⟩
theorem rj:Wk.Enters prog 27:=⟨f27,_,func27,rfl,aF⟩
theorem ri:Wk.Enters prog 28:=⟨f28,_,func28,rfl,aF⟩
theorem ent29:Wk.Enters prog 29:=⟨f29,_,func29,rfl,aF⟩
theorem ent33:Wk.Enters prog 33:=⟨f33,_,func33,rfl,aF⟩
theorem ent34:Wk.Enters prog 34:=⟨f34,_,func34,rfl,aF⟩
theorem ra:Wk.Enters prog 63:=⟨f63,_,func63,rfl,aF⟩
theorem ent64:Wk.Enters prog 64:=⟨f64,_,func64,rfl,aF⟩
theorem oX{fu:Nat}{F:List UInt8}{d8:aC}(d9:Option χ)(X:Nat)(W:Nat){w:ν}{r:(dO×Int×UInt8)}(n:mh fu F d8=δ r)(T:Gl w)(f0:X=γ F)(f1:Rd w d9 (dY eB F))(i6:X<=W):CR prog 12 [(Vs d9 X W),(str d8)] w λv w'=>∃(o0:Option Nat),∃(a0:Option χ),∃(I:Nat),∃(Z:Nat->(PA×PA)),v=(Kf #[(Vs a0 (γ r.1) I),(Vi .i64 r.2.1),(bt r.2.2)])/\Hp w [] (bA cE 40 2 o0 a0 I (gz Z r.1)::(gI dJ Z r.1++[])) w':=by
 subst f0;have Y:=Hp.refl w;refine enter func12 rfl rfl fL ?_;unfold mh at n;refine sr (wp 3 (nq (cs (sr (wp 1 (bi n λy1 f2 n=> ?_))))));refine wc rj Y (bbz f2 (T.iJ Y)) λw3 d2=>wp 1 (nq (cb n (λh6 n=> ?_) (λh6 n=> ?_)));refine sr (wp 3 (nq (ct (st ?_))));obtain rfl:=oi n;refine y4 (Vs ε 0 0) (Vi .i64 0) (bt 2) rfl aF aF aF ?_;exact⟨ε,ε,0,Bm,iP,((Hp.dF d2 cE 40 2 ε).mD 1 1 aA1)⟩;refine ck (qn (cs (sr (wp 3 (nq (cd n (λh7 n=> ?_) (λh7 n=> ?_)))))));refine sr (wp 3 (nq (ct (st ?_))));obtain rfl:=oi n;refine y4 (Vs ε 0 0) (Vi .i64 8192) (bt 4) rfl aF aF aF ?_;exact⟨ε,ε,0,Bm,iP,((Hp.dF d2 cE 40 2 ε).mD 1 1 aA1)⟩;refine ck (qn (sr (wp 1 (gN (v:=(str F)) (w':=w3) rfl rfl (pH F d9 (γ F) W 5 (Rd.bytes (f1.hp d2)) aA7 underlying23 underlying9 underlying5 aF) (wp 1 (nq (cs ?_)))))));refine cr (wp 2 (bi n λD f3 n=>wc ri d2 (aua f3 (T.iJ d2)) λi7 f4=>wp 3 (iQ f4 [(Vi .i64 0),(Vi .i64 0),(Vb η)] 68 (λb=>(Vp (cQ b))) rfl rfl aF λo i9 f5=>qZ f5 0 o 0 _ (Ck D.1.1 D.1.2.1 D.1.2.2) 68 _ rfl fL aF aF rfl aF rfl λj0 d4=>wp 1 (nq ?_))));refine cs (sr (wp 2 (nq (cb n (λf6 n=> ?_) (λf6 n=> ?_)))));refine sr (wp 5 (nq (ct (st ?_))));obtain rfl:=oi n;refine y4 (Vs ε 0 0) (Vi .i64 (γ F)) (bt 6) rfl aF aF aF ?_;exact⟨ε,ε,0,Bm,iP,((Hp.dF d4 cE 40 2 ε).mD 1 2 aA1)⟩;refine ck (qn (cs (sr (wp 1 (iD d4 0 o 2 _ 68 _ rfl rfl aF aF (nq (cb n (λf7 n=> ?_) (λf7 n=> ?_))))))));refine cs (RA 3 (λS R C=>dD [3,4] (λw'=>w'.heap[o]? =δ (.cells (Ck D.1.1 D.1.2.1 D.1.2.2).toArray 68 _)) S R C/\True) _ (λ_ _=>⟨dD.same,trivial⟩) aF aF d4 rfl (alt (alt IB)) λj1 e4=>rp 2 [0] (rA _ 1 37 _ _ (λ_ _ _ h=>h.1) _ rfl rfl aF aF aF aF aF rfl (iE rfl (by intro w x;exact(jW o 0 _ 68 _ x rfl aF aF))) (by exact e4.dG 0 rfl) (rp 0 [2] (HH aF (wp 2 (nq (ct ?_)))))));refine st ?_;obtain rfl:=oi n;refine y4 (Vs ε 0 0) (Vi .i64 D.1.1) (bt 5) rfl aF aF aF ?_;exact⟨ε,ε,0,Bm,iP,((Hp.dF e4 cE 40 2 ε).mD 1 2 aA1)⟩;refine ck (qn (sr (wp 1 (nq (bi n λe5 f8 n=>cut (σ:=((List ((List _)×(List UInt8)))×Int×Int×Bool)×(Option Nat)×(Option χ)×Nat×(Nat->(PA×PA))) [4,5,6,8,10] (λ⟨E,d5,Q,P,d3⟩=>[(10,(Vs Q (γ E.1) P))]) (λ⟨E,d5,Q,P,d3⟩ w'=>Hp w [] (aS o (Ck E.2.1 E.2.2.1 E.2.2.2) 68::bA cE 40 2 d5 Q P (gz d3 E.1)::(gI dJ d3 E.1++[])) w'/\.inl E=e5) ?_ ?_)))));refine ce (Yx (σ:=Nat×_×Int×Int×Bool×(Option Nat)×(Option χ)×Nat×(Nat->(PA×PA))) [1,4,5,6,7,8,10] (λ⟨O,c,q,p,s,B,A,z,e⟩=>[(10,(Vs A (γ c) z))]) (λ⟨O,c,q,p,s,B,A,z,e⟩ w'=>Hp w [] (aS o (Ck q p s) 68::bA cE 40 2 B A z (gz e c)::(gI dJ e c++[])) w'/\mu fu F d8 O c q p s=δ e5) (λ⟨O,c,q,p,s,B,A,z,e⟩=>O) (fu,([]:dO),D.1.1,D.1.2.1,D.1.2.2,ε,ε,0,Bm) (by exact⟨((Hp.front (Hp.dF d4 cE 40 2 ε) 1 _ rfl).mD 2 2 aA1),f8⟩) ?_ (mc aF (mc aF (mc aF (mc aF (mc aF (mc aF (mc (gX aF (WG lsy)) rfl))))))));rintro⟨_|O,c,q,p,s,B,A,z,e⟩ j2 G ⟨N,f⟩
 ·exact Ug f
 rw [anh,ail]at f;refine cs (sr (wp 1 (iD N 0 o 2 _ 68 _ rfl rfl aF aF (wp 1 (nq (cb f (λf9 f=> ?_) (λf9 f=> ?_)))))));refine ck (qn (ce (cs (sr (wp 3 (nq (cd f (λg1 f=> ?_) (λg1 f=> ?_))))))));refine cs (RA 3 (λS R C=>dD [3,4] (λw'=>w'.heap[o]? =δ (.cells (Ck q p s).toArray 68 _)) S R C/\True) _ (λ_ _=>⟨dD.same,trivial⟩) aF aF N rfl (alt (alt (yW (xZ (yW (xZ IB)))))) λg2 e6=>rp 2 [0] (rA _ 1 45 _ _ (λ_ _ _ h=>h.1) _ rfl rfl aF aF aF aF aF rfl (iE rfl (by intro w x;exact(jW o 0 _ 68 _ x rfl aF aF))) (by exact e6.dG 0 rfl) (rp 0 [2] (HH aF (wp 2 (nq (ct ?_)))))));refine st (gU (kW (gU (kW ?_))));obtain rfl:=oi f;obtain rfl:=oi n;refine y4 (Vs ε 0 0) (Vi .i64 q) (bt 4) rfl aF aF aF ?_;exact⟨ε,ε,0,Bm,iP,(Hp.Hl [bA cE 40 2 ε ε 0 (gz Bm ([]:dO))] (gI dJ Bm ([]:List _)++(gI dJ e c++[])) (gI dJ _ _++[]) ((show Hp w [] (bA cE 40 2 ε ε 0 (gz Bm ([]:dO))::aS o (Ck q p s) 68::bA cE 40 2 B A z (gz e c)::(gI dJ Bm ([]:dO)++(gI dJ e c++[]))) g2 from Hp.dF e6 cE 40 2 ε).mD 1 3 aA1) (cW (Qt (List.Sublist.refl []) (mT _ _)) _))⟩;refine ck (qn (sr (wp 2 (iD N 0 o 1 _ 68 _ rfl rfl aF aF (wp 1 (bi f λd g3 f=>wc ri N (aua g3 (T.iJ N)) λj3 g4=>wp 3 ?_))))));refine iQ g4 [(Vi .i64 0),(Vi .i64 0),(Vb η)] 68 (λb=>(Vp (cQ b))) rfl rfl aF λy j4 g5=>qZ g5 0 y 0 _ (Ck d.1.1 d.1.2.1 d.1.2.2) 68 _ rfl fL aF aF rfl aF rfl λg6 M=>wp 1 (nq (cs (sr (wp 2 (wl ?_)))));refine qn (cb f (λg7 f=> ?_) (λg7 f=> ?_));refine sr (wp 5 (nq (ct (st (gU (kW (gU ?_)))))));refine kW ?_;obtain rfl:=oi f;obtain rfl:=oi n;refine y4 (Vs ε 0 0) (Vi .i64 (γ F)) (bt 6) rfl aF aF aF ?_;exact⟨ε,ε,0,Bm,iP,(Hp.Hl [bA cE 40 2 ε ε 0 (gz Bm ([]:dO))] (gI dJ Bm ([]:List _)++(gI dJ e c++[])) (gI dJ _ _++[]) ((show Hp w [] (bA cE 40 2 ε ε 0 (gz Bm ([]:dO))::aS y (Ck d.1.1 d.1.2.1 d.1.2.2) 68::aS o (Ck q p s) 68::bA cE 40 2 B A z (gz e c)::(gI dJ Bm ([]:dO)++(gI dJ e c++[]))) g6 from Hp.dF M cE 40 2 ε).mD 1 4 aA1) (cW (Qt (List.Sublist.refl []) (mT _ _)) _))⟩;refine ck (qn (sr (wp 2 (iD M 1 o 1 _ 68 _ rfl rfl aF aF (wp 1 (iD M 0 y 0 _ 68 _ rfl rfl aF aF (gi f λg8 f=>Je d.1.1 2 aF aF g8 ?_)))))));refine wp 1 (iD M 1 o 1 _ 68 _ rfl rfl aF aF (w_max .i64 (d.1.1-2) p aF aF (gi f λg9 f=>MQ F .i64 .i64 p _ underlying9 aF aF aF g9 (bi f λa h0 f=>pA 29 #[] [(str _)] _ ent29 aF aF (vV h0 (T.iJ M)) ?_))));rintro _ h1 ⟨u,m,k,t,j,i,rfl,e7⟩;have h2:Hp w [] (bA dA 37 2 u m k a.1.1::oM eB t j i a.1.2::aS y (Ck d.1.1 d.1.2.1 d.1.2.2) 68::aS o (Ck q p s) 68::bA cE 40 2 B A z (gz e c)::(gI dJ e c++[])) h1:=Hp.dL (L1:=[]) (L2:=(aS y (Ck d.1.1 d.1.2.1 d.1.2.2) 68::aS o (Ck q p s) 68::bA cE 40 2 B A z (gz e c)::(gI dJ e c++[]))) M e7;clear e7;refine wp 4 (iQ h2 (Ws) 40 (λb=>(Vp (cQ b))) rfl rfl aF λH j5 h3=>qZ h3 0 H 0 _ (fB m (γ a.1.1) k j (γ a.1.2) i) 40 _ rfl fL aF aF rfl aF rfl λj6 V=>wp 2 (nq (cs (sr (wp 1 ?_)))));refine mV a.2.2 0 aF aF (nq (cn f (λh4 f=> ?_) (λh4 f=> ?_)));refine cs (gi f λh5 f=>RA 7 (λS R C=>dD [3,6,7] (λw'=>w'.heap[o]? =δ (.cells (Ck q p s).toArray 68 _)) S R C/\True) _ (λ_ _=>⟨dD.same,trivial⟩) aF aF V rfl (alt (alt (yW (xZ (yW (xZ IB)))))) λh8 e8=>rp 6 [0] (rA _ 1 76 _ _ (λ_ _ _ h=>h.1) _ rfl rfl aF aF aF aF aF rfl (iE rfl (by intro w x;exact(jW o 1 _ 68 _ x rfl aF aF))) (by exact e8.dG 4 rfl) (rp 4 [2] (rt 3 (Vi .i64 (p+a.2.1)) rfl rfl (iE rfl (by intro w x;exact(yZ p a.2.1 aF aF h5))) (rp 0 [4,5,6] (HH aF (wp 1 ?_)))))));refine nq (ct (st (gU (kW (gU (kW ?_))))));obtain rfl:=oi f;obtain rfl:=oi n;refine y4 (Vs ε 0 0) (Vi .i64 (p+a.2.1)) (bt a.2.2) rfl aF aF aF ?_;exact⟨ε,ε,0,Bm,iP,(Hp.Hl [bA cE 40 2 ε ε 0 (gz Bm ([]:dO))] (gI dJ Bm ([]:dO)++(gI dJ e c++[])) (gI dJ Bm ([]:dO)++[]) ((show Hp w [] (bA cE 40 2 ε ε 0 (gz Bm ([]:dO))::aS H (fB m (γ a.1.1) k j (γ a.1.2) i) 40::bA dA 37 2 u m k a.1.1::oM eB t j i a.1.2::aS y (Ck d.1.1 d.1.2.1 d.1.2.2) 68::aS o (Ck q p s) 68::bA cE 40 2 B A z (gz e c)::(gI dJ Bm ([]:dO)++(gI dJ e c++[]))) h8 from Hp.dF e8 cE 40 2 ε).mD 1 7 aA1) (cW (Qt (List.Sublist.refl []) (mT _ _)) _))⟩;refine ck (qn (sr (wp 1 (Hr V 0 H 0 2 _ _ 40 rfl rfl rfl aF aF aF (iQ V (fB m (γ a.1.1) k j (γ a.1.2) i) 40 (λb=>(Vs (cQ b) 1 1)) rfl rfl aF λJ h9 i0=>gi f λi1 f=> ?_)))));have d6:=i0.Gs yD 2 rfl;replace d6:Hp w [] (aS J (fB m (γ a.1.1) k j (γ a.1.2) i) 40::aS H (fB m (γ a.1.1) k j (γ a.1.2) i) 40::oM dA u m k a.1.1::oM eB t j i a.1.2::aS y (Ck d.1.1 d.1.2.1 d.1.2.2) 68::aS o (Ck q p s) 68::bA cE 40 2 B A z (gz e c)::(gI dJ e c++[])) h9:=d6;refine RX d6 6 B A (cQ J) z 1 40 2 48 e c a.1 ((u,m,k),(t,j,i)) jT rfl underlying26 aA9 aA1 aA1 aF aF (d6.nP 0 rfl) i1 λK d0 d1 d7 U=> ?_;replace U:Hp w [] (aS J (fB m (γ a.1.1) k j (γ a.1.2) i) 40::aS H (fB m (γ a.1.1) k j (γ a.1.2) i) 40::oM dA u m k a.1.1::oM eB t j i a.1.2::aS y (Ck d.1.1 d.1.2.1 d.1.2.2) 68::aS o (Ck q p s) 68::bA cE 40 2 K d0 d1 (gz (He e (γ c) ((u,m,k),(t,j,i))) (c++[a.1]))::(gI dJ e c++[])) d7:=U;have i2:Hp w [] (oM eB t j i a.1.2::aS J (fB m (γ a.1.1) k j (γ a.1.2) i) 40::aS H (fB m (γ a.1.1) k j (γ a.1.2) i) 40::oM dA u m k a.1.1::aS y (Ck d.1.1 d.1.2.1 d.1.2.2) 68::aS o (Ck q p s) 68::bA cE 40 2 K d0 d1 (gz (He e (γ c) ((u,m,k),(t,j,i))) (c++[a.1]))::(gI dJ e c++[])) d7:=U.front 3 _ rfl;have i3:Hp w [] (oM dA u m k a.1.1::oM eB t j i a.1.2::aS J (fB m (γ a.1.1) k j (γ a.1.2) i) 40::aS H (fB m (γ a.1.1) k j (γ a.1.2) i) 40::aS y (Ck d.1.1 d.1.2.1 d.1.2.2) 68::aS o (Ck q p s) 68::bA cE 40 2 K d0 d1 (gz (He e (γ c) ((u,m,k),(t,j,i))) (c++[a.1]))::(gI dJ e c++[])) d7:=i2.front 3 _ rfl;have e9:Hp w [] (aS J (fB m (γ a.1.1) k j (γ a.1.2) i) 40::aS H (fB m (γ a.1.1) k j (γ a.1.2) i) 40::aS y (Ck d.1.1 d.1.2.1 d.1.2.2) 68::aS o (Ck q p s) 68::bA cE 40 2 K d0 d1 (gz (He e (γ c) ((u,m,k),(t,j,i))) (c++[a.1]))::(gI dJ (He e (γ c) ((u,m,k),(t,j,i))) (c++[a.1])++[])) d7:=Hp.yx (L:=[aS J (fB m (γ a.1.1) k j (γ a.1.2) i) 40,aS H (fB m (γ a.1.1) k j (γ a.1.2) i) 40,aS y (Ck d.1.1 d.1.2.1 d.1.2.2) 68,aS o (Ck q p s) 68,bA cE 40 2 K d0 d1 (gz (He e (γ c) ((u,m,k),(t,j,i))) (c++[a.1]))]) (inn:=dJ) (g:=e) (l:=c) a.1 ((u,m,k),(t,j,i)) [] i3;refine wp 1 (nq (cr (Hr e9 2 y 0 3 _ _ 68 rfl rfl rfl aF aF aF (qZ e9 3 o 0 _ (Ck d.1.1 d.1.2.1 d.1.2.2) 68 _ rfl fL aF aF rfl aF rfl λj7 i4=>wl (bn (ql ?_))))));exact⟨(O,c++[a.1],d.1.1,d.1.2.1,d.1.2.2,K,d0,d1,He e (γ c) ((u,m,k),(t,j,i))),_,rfl,by kernel_rfl,⟨((Hp.front (Hp.front i4 4 _ rfl) 4 _ rfl).mD 2 5 aA1),f⟩,nF _⟩;refine Ch (yV (Ci (Cg (ql ?_))));obtain rfl:=oi f;exact⟨((c,q,p,s),B,A,z,e),_,rfl,by kernel_rfl,((Hp.front (Hp.front N 1 _ rfl) 1 _ rfl).mD 2 2 aA1),rfl⟩;rintro⟨E,d5,Q,P,d3⟩ j8 G ⟨i5,rfl⟩;refine sr (wp 4 (nq (ct ?_)));obtain rfl:=oi n;refine y4 (Vs Q (γ E.1) P) (Vi .i64 (0:Int)) (bt (0:UInt8)) rfl aF aF aF ?_;exact⟨d5,Q,P,d3,iP,((Hp.front i5 1 _ rfl).mD 1 2 aA1)⟩
theorem Sw(p:Option χ)(V:Nat)(q:Nat)(j:Option χ)(U:Nat)(i:Nat){r:(dO×UInt8)}(d:mb fu c=δ r)(L:Gl w)(g2:V=γ c.2.2.2.2.1)(d2:Rd w p (dY dA c.2.2.2.2.1))(f1:V<=q)(g3:U=γ c.2.2.2.2.2)(d3:Rd w j (dY eB c.2.2.2.2.2))(T:U<=i):CR prog 8 [(kR #[(str c.1),(str c.2.1),(Vi .i64 c.2.2.1),(str c.2.2.2.1),(Vs p V q),(Vs j U i)])] w λv w'=>∃(o0:Option Nat),∃(Y:Option χ),∃(x:Nat),∃(X:Nat->(PA×PA)),v=(Kf #[(Vs Y (γ r.1) x),(bt r.2)])/\Hp w [] (bA cE 40 2 o0 Y x (gz X r.1)::(gI dJ X r.1++[])) w':=by
 subst g2;subst g3;have hH:=Hp.refl w;refine enter (k:=81) func8 rfl rfl fL ?_;unfold mb at d;refine sr (iQ hH (mI c.1 c.2.1 c.2.2.1 c.2.2.2.1 p (γ c.2.2.2.2.1) q j (γ c.2.2.2.2.2) i) 25 (λb=>(Vp (cQ b))) rfl rfl aF λf w2 S=>wp 2 (nq (sr (wp 1 (iD S 0 f 4 _ 25 _ rfl rfl aF aF ?_)))));refine wp 1 (iD S 0 f 5 _ 25 _ rfl rfl aF aF (wp 1 (iQ S (Ws) 40 (λb=>(Vp (cQ b))) rfl rfl aF λF w5 g4=>qZ g4 0 F 0 _ (fB p (γ c.2.2.2.2.1) q j (γ c.2.2.2.2.2) i) 40 _ rfl fL aF aF rfl aF rfl λw7 K=>nq (cs (sr ?_)))));refine Hr K 0 F 0 2 _ _ 40 rfl rfl rfl aF aF aF (bi d λZ g5 d=>wc ent21 K (yI p (γ c.2.2.2.2.1) q j (γ c.2.2.2.2.2) i g5 (L.iJ K) rfl (d2.hp K) f1 rfl (d3.hp K) T) λj5 u=>wp 5 (nq (sr (wp 1 (wl ?_)))));refine qn (cb d (λg6 d=> ?_) (λg6 d=> ?_));refine sr (wp 1 (iD u 1 f 5 _ 25 _ rfl rfl aF aF (wp 1 (bi d λD g7 d=>pA 12 #[] [(Vs j (γ c.2.2.2.2.2) i),(str Z.1)] _ rr aF aF (oX j (γ c.2.2.2.2.2) i g7 (L.iJ u) rfl (d3.hp u) T) ?_))));rintro _ f2 ⟨d4,J,I,E,rfl,f3⟩;have g8:Hp w [] ((bA cE 40 2 d4 J I _::(gI dJ E D.1++[]))++[aS F _ 40,aS f _ 25]) f2:=Hp.dL (L1:=[]) (L2:=[aS F _ 40,aS f _ 25]) u f3;clear f3;have g9:Hp w [] (bA cE 40 2 d4 J I (gz E D.1)::aS F (fB p (γ c.2.2.2.2.1) q j (γ c.2.2.2.2.2) i) 40::aS f (mI c.1 c.2.1 c.2.2.1 c.2.2.2.1 p (γ c.2.2.2.2.1) q j (γ c.2.2.2.2.2) i) 25::(gI dJ E D.1++[])) f2:=Hp.V1 [bA cE 40 2 d4 J I (gz E D.1)] (gI dJ E D.1) [aS F _ 40,aS f _ 25] [] g8;refine wp 7 (nq (sr (wp 4 (nq (ct (st ?_))))));obtain rfl:=oi d;refine zV (Vs J (γ D.1) I) (bt D.2.2) rfl aF aF ?_;exact⟨d4,J,I,E,iP,(g9.mD 1 3 aA1)⟩;refine ck (qn (cs (sr (Hr u 1 f 0 6 _ _ 25 rfl rfl rfl aF aF aF (bi d λj6 h0 d=>wc ent22 u (It p (γ c.2.2.2.2.1) q j (γ c.2.2.2.2.2) i h0 (L.iJ u) rfl (d2.hp u) f1 rfl (d3.hp u) T) λj7 R=>wp 5 (wl ?_))))));refine qn (bi d λh1 H d=>cut (σ:=Bool) [1,2,3,50] (λd5=>[(50,(Vb d5))]) (λd5 w'=>Hp w [] [aS f (mI c.1 c.2.1 c.2.2.1 c.2.2.2.1 p (γ c.2.2.2.2.1) q j (γ c.2.2.2.2.2) i) 25] w'/\d5=h1) ?_ ?_);refine cr (wp 2 (wb H (λh2 H=> ?_) (λh2 H=> ?_)));refine wp 1 (gy 45 (iD R 1 f 5 _ 25 _ rfl rfl aF aF (wp 3 (wl (ql ?_)))));obtain rfl:=oi H;exact⟨(decide ((γ c.2.2.2.2.2:Int)=(0:Int))),_,rfl,by kernel_rfl,(Hp.front R 1 _ rfl).kp,rfl⟩;refine wp 5 (wl (ql ?_));obtain rfl:=oi H;exact⟨η,_,rfl,by kernel_rfl,(Hp.front R 1 _ rfl).kp,rfl⟩;rintro d5 f4 G ⟨d6,rfl⟩;refine cb d (λh3 d=> ?_) (λh3 d=> ?_);refine sr (wp 2 (nq (ct (st ?_))));obtain rfl:=oi d;refine zV (Vs ε 0 0) (bt (0:UInt8)) rfl aF aF ?_;exact⟨ε,ε,0,Bm,iP,((show Hp w [] (bA cE 40 2 ε ε 0 (gz Bm ([]:dO))::aS f _ 25::(gI dJ Bm ([]:dO)++[])) f4 from Hp.dF d6 cE 40 2 ε).mD 1 2 aA1)⟩;refine ck (qn (sr (wp 1 (iD d6 0 f 5 _ 25 _ rfl rfl aF aF (gi d λh4 d=>pA 23 #[] [(Vs j (γ c.2.2.2.2.2) i)] _ rk aF aF (xA c.2.2.2.2.2 f4 j (γ c.2.2.2.2.2) i rfl (d3.hp d6) h4) ?_)))));rintro _ h5 ⟨t,h,g,rfl,f5⟩;have h6:Hp w [] [bA eB 5 1 t h g c.2.2.2.2.2,aS f _ 25] h5:=Hp.dL (L1:=[]) (L2:=[aS f _ 25]) d6 f5;clear f5;refine wp 1 (iQ h6 (Ws) 40 (λb=>(Vp (cQ b))) rfl rfl aF λs j8 h7=>qZ h7 0 s 0 _ [(Vs ε 0 0),(Vs h (γ c.2.2.2.2.2) g)] 40 _ rfl fL aF aF rfl aF rfl λj9 f6=>nq (bi d λf7 h8 d=>cut (σ:=cD×(Option Nat)×(Option χ)×Nat) [2,3,12] (λ⟨o,A,n,m⟩=>[]) (λ⟨o,A,n,m⟩ w'=>Hp w [] [aS s (fB n (γ o) m h (γ c.2.2.2.2.2) g) 40,bA eB 5 1 t h g c.2.2.2.2.2,bA dA 37 2 A n m o] w'/\o=f7) ?_ ?_));refine sr (wp 1 (iD f6 2 f 4 _ 25 _ rfl rfl aF aF (wp 2 (nq (ce (Yx (σ:=Nat×Int×_×_×_×Nat) [2,3,12,56,57,58] (λ⟨C,e,l,B,z,y⟩=>[(58,(Vi .i64 e))]) (λ⟨C,e,l,B,z,y⟩ w'=>Hp w [] [aS s (fB z (γ l) y h (γ c.2.2.2.2.2) g) 40,bA eB 5 1 t h g c.2.2.2.2.2,bA dA 37 2 B z y l] w'/\ald fu c C e l=δ f7) (λ⟨C,e,l,B,z,y⟩=>C) (fu,(0:Int),([]:cD),ε,ε,0) (by exact⟨(Hp.front (Hp.front (Hp.dF f6 dA 37 2 ε) 2 _ rfl) 2 _ rfl).kp,h8⟩) ?_))))));rintro⟨_|C,e,l,B,z,y⟩ k0 G ⟨d7,a⟩
 ·exact Ug a
 rw [awh,apy]at a;refine sr (wp 1 (nq (cs (cd a (λh9 a=> ?_) (λh9 a=> ?_)))));refine ck (qn (cs (ce (sr (gi a λi0 a=>yU p (γ c.2.2.2.2.1) q 37 2 .i64 e underlying22 aF aF aF c.2.2.2.2.1 rfl i0 (d2.hp d7) yD aA1 (gi a λi1 a=>nH p dA c.2.2.2.2.1 2 e yD (d2.hp d7) [(str ((el c.2.2.2.2.1 e).1)),(str ((el c.2.2.2.2.1 e).2))] i1 aF aF aF aF aA1 ?_))))));refine iQ d7 [(str []),(str [])] 37 (λb=>(Vp (cQ b))) rfl rfl aF λd8 k1 i2=>qZ i2 0 d8 0 _ [(str ((el c.2.2.2.2.1 e).1)),(str ((el c.2.2.2.2.1 e).2))] 37 _ rfl fL aF aF rfl aF rfl λk2 Q=>nq (sr (Hr Q 0 d8 0 2 _ _ 37 rfl rfl rfl aF aF aF (bi a λk3 i3 a=>wc rl Q (bal i3 (L.iJ Q)) λk4 P=>wp 5 ?_)));refine nq (bi a λi4 d0 a=>lC P [2,3,12,14,56,57,58,71] [(71,(Vb i4))] ?_ ?_);refine cr (wp 1 (wb d0 (λi5 d0=> ?_) (λi5 d0=> ?_)));refine wp 3 (wl (ql ?_));obtain rfl:=oi d0;exact je (Hp.front (Hp.front (Hp.front (Hp.front P 3 _ rfl) 3 _ rfl) 3 _ rfl) 3 _ rfl).kp;refine wp 3 (wl (ql ?_));obtain rfl:=oi d0;exact je (Hp.front (Hp.front (Hp.front (Hp.front P 3 _ rfl) 3 _ rfl) 3 _ rfl) 3 _ rfl).kp;intro k5 G d9;refine cb a (λi6 a=> ?_) (λi6 a=> ?_);refine cr (wp 1 (iD d9 1 s 0 _ 40 _ rfl rfl aF aF (Hr d9 0 d8 0 2 _ _ 37 rfl rfl rfl aF aF aF (iQ d9 [(str ((el c.2.2.2.2.1 e).1)),(str ((el c.2.2.2.2.1 e).2))] 37 (λb=>(Vs (cQ b) 1 1)) rfl rfl aF λO k6 f8=>gi a λi7 a=>RH f8 4 B z (cQ O) y 1 37 2 32 l _ yD rfl underlying22 aA9 aA1 aA1 aF (gX (b:=(Vs (cQ O) 1 1)) aF (WG aA7)) (f8.nP 0 rfl) i7 λf9 N M i9 f0=> ?_))));replace f0:Hp w [] [aS O _ 37,aS d8 _ 37,aS s _ 40,bA eB 5 1 t h g c.2.2.2.2.2,bA dA 37 2 f9 N M _] i9:=f0;refine wp 1 (Sp f0 2 s 0 _ 40 (Vs N (γ (l++([el c.2.2.2.2.1 e]:cD))) M) _ rfl (Tb (nF _) fL) aF aF rfl aF rfl λk7 j0=>wl (bn (qn (cr (gi a λj1 a=>vH e _ aF aF j1 (wp 1 (wl ?_)))))));refine ql ?_;exact⟨(C,e+(1:Int),l++([el c.2.2.2.2.1 e]:cD),f9,N,M),_,rfl,by kernel_rfl,⟨(Hp.front (Hp.front (Hp.front j0 4 _ rfl) 4 _ rfl) 4 _ rfl).kp,a⟩,nF _⟩;refine ck (bn (qn (cr (gi a λj2 a=>vH e _ aF aF j2 (wp 1 (wl (ql ?_)))))));exact⟨(C,e+(1:Int),l,B,z,y),_,rfl,by kernel_rfl,⟨(Hp.front (Hp.front (Hp.front d9 3 _ rfl) 3 _ rfl) 3 _ rfl).kp,a⟩,nF _⟩;refine Ch (yV (Ci (Cg (ql ?_))));obtain rfl:=oi a;exact⟨(l,B,z,y),_,rfl,by kernel_rfl,(Hp.front (Hp.front (Hp.front d7 2 _ rfl) 2 _ rfl) 2 _ rfl).kp,rfl⟩;rintro⟨o,A,n,m⟩ k8 G ⟨W,rfl⟩;refine sr (Hr W 0 s 0 2 _ _ 40 rfl rfl rfl aF aF aF (iQ W (fB n (γ o) m h (γ c.2.2.2.2.2) g) 40 (λb=>(Vs (cQ b) 1 1)) rfl rfl aF λd1 j3 j4=>wp 2 (nq (ct ?_))));obtain rfl:=oi d;refine zV (Vs (cQ d1) 1 1) (bt (0:UInt8)) rfl aF aF ?_;exact⟨(δ d1),(cQ d1),1,(λ_=>((A,n,m),(t,h,g))),iP,((show Hp w [] (bA cE 40 2 _ _ 1 _::aS s _ 40::(gI dJ (λ_=>((A,n,m),(t,h,g))) ([(o,c.2.2.2.2.2)]:dO)++[])) j3 from Hp.gi1 (inn:=dJ) (o,c.2.2.2.2.2) ((A,n,m),(t,h,g)) [bA cE 40 2 (δ d1) (cQ d1) 1 (gz (λ_=>((A,n,m),(t,h,g))) ([(o,c.2.2.2.2.2)]:dO)),aS s (fB n (γ o) m h (γ c.2.2.2.2.2) g) 40] [] (Hp.front (Hp.front (Hp.Wf (Hp.Gs (Hp.Gs j4 yD 3 rfl) lM 2 rfl) 0 2 1 [((o,c.2.2.2.2.2),((A,n,m),(t,h,g)))] rfl jT rfl rfl aA1) 2 _ rfl) 3 _ rfl)).mD 1 2 aA1)⟩
theorem Ix{j:List Int}(i:Nat)(z:Option χ)(I:Nat)(E:Nat){r:List Int}(J:aym fu j F=δ r)(R:Gl w)(d2:I=γ F)(d3:Rd w z (dY eB F))(d4:I<=E)(d5:z=ε->E=0)(P:Hp w (dE [Ig i j]) [Ig i j] w)(O:∀b∈dE [Ig i j],9<=b)(d6:dY eB F≠[]->∀p,z=δ p->p.block∉dE [Ig i j]):CR prog 33 [(Value.map (δ i)),(Vs z I E)] w λv w'=>v=(Kf #[])/\Hp w (dE [Ig i j]) [Ig i r] w':=by
 subst d2;have Q:Hp w _ [Ig i j] w:=P;refine enter (k:=57) func33 rfl rfl fL ?_;unfold aym at J;refine sr (iQ Q [(bt (45:UInt8)),(bt (45:UInt8)),(bt (98:UInt8))] 5 (λb=>(Vs (cQ b) 3 3)) rfl rfl aF λo w2 d7=>Jf d7 0 o 3 5 _ ((Wt):List UInt8) rfl rfl rfl underlying23 underlying5 aF λN H=> ?_);replace H:Hp w _ [iY _ 3 (Wt),Ig i j] N:=H;refine wp 1 (nq (ce (Yx (σ:=Nat×_×_×_×Nat) [0,1,4] (λ⟨u,a,t,g,d⟩=>[(1,(Vs g (γ a) d))]) (λ⟨u,a,t,g,d⟩ w'=>Hp w _ [iY (Vs (cQ o) 3 3) 3 (Wt),Ig i t] w'/\(Rd w g (dY eB a)/\γ a<=d/\(g=ε->d=0)/\(dY eB a≠[]->∀p,g=δ p->p.block∉(dE [Ig i j])))/\aog fu u a t=δ r) (λ⟨u,a,t,g,d⟩=>u) (fu,F,j,z,E) (by exact⟨(Hp.front (Hp.front H 1 _ rfl) 1 _ rfl).kp,⟨(d3),d4,d5,d6⟩,J⟩) ?_)));rintro⟨_|u,a,t,g,d⟩ d8 G ⟨D,⟨C,s,M,B⟩,f⟩
 ·exact Ug f
 rw [azo,aqz]at f;refine ce (sr (wp 2 (au 64 #[] [(Vs g (γ a) d),(Vs (cQ o) 3 3)] ent64 aF aF (enter (k:=23) func64 rfl rfl fL (sr (wp 3 (wl ?_)))))));refine qn (cs (sr (wp 2 (gi f λd9 f=>pA 63 #[] [(Vs g (γ a) d),(Vs (cQ o) 3 3)] _ ra aF aF (NK g (cQ o) (γ a) d 3 3 a ((Wt):List UInt8) d8 rfl (by first|rfl|(simp;done)|omega|(simp;omega)) (C.XB D B) (Rd.jQ (D.kJ 0 rfl)) s M d9 (R.hp D O)) ?_))));rintro _ g0 ⟨rfl,L⟩;have K:=D.call L;clear L;refine wp 1 (nq (sr (wp 2 (nq (cd f (λe0 f=> ?_) (λe0 f=> ?_))))));refine cs (gi f λe1 f=>gi f λZ f=>gi f λY f=>cdr 10 K (alt (alt IB)) λg1 X=>rp 8 [0,1] (rt 2 _ rfl rfl (iE rfl (by intro w x;exact(IN g (γ a) d 5 1 .i64 _ underlying23 aF aF aF a rfl e1 s))) (rp 3 [3,4,5,6] (rt 7 _ rfl rfl (iE rfl (by intro w x;exact(yZ _ _ aF aF Z))) (rt 8 _ rfl rfl (iE rfl (by intro w x;exact(Kj g (γ a) d 5 1 .i64 _ underlying23 aF aF aF a rfl Y))) ?_)))));refine rp 0 [9] (HH aF (wp 2 (nq (ct (st (y4 (Vs g (bF (cK a (Wt))) d) (Vs (Rp g d (bF ((cK a (Wt))+(3:Int))) 1) (γ a-(bF ((cK a (Wt))+(3:Int)))) (d-(bF ((cK a (Wt))+(3:Int))))) (Vb ζ) rfl aF aF aF (wp 7 (wl ?_))))))));refine qn (cs (sr (wp 2 (nq (lh aF (ck (qn ?_)))))));refine sr (wp 1 (nq (bi f λd0 W f=>cut (σ:=(List Int)) [0,1,4,6] (λy=>[]) (λy w'=>Hp w (dE [Ig i j]) [iY (Vs (cQ o) 3 3) 3 (Wt),Ig i y] w'/\y=d0) ?_ ?_)));refine sr (wp 3 (nq (ce (Yx (σ:=Nat×Int×Int×_) [0,1,4,6,8,22,23,24] (λ⟨q,n,h,m⟩=>[(8,(Vi .i64 n)),(24,(Vi .i64 h))]) (λ⟨q,n,h,m⟩ w'=>Hp w _ [iY (Vs (cQ o) 3 3) 3 (Wt),Ig i m] w'/\ako fu a q n h m=δ d0) (λ⟨q,n,h,m⟩=>q) (fu,(0:Int),(0:Int),t) (by exact⟨(Hp.front (Hp.front X 1 _ rfl) 1 _ rfl).kp,W⟩) ?_))));rintro⟨_|q,n,h,m⟩ g2 G ⟨l,c⟩
 ·exact Ug c
 rw [atk,ame]at c;refine sr (wp 1 (nq (cs (cd c (λV c=> ?_) (λV c=> ?_)))));refine ck (qn (cs (ce (sr (wp 1 (gi c λU c=>yU _ (γ a-(bF ((cK a (Wt))+(3:Int)))) (d-(bF ((cK a ((Wt):List UInt8))+(3:Int)))) 5 1 .i64 h underlying23 aF aF aF _ aA7 U (Rd.Hl lM d _ (lE (Jb rfl) s) (C.XB l B)) lM aA1 (gi c λT c=> ?_)))))));refine uk _ eB _ 1 h lM (Rd.Hl lM d _ (lE (Jb rfl) s) (C.XB l B)) (bt (at_ (cG (bF ((cK a (Wt))+(3:Int))) a) h)) T aA1 aF aF aF (wp 2 (nq (cs (bi c λS e c=>lC l [0,1,4,6,8,10,22,23,24,46] [(46,(Vb S))] ?_ ?_))));refine cr (wp 1 (uo (at_ (cG (bF ((cK a (Wt))+(3:Int))) a) h) 48 aF aF (wd e (λf0 e=> ?_) (λf0 e=> ?_))));refine wp 15 (wl (ql ?_));obtain rfl:=oi e;exact je (Hp.front (Hp.front l 1 _ rfl) 1 _ rfl).kp;refine wp 1 (gy 31 (uq (at_ (cG (bF ((cK a (Wt))+(3:Int))) a) h) 57 aF aF (wp 1 (wd e (λf1 e=> ?_) (λf1 e=> ?_)))));refine wp 11 (wl (ql ?_));obtain rfl:=oi e;exact je (Hp.front (Hp.front l 1 _ rfl) 1 _ rfl).kp;refine wp 3 (wd e (λf2 e=> ?_) (λf2 e=> ?_));refine wp 7 (wl (ql ?_));obtain rfl:=oi e;exact je (Hp.front (Hp.front l 1 _ rfl) 1 _ rfl).kp;refine wp 2 (gy 39 (wd e (λf3 e=> ?_) (λf3 e=> ?_)));refine wp 4 (wl (ql ?_));obtain rfl:=oi e;exact je (Hp.front (Hp.front l 1 _ rfl) 1 _ rfl).kp;refine wp 4 (wl (ql ?_));obtain rfl:=oi e;exact je (Hp.front (Hp.front l 1 _ rfl) 1 _ rfl).kp;intro g3 G d1;refine cb c (λf4 c=> ?_) (λf4 c=> ?_);refine Ch (yV (LK aF (yV (Ci (Cg (ql ?_))))));obtain rfl:=oi c;exact⟨m,_,rfl,by kernel_rfl,(Hp.front (Hp.front d1 1 _ rfl) 1 _ rfl).kp,rfl⟩;refine ck (qn (sr (wp 1 (gi c λf5 c=>ak _ n aF aF f5 (wp 1 (um (at_ (cG (bF ((cK a (Wt))+(3:Int))) a) h) 48 aF aF (MV .i64 .u8 (((at_ (cG (bF ((cK a (Wt))+(3:Int))) a) h)-(48:UInt8)).toNat:Int) underlying5 underlying3 aF (Gi _) ?_)))))));refine gi c λf6 c=>vH _ _ aF aF f6 (wp 1 (nq (cr (wp 2 (ui d1 1 i m (((10:Int)*n)+(((at_ (cG (bF ((cK a (Wt))+(3:Int))) a) h)-(48:UInt8)).toNat:Int)) rfl underlying75 underlying3 aF aF aF λf7 A=> ?_)))));replace A:Hp w _ [iY _ 3 _,Ig i _] f7:=A;refine wl (bn (qn (cr (gi c λf8 c=>vH h _ aF aF f8 (wp 1 (wl (ql ?_)))))));exact⟨(q,((10:Int)*n)+(((at_ _ h)-(48:UInt8)).toNat:Int),h+(1:Int),jD m _),_,rfl,by kernel_rfl,⟨(Hp.front (Hp.front A 1 _ rfl) 1 _ rfl).kp,c⟩,nF _⟩;refine Ch (yV (Ci (Cg (ql ?_))));obtain rfl:=oi c;exact⟨m,_,rfl,by kernel_rfl,(Hp.front (Hp.front l 1 _ rfl) 1 _ rfl).kp,rfl⟩;rintro y g4 G ⟨f9,rfl⟩;refine cr (wp 2 (wl (bn (ql ?_))));exact⟨(u,cG _ a,y,(Rp g d _ 1),(d-(bF ((cK a _)+(3:Int))))),_,rfl,(mc aF (mc (gX (b:=(Vs (Rp g d _ 1) (γ a-(bF ((cK a (Wt))+(3:Int)))) (d-(bF ((cK a ((Wt):List UInt8))+(3:Int)))))) aF (WG lsy)) (mc aF rfl))),⟨(Hp.front (Hp.front f9 1 _ rfl) 1 _ rfl).kp,⟨(Rd.Hl lM d _ (lE (Jb rfl) s) (C)),(lE (Jb (by first|rfl|(simp;done)|omega)) (Nat.sub_le_sub_right s _)),(cj M),(vj B)⟩,f⟩,nF _⟩;refine ck (qn (sr (wp 4 (nq (ct (y4 (Vs g (γ a) d) (Vs ε 0 0) (Vb η) rfl aF aF aF (wp 7 ?_)))))));refine nq (cs (sr (wp 2 (nq (tP aF (ct ?_))))));refine st (gU (kW (gU ?_)));obtain rfl:=oi f;refine xD rfl ?_;exact⟨iP,(Hp.front K 1 _ rfl).kp⟩
theorem azr{e:dO}(y:Option χ)(C:Nat)(B:Nat)(d:Nat->(PA×PA))(f:aio fu e=δ a)(z:Gl w)(W:C=γ e)(L:Rd w y (dY cE (gz d e)))(Z:C<=B)(x:∀i:Int,0<=i/\i<(γ e:Int)->(Rd w (d (bF i)).1.2.1 (dY dA ((el e i).1))/\γ ((el e i).1)<=(d (bF i)).1.2.2/\((d (bF i)).1.2.1=ε->(d (bF i)).1.2.2=0))/\(Rd w (d (bF i)).2.2.1 (dY eB ((el e i).2))/\γ ((el e i).2)<=(d (bF i)).2.2.2/\((d (bF i)).2.2.1=ε->(d (bF i)).2.2.2=0))):CR prog 15 [(Vs y C B)] w λv w'=>v=(str a)/\Hp w [] [] w':=by
 subst W;have M:=Hp.refl w;refine enter (k:=27) func15 rfl rfl fL ?_;unfold aio at f;refine sr (wp 1 (nq (sr (an M λg X V=>wp 1 (wl ?_)))));refine qn (bi f λK d0 f=>cut (σ:=(List Int)) [2,3] (λt=>[]) (λt w'=>Hp w [] [Ig g t] w'/\t=K) ?_ ?_);refine sr (wp 3 (nq (ce (Yx (σ:=Nat×Int×_) [2,3,8,9,10] (λ⟨s,r,j⟩=>[(10,(Vi .i64 r))]) (λ⟨s,r,j⟩ w'=>Hp w [] [Ig g j] w'/\agr fu e s r j=δ K) (λ⟨s,r,j⟩=>s) (fu,(0:Int),([]:List Int)) (by exact⟨V.kp,d0⟩) ?_))));rintro⟨_|s,r,j⟩ Y G ⟨u,c⟩
 ·exact Ug c
 rw [apl,aif]at c;refine sr (wp 1 (nq (cs (cd c (λd1 c=> ?_) (λd1 c=> ?_)))));refine ck (qn (cs (ce (sr (gi c λd2 c=>yU y (γ e) B 40 2 .i64 r underlying26 aF aF aF _ (rX _ _).symm (kF _ _ d2) (L.hp u) jT aA1 (gi c λq c=>nH y cE _ 2 r jT (L.hp u) (rJ d e r) (kF _ _ q) (by rw [Kc _ _ _ q];rfl) aF aF aF aA1 ?_))))));refine iQ u (Ws) 40 (λb=>(Vp (cQ b))) rfl rfl aF λp f0 d3=>qZ d3 0 p 0 _ (rJ d e r) 40 _ rfl fL aF aF rfl aF rfl λd4 J=>nq (cr (wp 2 (iD J 0 p 1 _ 40 _ rfl rfl aF aF (bi c λI d5 c=> ?_))));have o:Hp w [] [Ig g j,aS p _ 40] d4:=J.front 1 _ rfl;refine pA 33 #[] [(Value.map (δ g)),(vBq d e r)] _ ent33 aF aF (Ix g ((d (bF r)).2.2.1) (γ ((el e r).2)) ((d (bF r)).2.2.2) d5 (z.iJ o) rfl (((x r q).2).1.hp o) ((x r q).2).2.1 ((x r q).2).2.2 (o.hand (L1:=[Ig g j]) (L2:=[aS p _ 40])) (o.qW z (λ_ h=>absurd h aA2) 1 rfl) (o.Cf 1 ((x r q).2).1 (λ_ _ _ h=>absurd h aA2) rfl)) ?_;rintro _ d6 ⟨rfl,H⟩;have d7:Hp w [] [Ig g I,aS p _ 40] d6:=Hp.dL (L1:=[Ig g j]) (L2:=[aS p _ 40]) o H;clear H;refine wl (bn (qn (cr (gi c λd8 c=>vH r _ aF aF d8 (wp 1 (wl (ql ?_)))))));exact⟨(s,r+(1:Int),I),_,rfl,by kernel_rfl,⟨d7.kp,c⟩,nF _⟩;refine Ch (yV (Ci (Cg (ql ?_))));obtain rfl:=oi c;exact⟨j,_,rfl,by kernel_rfl,u.kp,rfl⟩;rintro t f1 G ⟨d9,rfl⟩;refine sr (wp 1 (nq (bi f λU T f=>cut (σ:=Int) [2,6] (λn=>[(6,(Vi .i64 n))]) (λn w'=>Hp w [] [] w'/\n=U) ?_ ?_)));refine ce (Z6 (λF m=>agq fu t F m) 0 d9 T [2,3,6] (λm=>[(6,(Vi .i64 m))]) (λ_=>rfl) ?_);rintro F m f2 G A l;rw [avf,alf]at l;refine cs (sr (wp 2 (uj A 0 g t m rfl underlying75 underlying3 aF aF aF (nq (cd l (λS l=> ?_) (λS l=> ?_))))));refine ck (qn (ce (cr (wp 1 (gi l λR l=>vH m _ aF aF R (wp 1 (wl (bn ?_))))))));exact ql (qd _ A.kp l);refine Ch (yV (Ci (Cg (ql ?_))));obtain rfl:=oi l;exact⟨m,_,rfl,by kernel_rfl,A.kp,rfl⟩;rintro n Q G ⟨E,rfl⟩;refine sr (wp 1 (gi f λP f=>pA 34 #[] [(Vi .i64 n)] _ ent34 aF aF (NM n Q P (z.iJ E)) ?_));rintro _ f3 ⟨rfl,D⟩;have O:=E.call D;clear D;refine gi f λN f=>V9 _ _ aF aF N (wp 1 (nq (ct ?_)));obtain rfl:=oi f;exact rv O.kp
end Go.Proofs
