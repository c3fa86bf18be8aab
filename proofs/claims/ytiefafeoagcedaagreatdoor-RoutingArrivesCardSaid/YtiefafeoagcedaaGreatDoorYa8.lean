/-
  The law RoutingArrives holds (part 8 of 9).
-/
import Derived.Test.YtiefafeoagcedaaGreatDoorYa7
import Derived.Test.YtiefafeoagcedaaGreatDoorRows
import Derived.ProofKit
import Derived.OpenShut
import Derived.Deep.DeepHandedRow
import Derived.Lib.LaidTab
import Derived.Shelf.Vars
import Derived.ChangeSame
import Derived.WalkKit
import Derived.SevenTiedAt
import Derived.Deep.Slices
import Derived.ReadAgain
import Derived.Shelf.Strings.Builder1
import Derived.Shelf.Strings.Builder2
import Derived.Shelf.Strings.OnBuilder
import Derived.Shelf.Strings.Trim
import Derived.Shelf.Small.Utf8
import Derived.Shelf.Small.Strs
import Derived.Shelf.Small.Wraps
import Derived.Shelf.Strings.BuilderF
import Derived.Shelf.Strings.BuilderK
import Derived.Shelf.Utf8.RuneCount
import Derived.Shelf.Strings.Builder2Cap
import Derived.Shelf.Strconv.Atoi
import Derived.Shelf.Strconv.Itoa0
import Derived.Shelf.Strconv.Itoa1
import Derived.Shelf.LaysM
import Derived.Shelf.Strconv.Itoa2
import Derived.Shelf.Strconv.Itoa3
import Derived.Shelf.Strconv.AtoiErrFast
import Derived.Shelf.Strconv.ParseIntEmpty
import Derived.Shelf.Strconv.AtoiFail
import Derived.Shelf.Strconv.Clone
import Derived.Shelf.Strconv.SyntaxError
import Derived.Shelf.LaysC
import Derived.Shelf.Strconv.ToError
import Derived.Shelf.Strconv.Lower
import Derived.Shelf.Strconv.ParseUint10
import Derived.Shelf.Strconv.ParseUint10Empty
import Derived.Shelf.Strconv.ParseUint10Any
import Derived.Shelf.Strconv.ParseInt10
import Derived.Shelf.Strconv.AtoiLong
import Derived.Shelf.Strconv.AtoiInnerAll
import Derived.Shelf.Strconv.RangeError
import Derived.Shelf.Strconv.ToErrorRange
import Derived.Shelf.Strconv.AtoiAll
import Derived.Shelf.Strings.Search1
import Derived.Shelf.Strings.Search2
import Derived.Shelf.Strings.Search3
import Derived.Shelf.Strings.Cut
import Derived.Shelf.Strings.Count
import Derived.Shelf.Strings.Shaped
import Derived.Shelf.Strings.LastIndex
import Derived.Shelf.Strings.Prefix
import Derived.Shelf.Strings.Split
import Derived.Shelf.Strings.SplitShaped
import Derived.Shelf.Unicode.Decode
import Derived.Shelf.Strings.Runes
import Derived.Shelf.Strings.RuneCount
import Derived.Shelf.Strings.IndexAny
import Derived.Shelf.Strings.AsciiSet
import Derived.Shelf.Strings.IndexAnyAll
import Derived.Shelf.Strings.Explode
import Derived.Shelf.Unicode.DecodeSlow
import Derived.Shelf.Unicode.DecodeAny
import Derived.Shelf.Unicode.DecodeLast
import Derived.Shelf.Strings.BuilderCap
import Derived.Ground.SlbCloneProg
import Derived.Shelf.Bytes.SlClone
import Derived.Ground.PaProg
import Derived.Shelf.Path.Small
import Derived.Test.YtiefafeoagcedaaGreatDoorProg
import Derived.Shelf.Strings.SlTrimAscii
open Go.Proofs.Tryz
open Bool renaming false → ν, true → μ
open Go renaming Addr → Ζ, IntKind → Δ, Program → Θ, TypeId → Ε, Value → ς, World → φ
open Go.IntKind renaming wrap → ο
open Go.Shelf renaming Ren → Ρ
open Go.Utf8 renaming encode → Γ
open Go.Value renaming agg → Κ, bool → ψ, func → Λ, int → π, pointer → υ, slice → ξ
open Int renaming toNat → Α
open List renaming flatMap → Η, length → γ, replicate → ω, set → Ξ, take → Μ
open Nat renaming min → Ν
open Option renaming none → ι, some → θ
set_option linter.unusedVariables false
set_option linter.unusedSimpArgs false
set_option maxRecDepth 20000
namespace Go.Proofs
open Go.Wk Go.Px Go.RowKit
theorem lenOf{s:ByteArray}(h:s.size<=maxLen):γ s.data.toList<=9223372036854775807:=gB (by rw[Array.length_toList];exact h) (show maxLen<=9223372036854775807 by decide)
theorem rQ{P:Θ}{w:φ}:∀{l:δ (String×DataW Unit)}{c:δ MemPlace},DataW.LaidVars P w l c->∀(i:Nat){n:String}{d:DataW Unit},l[i]? =θ (n,d)->
  ∃g t cs a p,P.globalNamed n=θ g/\(P.globals[g]?).map (·.type)=θ t/\w.var? P n=θ cs/\DataW.trod (λ_=>()) P w 0 (λ_=>μ) ν a t cs.toList=θ (d,p)
 |[],_,_,i,n,d,b=>by simp at b
 |(n',d')::l,c,h,0,n,d,b=>by obtain⟨g,t,cs,a,p,q,m,k,j,f,_,_⟩:=h;simp only[List.getElem?_cons_zero,bH,cO]at b;obtain⟨rfl,rfl⟩:=b;exact⟨g,t,cs,a,p,m,k,j,f⟩
 |(n',d')::l,c,h,i+1,n,d,b=>by obtain⟨g,t,cs,a,p,q,_,_,_,_,e,_⟩:=h;exact rQ e i aC2
variable{P:Θ}{w:φ}{a:Nat}{b:Array ς}
theorem IA{n:String}(g:P.globalNamed n=θ a)(h:w.var? P n=θ b):Vr w a b.toList:=by
 simp only[World.var?,g,cN]at h;split at h
 ·rename_i c t f e;cases h;exact⟨t,f,by rw[e]⟩
 ·cases h
theorem chunks{b:Type}{f:b->δ ς}{sz:Nat}:∀(zs:δ b) cs,γ cs=γ zs*sz->(∀i z,zs[i]? =θ z->(cs.drop (i*sz)).take sz=f z)->cs=zs.flatMap f
 |[],cs,a,_=>by simpa using a
 |z::zs,cs,a,h=>by have c:=h 0 z Τ;simp at c;have e:=chunks (sz:=sz) zs (cs.drop sz) (by rw[lE,a,dF,Nat.succ_mul];omega) (λi z' d=>by have:=h (i+1) z' aD5;rw[List.drop_drop,Nat.add_comm,<-Nat.succ_mul];exact this);rw[List.flatMap_cons,<-c,<-e,WV]
variable{e:Ε}{cs:δ ς}{p:δ MemPlace}{d:Type}
theorem Ot{n sz:Nat}{t:Ε}{dz:d->DataW Unit}{f:d->δ ς}(zs:δ d)
  (v:P.underlying e=θ (.array n t)) (m:P.cellsOf t=sz) (l:P.cellsOf e=n*sz) (s:γ zs=n)
  (k:∀a c z p,DataW.trod (λ_=>()) P w 0 (λ_=>μ) ν a t c=θ (dz z,p)->c=f z)
  (h:DataW.trod (λ_=>()) P w 0 (λ_=>μ) ν a e cs=θ (.agg (zs.map dz),p)):cs=zs.flatMap f:=by
 cases a with
 |zero=>simp[DataW.trod]at h
 |succ a=>
  simp only[DataW.trod,v,m,l]at h;split at h
  ·rename_i y;obtain⟨r,x,hx⟩:=cH.1 h;have g:r.map (·.1)=zs.map dz:=by have:=bM Prod.fst hx;simpa using this
   refine chunks zs cs (by rw[y,s]) λi z u=> ?_;have j:i<n:=by rw[<-s];exact(aE.1 u).1
   obtain⟨b,B,A⟩:=Lib.mapM_at x i i (by simp[j]);have o:b.1=dz z:=by
    have q:(r.map (·.1))[i]? =θ b.1:=by simp[B]
    rw[g]at q;simp only[aW,u,Option.map_some,bH]at q;exact q.symm
   exact k a _ z b.2 (by rw[A,<-o])
  ·cases h
theorem Wq{p:δ MemPlace}(b:P.underlying e=θ .string)(z:δ ζ)
  (h:DataW.trod (λ_=>()) P w 0 (λ_=>μ) ν a e cs=θ (.lit (.string z),p)):cs=eS z:=by
 obtain⟨s,rfl,hx,_⟩:=DataW.trod_string b h;obtain⟨rfl,_⟩:=hx;rfl
theorem OT{m}(f:P.underlying e=θ (.interface m))(nm:String)(d:DataW Unit)
  (h:DataW.trod (λ_=>()) P w 0 (λ_=>μ) ν a e cs=θ (.iface nm d,p)):∃b c,cs=[.iface b c]:=by
 cases a with
 |zero=>simp[DataW.trod]at h
 |succ a=>
  unfold DataW.trod at h;rw[f]at h
  match cs,h with
  |[.iface b c],_=>exact⟨b,c,Τ⟩
  |[],h=>simp at h
  |[.nilIface],h=>simp at h
  |_::_::_,h=>simp at h
  |[x],h=>cases x<;>first|exact⟨_,_,Τ⟩|(simp at h)
variable{k:Δ}
theorem tb{p:δ MemPlace}(b:P.underlying e=θ (.int k))(z:Int)
  (h:DataW.trod (λ_=>()) P w 0 (λ_=>μ) ν a e cs=θ (.lit (.int k z),p)):cs=[.int k z]:=by
 obtain⟨n,rfl,hx,_⟩:=DataW.trod_int b h;obtain⟨⟨_,rfl⟩,_⟩:=hx;rfl
theorem ak{c b:Ε}{f0 f1:Field}{p:δ MemPlace}(A:P.underlying e=θ (.struct #[f0,f1]))(D:P.underlying c=θ .string)(C:P.underlying b=θ (.int k))
  (n:(f0.type,f0.offset,f1.type,f1.offset)=(c,0,b,1)) (l:P.cellsOf c=1) (j:P.cellsOf b=1) (B:P.cellsOf e=2) (z:δ ζ×Int)
  (h:DataW.trod (λ_=>()) P w 0 (λ_=>μ) ν a e cs=θ (.agg [.lit (.string z.1),.lit (.int k z.2)],p)):cs=[str z.1,.int k z.2]:=by
 obtain⟨q,o⟩:=z;simp only[cO]at n;obtain⟨t0,x,t1,t⟩:=n;cases a with
 |zero=>simp[DataW.trod]at h
 |succ a=>
  simp only[DataW.trod,A,B]at h;split at h
  ·rename_i y;obtain⟨G,m,hx⟩:=cH.1 h;simp only[List.mapM_cons,List.mapM_nil,Option.bind_eq_bind,Option.bind_eq_some_iff,Option.pure_def,bH,t0,t1,x,t,l,j,ks]at m;obtain⟨s,i,I,⟨r,g,H,rfl,rfl⟩,rfl⟩:=m;simp only[gL,gE,cO,DataW.agg.injEq,eA,Pj]at hx;obtain⟨⟨F,E⟩,_⟩:=hx;have f:=Wq D q (p:=s.2) (by rw[i,<-F]);have d:=tb C o (p:=r.2) (by rw[g,<-E])
   match cs,y,f,d with
   |[u,v],_,f,d=>simp only[eT,tN,List.drop_succ_cons,ks,eS,eA,Pj]at f d;rw[f,d]
  ·cases h
theorem intVar{t:Ε}{zero:Array ς}(h:w.ShapedOpen P)(b:a<P.globals.size)
  (c:((begin P (λ_ _=>0) default).world.heap[a]?).bind Obj.row? =θ (zero,t)) (d:zero.size=1)
  (p:P.buildable t=μ) (o:P.cellTypes P.depth t=θ [t]) (f:P.underlying t=θ (.int k)):∃m,Vr w a [.int k m]:=by
 obtain⟨m,j⟩:=cell_of_shapedOpen_int h b c d p o f;obtain⟨cs,g,s,_⟩:=h.1 a zero t b c;refine⟨m,t,(0,0),?_⟩;rw[g];have r:cs.size=1:=aA0
 have q:cs[0]? =θ (.int k m):=by
  have:w.cell? ⟨a,0,ι⟩=cs[0]? :=by simp[World.cell?,g]
  rw[<-this];exact j
 have e:cs=[π k m].toArray:=by
  apply mf
  ·simp[r]
  ·intro i n l;have:i=0:=aA0;subst this;simpa [n] using q
 rw[e]
theorem dn(h:w.ShapedOpen P)(b:a<P.globals.size)(d:(((begin P (λ_ _=>0) default).world.heap[a]?).bind Obj.row?).isSome=μ):a+1<=w.heap.size:=by obtain⟨⟨zero,t⟩,c⟩:=AB.1 d;obtain⟨cs,g,_⟩:=h.1 a zero t b c;exact(bY.1 g).1
theorem laidOf{l:δ (String×DataW Unit)}(h:laidMetH P l w)(b:(l.filter λx=>x.2.handleName?.isSome)=[]):∃a,DataW.LaidVars P w l a:=by unfold laidMetH at h;rw[b]at h;obtain⟨a,c,_⟩:=h;exact⟨a,c⟩
theorem postOf{enc:Ε×ς->d}{f:Func}{s:ChangeSpec}{a fresh c:η}{m:φ}{v:ς}{l gs:δ (DataW d)}{pa pv:δ MemPlace}
  (n:DataW.Whole enc P f.params.toList s.vars a w b.toList l gs p)
  (k:∀W g r,DataW.TrodAll enc P m W g r f.resultTypes.toList (v.resultList f.resultTypes.size) (s.fn d (l++gs)).results [])
  (j:∀g:Nat->η,(∀H∈p,g H.block=μ)->DataW.TrodAll enc P m 0 g μ f.params.toList b.toList (s.fn d (l++gs)).args pa)
  (i:∀g:Nat->η,(∀H∈p,g H.block=μ)->DataW.TrodVars enc P m g s.vars (s.fn d (l++gs)).vars pv)
  (q:w.keptBut m (λH=>H∈p/\(H∈[]\/H∈pa\/H∈pv))):s.post enc P f a fresh c ν w b v m:=by
 have e:∀H∈p,(λW=>decide (W<w.heap.size)) H.block=μ:=λH o=>by simpa using n.lt H o
 exact⟨l,gs,p,[],pa,pv,n,k _ _ _,j _ e,i _ e,q,λh=>by cases h⟩
end Go.Proofs
set_option maxRecDepth 100000
namespace Go.Proofs
open Go.Wk Go.Px Go.RowKit
variable{W:φ}
theorem glOf(w:laidMetH prog YtiefafeoagcedaaGreatDoor.Rows.routingArrivesRow.laid W)(n:W.ShapedOpen prog)(v:12<=W.heap.size):Gl W:=by
 obtain⟨x,h⟩:=laidOf w aD;have v1:Vr W 1 (Η eS zt):=by obtain⟨g,t,cs,b,p,a,i,d,c⟩:=rQ h 8 rfl;obtain rfl := aP ((show Tryz.prog.globalNamed "dialtone/header.specials" = θ 1 by kernel_rfl).symm.trans a);obtain rfl:=aP ((show(Tryz.prog.globals[1]?).map (·.type)=θ 225 by kernel_rfl).symm.trans i);have e:=Ot (dz:=λs=>.lit (.string s)) (f:=eS) zt underlying225 (show Tryz.prog.cellsOf 9=1 by kernel_rfl) aD rfl (λ_ _ z _ h=>Wq underlying9 z h) c;have:=IA a d;rw[e]at this;exact this
 have v6:Vr W 6 (Η Eh Et):=by obtain⟨g,t,cs,b,p,a,i,d,c⟩:=rQ h 9 rfl;obtain rfl := aP ((show Tryz.prog.globalNamed "dialtone/header.kinds" = θ 6 by kernel_rfl).symm.trans a);obtain rfl:=aP ((show(Tryz.prog.globals[6]?).map (·.type)=θ 272 by kernel_rfl).symm.trans i);have e:=Ot (dz:=λz=>.agg [.lit (.string z.1),.lit (.int .i64 z.2)]) (f:=Eh) Et underlying272 (show Tryz.prog.cellsOf 271=2 by kernel_rfl) aD rfl (λ_ _ z _ h=>ak underlying271 underlying9 underlying231 rfl aD aD aD z h) c;have:=IA a d;rw[e]at this;exact this
 have v4:Vr W 4 (Η eS lr):=by obtain⟨g,t,cs,b,p,a,i,d,c⟩:=rQ h 7 rfl;obtain rfl := aP ((show Tryz.prog.globalNamed "dialtone/address.classes" = θ 4 by kernel_rfl).symm.trans a);obtain rfl:=aP ((show(Tryz.prog.globals[4]?).map (·.type)=θ 261 by kernel_rfl).symm.trans i);have e:=Ot (dz:=λs=>.lit (.string s)) (f:=eS) lr underlying261 (show Tryz.prog.cellsOf 9=1 by kernel_rfl) aD rfl (λ_ _ z _ h=>Wq underlying9 z h) c;have:=IA a d;rw[e]at this;exact this
 have o:Vr W 7 (Η (eI .u32) Jd):=by obtain⟨g,t,cs,b,p,a,i,d,c⟩:=rQ h 2 rfl;obtain rfl := aP ((show Tryz.prog.globalNamed "dialtone/hash.constants" = θ 7 by kernel_rfl).symm.trans a);obtain rfl:=aP ((show(Tryz.prog.globals[7]?).map (·.type)=θ 278 by kernel_rfl).symm.trans i);have e:=Lib.cells_of_tab (zs:=Jd) (k:=.u32) underlying278 underlying134 aD aD c;have:=IA a d;rw[e]at this;rw[show Η (eI .u32) Jd=Jd.map (λz=>π .u32 z)from List.map_eq_flatMap.symm];exact this
 have q:Vr W 5 (Lib.pow10Tab.map λz=>π .u64 z):=by obtain⟨g,t,cs,b,p,a,i,d,c⟩:=rQ h 3 rfl;obtain rfl := aP ((show Tryz.prog.globalNamed "internal/strconv.uint64pow10" = θ 5 by kernel_rfl).symm.trans a);obtain rfl:=aP ((show(Tryz.prog.globals[5]?).map (·.type)=θ 268 by kernel_rfl).symm.trans i);have e:=Lib.cells_of_tab (zs:=Lib.pow10Tab) (k:=.u64) underlying268 underlying136 aD aD c;have:=IA a d;rw[e]at this;exact this
 have u:∃j l,Vr W 2 [.iface j l]:=by obtain⟨g,t,cs,b,p,a,i,d,c⟩:=rQ h 6 rfl;obtain rfl := aP ((show Tryz.prog.globalNamed "strconv.ErrSyntax" = θ 2 by kernel_rfl).symm.trans a);obtain rfl:=aP ((show(Tryz.prog.globals[2]?).map (·.type)=θ 74 by kernel_rfl).symm.trans i);obtain⟨j,l,e⟩:=OT underlying74 _ _ c;have:=IA a d;rw[e]at this;exact⟨j,l,this⟩
 have r:∃j l,Vr W 3 [.iface j l]:=by obtain⟨g,t,cs,b,p,a,i,d,c⟩:=rQ h 5 rfl;obtain rfl := aP ((show Tryz.prog.globalNamed "strconv.ErrRange" = θ 3 by kernel_rfl).symm.trans a);obtain rfl:=aP ((show(Tryz.prog.globals[3]?).map (·.type)=θ 74 by kernel_rfl).symm.trans i);obtain⟨j,l,e⟩:=OT underlying74 _ _ c;have:=IA a d;rw[e]at this;exact⟨j,l,this⟩
 have v0:∃m,Vr W 0 [.int .i64 m]:=intVar (zero:= #[.int .i64 0]) (t:=3) n (cC aD) aD Τ aD aD underlying3;exact {gs:=v,specials:=v1,kinds:=v6,classes:=v4,rounds:=o,pow10:=q,errS:=u,errR:=r,maxlen:=v0}
noncomputable def low:Nat:=(World.holding prog default ⟨#[],#[],[]⟩).heap.size
noncomputable def UD(g:Nat)(o:Obj):Obj:=
 match o with
 |.cells c t a=>.cells (match g with
  |8=>(([0,1,28,2,29,14,24,3,30,22,20,15,25,17,4,8,31,27,13,23,21,19,16,7,26,12,18,6,11,5,10,9]:δ Int).map (π .u8)).toArray
  |9=>(([0,1,56,2,57,49,28,3,61,58,42,50,38,29,17,4,62,47,59,36,45,43,51,22,53,39,33,30,24,18,12,5,63,55,48,27,60,41,37,16,46,35,44,21,52,32,23,11,54,26,40,15,34,20,31,10,25,14,19,9,13,8,7,6]:δ Int).map (π .u8)).toArray
  |7=>(([1116352408,1899447441,3049323471,3921009573,961987163,1508970993,2453635748,2870763221,3624381080,310598401,607225278,1426881987,1925078388,2162078206,2614888103,3248222580,3835390401,4022224774,264347078,604807628,770255983,1249150122,1555081692,1996064986,2554220882,2821834349,2952996808,3210313671,3336571891,3584528711,113926993,338241895,666307205,773529912,1294757372,1396182291,1695183700,1986661051,2177026350,2456956037,2730485921,2820302411,3259730800,3345764771,3516065817,3600352804,4094571909,275423344,430227734,506948616,659060556,883997877,958139571,1322822218,1537002063,1747873779,1955562222,2024104815,2227730452,2361852424,2428436474,2756734187,3204031479,3329325298]:δ Int).map (π .u32)).toArray
  |5=>(([1,10,100,1000,10000,100000,1000000,10000000,100000000,1000000000,10000000000,100000000000,1000000000000,10000000000000,100000000000000,1000000000000000,10000000000000000,100000000000000000,1000000000000000000,10000000000000000000]:δ Int).map (π .u64)).toArray
  |11=>(([128,191,160,191,128,159,144,191,128,143,0,0,0,0,0,0,0,0,0,0,0,0,0,0,0,0,0,0,0,0,0,0]:δ Int).map (π .u8)).toArray
  |3=> #[.iface 284 (.pointer (θ ⟨low+0,0,ι⟩))]
  |2=> #[.iface 284 (.pointer (θ ⟨low+1,0,ι⟩))]
  |4=> #[str [38,61,43,36,44,59,63,47],str [91,93,47,58,38,43,36],str [91,93,47,63,58,43,36]]
  |1=> #[str [67,97,108,108,45,73,68],str [67,83,101,113],str [77,73,77,69,45,86,101,114,115,105,111,110],str [77,105,110,45,83,69],str [82,65,99,107],str [82,83,101,113],str [87,87,87,45,65,117,116,104,101,110,116,105,99,97,116,101]]
  |6=> #[str [70,114,111,109],.int .i64 1,str [84,111],.int .i64 1,str [67,111,110,116,97,99,116],.int .i64 1,str [82,111,117,116,101],.int .i64 1,str [82,101,99,111,114,100,45,82,111,117,116,101],.int .i64 1,str [80,97,116,104],.int .i64 1,str [83,101,114,118,105,99,101,45,82,111,117,116,101],.int .i64 1,str [82,101,102,101,114,45,84,111],.int .i64 1,str [82,101,102,101,114,114,101,100,45,66,121],.int .i64 1,str [82,101,112,108,121,45,84,111],.int .i64 1,str [86,105,97],.int .i64 2,str [67,83,101,113],.int .i64 3,str [82,65,99,107],.int .i64 4,str [67,111,110,116,101,110,116,45,76,101,110,103,116,104],.int .i64 5,str [69,120,112,105,114,101,115],.int .i64 5,str [77,97,120,45,70,111,114,119,97,114,100,115],.int .i64 5,str [77,105,110,45,69,120,112,105,114,101,115],.int .i64 5,str [82,83,101,113],.int .i64 5,str [67,111,110,116,101,110,116,45,68,105,115,112,111,115,105,116,105,111,110],.int .i64 6,str [67,111,110,116,101,110,116,45,84,121,112,101],.int .i64 6,str [69,118,101,110,116],.int .i64 6,str [77,105,110,45,83,69],.int .i64 6,str [83,101,115,115,105,111,110,45,69,120,112,105,114,101,115],.int .i64 6,str [83,117,98,115,99,114,105,112,116,105,111,110,45,83,116,97,116,101],.int .i64 6,str [65,99,99,101,112,116],.int .i64 7,str [65,108,108,111,119],.int .i64 7,str [65,108,108,111,119,45,69,118,101,110,116,115],.int .i64 7,str [80,114,111,120,121,45,82,101,113,117,105,114,101],.int .i64 7,str [82,101,113,117,105,114,101],.int .i64 7,str [83,117,112,112,111,114,116,101,100],.int .i64 7,str [85,110,115,117,112,112,111,114,116,101,100],.int .i64 7]
  |10=>(Go.Pinned.utf8FirstZ.map λ(z:Nat)=>π .u8 (z:Int)).toArray
  |_=>c) t a
 |o=>o
noncomputable def De(a:Os):φ:={World.holding prog a ⟨#[.cells #[str [118,97,108,117,101,32,111,117,116,32,111,102,32,114,97,110,103,101]] 286,.cells #[str [105,110,118,97,108,105,100,32,115,121,110,116,97,120]] 286],#[],[]⟩with heap:=(World.holding prog a ⟨#[.cells #[str [118,97,108,117,101,32,111,117,116,32,111,102,32,114,97,110,103,101]] 286,.cells #[str [105,110,118,97,108,105,100,32,115,121,110,116,97,120]] 286],#[],[]⟩).heap.mapIdx UD}
theorem own:ownKnob Tryz.prog.godebug=ι:=by kernel_rfl
open YtiefafeoagcedaaGreatDoor.Rows (uptoBulk uptoBulkAll)
theorem IP{a:φ}(h:Below W.heap.size W a){p:MemPlace}(c:p.block<W.heap.size):W.sameAt a p:=by
 cases p with
 |cell b off=>show a.cell? _=W.cell? _;unfold World.cell?;rw[h.block b c]
 |map b=>exact h.block b c
theorem FW{H:Type}{enc:Ε×ς->H}{P:Θ}{W g:φ}{c:Nat->η}:∀{b:δ Ε}{vs:δ ς}{f:δ (DataW H)}{a:δ MemPlace},DataW.TrodAll enc P W 0 c μ b vs f a->(∀p∈a,W.sameAt g p)->DataW.TrodAll enc P g 0 c μ b vs f a
 |[],[],[],_,h,_=>h
 |_::_,_::_,_::_,_,⟨p,q,⟨n,j⟩,i,e⟩,d=>⟨p,q,⟨n,DataW.trod_carry n _ _ _ j λx hx=>d x (by rw[e];exact List.mem_append_left _ hx)⟩,FW i λx hx=>d x (by rw[e];exact List.mem_append_right _ hx),e⟩
theorem Vc{H:Type}{enc:Ε×ς->H}{P:Θ}{W j:φ}{b:δ Ε}{vs:δ ς}{i:δ (DataW H)}{a:δ MemPlace}(n:laidOutB P=μ)(m:mapsRowed P=μ)
  (o:((List.range P.types.size).all λt=>match P.underlying t with|some (.slice e)=>decide (0<P.cellsOf e)|_=>μ)=μ) (c:(b.all λt=>decide (t<P.types.size))=μ)
  (h:DataW.TrodAll enc P W 0 (λ_=>μ) μ b vs i a) (q:Below W.heap.size W j) (f:∀p∈a,p.block<W.heap.size) (g:Nat->η) (d:∀p∈a,g p.block=μ):DataW.TrodAll enc P j 0 g μ b vs i a:=by
 refine FW (DataW.TrodAll.respare (kids_rows n m) (slices_full_of P o) (λt k=> ?_) h d) λp l=>IP q (f p l);have:=aT.1 c t k;simpa using this
def Dec(P:Θ)(w:φ){H:Type}(enc:Ε×ς->H){c:Type}(t:Ε)(f:c->δ ς)(a:c->Prop)(sz:c->Nat):Prop:=
 ∀base d e b cs x,DataW.trod enc P w base d e b t cs=θ x->∃z,cs=f z/\a z/\sz z<=uptoBulk x.1
section
variable{P:Θ}{w:φ}{H:Type}{enc:Ε×ς->H}{t:Ε}
theorem bcs(b:P.underlying t=θ .string):Dec P w enc t eS (λs=>γ s<=9223372036854775807) (λs=>γ s):=by intro base d e a cs x h;obtain⟨s,rfl,hx,c⟩:=DataW.trod_string b h;refine⟨s.data.toList,Τ,lenOf c,?_⟩;rw[hx];simp[uptoBulk]
theorem uq{k:Δ}(b:P.underlying t=θ (.int k)):Dec P w enc t (eI k) (λn=>(Lit.int k n).wf=μ) (λ_=>0):=by intro base d e a cs x h;obtain⟨n,rfl,hx,c⟩:=DataW.trod_int b h;exact⟨n,Τ,c,Nat.zero_le _⟩
variable{b:Type}
theorem KU{n:Nat}{D:Nat->DataW H}{sz:b->Nat}:∀(zs:δ b),γ zs=n->(∀i (h:i<γ zs),sz zs[i]<=uptoBulk (D i))->(zs.map sz).sum<=uptoBulkAll ((List.range n).map D):=by
 intro zs;induction zs generalizing n D with
 |nil=>intro a _;subst a;simp
 |cons z zs d=>intro a h;subst a;have c:=h 0 aA2;have:=d (n:=γ zs) (D:=λi=>D (i+1)) Τ (λi e=>by have:=h (i+1) aA3;simpa using this);rw[dF,List.range_succ_eq_map,gL,gL,eY,uptoBulkAll,tP];simp only[List.getElem_cons_zero]at c;exact Nat.add_le_add c this
variable{a n:Nat}{cs:δ ς}
theorem VS{f:Ζ}(h:w.cells? a f n=θ cs):γ cs=n/\∀j v,cs[j]? =θ v->w.cell? (f.add j)=θ v:=by obtain⟨e,d,c⟩:=World.cells?_some h;exact⟨d,λj v b=>(c j (by have:=(aE.1 b).1;omega)).trans b⟩
variable{e:Ε}{J:Nat->η}{S:η}{x:DataW H×δ MemPlace}
theorem Uu{f:b->δ ς}{c:b->Prop}{sz:b->Nat}(L:P.underlying t=θ (.slice e))(R:Dec P w enc e f c sz)
  (h:DataW.trod enc P w a J S n t cs=θ x):∃g q cap,∃zs:δ b,cs=[.slice g q cap]/\q=γ zs/\q<=cap/\Rd w g (zs.flatMap f)/\(∀z∈zs,c z)/\(zs.map sz).sum<=uptoBulk x.1:=by
 rcases Deep.open_slice L h with⟨rfl,rfl⟩|⟨g,len,cap,m,q,D,Y,rfl,X,O,V,B,rfl,hx⟩
 ·exact⟨ι,0,0,[],Τ,Τ,pW _,λj v Z=>by simp at Z,λz u=>by simp at u,Nat.zero_le _⟩
 ·have N:len<=m:=by rw[B];split<;>omega
  have key:∀k,k<=len->∃zs:δ b,γ zs=k/\(∀z∈zs,c z)/\(∀i (r:i<γ zs),sz zs[i]<=uptoBulk (D i))/\γ (zs.flatMap f)=k*P.cellsOf e/\∀j v,(zs.flatMap f)[j]? =θ v->w.cell? (g.add j)=θ v:=by
   intro k;induction k with
   |zero=>intro _;exact⟨[],Τ,λz u=>by simp at u,λi r=>by simp at r,aA2,λj v Z=>by simp at Z⟩
   |succ k K=>
    intro W;obtain⟨zs,d,I,G,s,F⟩:=K aA0;obtain⟨U,T,A⟩:=hx k aA0;obtain⟨z,rfl,Q,M⟩:=R _ _ _ _ _ _ A;obtain⟨C,E⟩:=VS T;refine⟨zs++[z],by simp[d],λy l=> ?_,λi r=> ?_,?_,λj v Z=> ?_⟩
    ·rcases aZ.1 l with l|l
     ·exact I y l
     ·rw[aF.1 l];exact Q
    ·by_cases p:i<γ zs
     ·rw[List.getElem_append_left p];exact G i p
     ·have:i=k:=by simp at r;omega
      subst this;simp only[d.symm,List.getElem_concat_length];rw[d];exact M
    ·simp[s,C,Nat.succ_mul]
    ·rw[List.flatMap_append,LO]at Z;by_cases o:j<γ (zs.flatMap f)
     ·rw[aI o]at Z;exact F j v Z
     ·rw[aM aA0,s]at Z;have:=E _ _ Z;rw[s]at o;have e:(g.add (k*P.cellsOf e)).add (j-k*P.cellsOf e)=g.add j:=by rw[Go.Wk.add_add];congr 1;omega
      rw[e]at this;exact this
  obtain⟨zs,d,I,G,s,F⟩:=key len (pW _);refine⟨θ g,len,cap,zs,Τ,d.symm,O,λj v Z=>⟨g,Τ,F j v Z⟩,I,?_⟩;have:=KU (sz:=sz) zs d G;simp only[uptoBulk];omega
theorem um(b:P.underlying t=θ (.int .u8)):Dec P w enc t eB (λ_=>True) (λ_=>1):=by
 intro base d e a cs x h;obtain⟨n,rfl,hx,c⟩:=DataW.trod_int b h;have f:0<=n/\n<=255:=by simpa [Lit.wf,show IntKind.u8.min=0 by decide,show IntKind.u8.max=255 by decide] using c
 refine⟨UInt8.ofNat n.toNat,?_,trivial,?_⟩
 ·have:((UInt8.ofNat n.toNat).toNat)=n:=by rw[iP];omega
  simp only[eB,bt,this]
 ·rw[hx];simp[uptoBulk]
theorem MX{b:Type}:∀l:δ b,(l.map λ_=>1).sum=γ l
 |[]=>rfl
 |a::l=>by rw[gL,eY,MX l,dF];omega
theorem VP(f:P.underlying t=θ (.slice e))(g:P.underlying e=θ (.int .u8))
  (h:DataW.trod enc P w a J S n t cs=θ x):∃d b cap,∃zs:δ ζ,cs=[.slice d b cap]/\b=γ zs/\b<=cap/\Rd w d (zs.flatMap eB)/\(∀z∈zs,True)/\γ zs<=uptoBulk x.1:=by
 obtain⟨d,b,cap,zs,o,m,l,k,j,c⟩:=Uu f (um g) h;rw[MX]at c;exact⟨d,b,cap,zs,o,m,l,k,j,c⟩
def yx:TypeDesc->η
 |.struct _=>ν
 |.array _ _=>ν
 |_=>μ
theorem TQ{v x:ς}{ty:TypeDesc}(b:P.underlying t=θ ty)(d:Value.okWide P w .any a t v)(c:yx ty=μ)(e:v.cells.toList=[x]):v=x:=by
 cases v with
 |agg cs=>unfold Value.okWide Cell.okWide Cell.ok at d;rw[b]at d;cases ty<;>first|(simp[yx]at c;done)|simp at d
 |_=>simpa [Value.cells] using e
end
open Go.Shelf
open Go.Lib renaming cut → jF, hasPrefix → Jg, index → fO, indexAny → Bu, itoa → iS, join → dP, trimPrefix → jT
def Tryz.Fq:Ρ:=⟨λ|169=>62|n=>n,λ|70=>70|9=>9|0=>0|72=>72|37=>23|127=>132|3=>3|5=>5|n=>n,λ|n=>n⟩
theorem Tryz.rq:Go.Proofs.Lays.n169 prog Tryz.Fq:=AK
theorem Tryz.Bs:Builder.Extra prog Tryz.Fq:=AK
def Tryz.Fs:Ρ:=⟨λ|156=>233|165=>306|166=>56|169=>62|240=>128|241=>338|276=>199|277=>351|n=>n,λ|31=>49|9=>9|3=>3|4=>4|0=>0|20=>20|72=>72|76=>75|70=>70|37=>23|75=>74|127=>132|164=>173|5=>5|80=>82|n=>n,λ|n=>n⟩
theorem Tryz.OL:Go.Proofs.Lays.n156 prog Tryz.Fs:=AK
theorem Tryz.lO:Builder.Extra prog Tryz.Fs:=AK
open Go.RowKit in
theorem Tryz.strings_Join_none (a : ε Ζ) (c : Nat) (sep : ByteArray) (w : φ) :
    Calls prog 233 #[.slice a 0 c,.string sep] w λe w' => e = .returned (.string ⟨#[]⟩) /\ w' = w := Any.strings_Join_none Tryz.OL Tryz.lO a c sep w
open Go.RowKit in
theorem Tryz.strings_Join (g o c : Nat) (b : δ ByteArray) (sep : ByteArray) (w : φ) (a : ∀ (j : Nat) x,b[j]? = θ x -> w.cell? ⟨g,o + j,ι⟩ = θ (.string x)) (h : g < w.heap.size) (i : γ b <= 140737488355328) (f : γ b <= c) (d : γ (dP (b.map (·.data.toList)) sep.data.toList) <= 140737488355328) :
    Calls prog 233 #[.slice (θ ⟨g,o,ι⟩) (γ b) c,.string sep] w λe w' => e = .returned (.string ⟨(dP (b.map (·.data.toList)) sep.data.toList).toArray⟩) /\ Below w.heap.size w w' := Any.strings_Join Tryz.OL Tryz.lO g o c b sep w a h i f d
def Tryz.DN:Ρ:=⟨λ|161=>305|231=>270|227=>213|233=>272|235=>274|228=>214|197=>326|151=>327|260=>346|152=>211|137=>82|119=>289|224=>290|225=>291|217=>160|266=>238|n=>n,λ|9=>9|4=>4|3=>3|5=>5|117=>188|116=>187|0=>0|124=>236|105=>275|21=>21|119=>290|46=>177|139=>293|138=>292|n=>n,λ|3=>10|4=>11|n=>n⟩
theorem Tryz.ru:Go.Proofs.Lays.n161 prog Tryz.DN:=AK
def Tryz.DM:Ρ:=⟨λ|162=>345|232=>271|227=>213|234=>273|236=>275|228=>214|271=>328|151=>327|120=>347|197=>326|152=>211|260=>346|137=>82|119=>289|224=>290|225=>291|217=>160|266=>238|n=>n,λ|9=>9|4=>4|3=>3|5=>5|117=>188|116=>187|0=>0|124=>236|21=>21|105=>275|46=>177|119=>290|139=>293|138=>292|n=>n,λ|3=>10|4=>11|n=>n⟩
theorem Tryz.rr:Go.Proofs.Lays.n162 prog Tryz.DM:=AK
def Tryz.DO:Ρ:=⟨λ|160=>198|232=>271|231=>270|227=>213|234=>273|233=>272|236=>275|235=>274|228=>214|271=>328|151=>327|197=>326|120=>347|152=>211|260=>346|137=>82|119=>289|224=>290|225=>291|217=>160|266=>238|n=>n,λ|9=>9|4=>4|3=>3|5=>5|117=>188|116=>187|0=>0|124=>236|21=>21|105=>275|46=>177|119=>290|139=>293|138=>292|n=>n,λ|3=>10|4=>11|n=>n⟩
theorem Tryz.ry:Go.Proofs.Lays.n160 prog Tryz.DO:=AK
def Tryz.DV:Ρ:=⟨λ|137=>82|217=>160|266=>238|n=>n,λ|9=>9|5=>5|3=>3|n=>n,λ|n=>n⟩
theorem Tryz.si:Go.Proofs.Lays.n137 prog Tryz.DV:=AK
open Go.RowKit in
theorem Tryz.strings_IndexByte (s : ByteArray) (c : Int) (w : φ) :
    Calls prog 82 #[.string s,.int .u8 c] w λe w' => e = .returned (.int .i64 (Lib.indexByte s.data.toList c.toNat.toUInt8)) /\ w' = w := Any.strings_IndexByte Tryz.si s c w
def Tryz.DW:Ρ:=⟨λ|103=>335|210=>350|206=>309|n=>n,λ|9=>9|4=>4|24=>37|3=>3|n=>n,λ|n=>n⟩
theorem Tryz.sj:Go.Proofs.Lays.n103 prog Tryz.DW:=AK
open Go.RowKit in
theorem Tryz.strings_CutPrefix (s p : ByteArray) (w : φ) :
    Calls prog 335 #[.string s,.string p] w λe w' => e = .returned (.tuple #[.string ⟨(jT s.data.toList p.data.toList).toArray⟩,.bool (Jg s.data.toList p.data.toList)]) /\ w' = w := Any.strings_CutPrefix Tryz.sj s p w
def Tryz.Yb:Ρ:=⟨λ|171=>35|243=>103|246=>179|283=>255|284=>256|285=>257|286=>258|129=>316|317=>315|318=>317|319=>318|320=>319|337=>343|338=>344|n=>n,λ|3=>3|9=>9|2=>2|4=>4|171=>226|0=>0|53=>136|37=>23|5=>5|173=>229|212=>268|51=>134|20=>20|213=>269|46=>177|232=>84|233=>137|n=>n,λ|17=>5|18=>8|19=>9|n=>n⟩
theorem Tryz.bp:Go.Proofs.LaysM.n171 prog Tryz.Yb:=AK
open Go.RowKit Go.Sort Go.Lib in
theorem Tryz.strconv_Itoa (n : Int) (d : -9223372036854775808 <= n) (c : n <= 9223372036854775807) (w : φ) (a : Lib.TabIs prog w "internal/strconv.uint64pow10" .u64 Lib.pow10Tab) :
    Calls prog 35 #[.int .i64 n] w λe w' => e = .returned (.string ⟨(iS n).toArray⟩) /\ ∃ k b,w' = grow (w.drewN k) b := Any.strconv_Itoa Tryz.bp n d c w a
def Tryz.Yc:Ρ:=⟨λ|172=>80|244=>155|245=>156|247=>226|279=>227|280=>228|281=>229|282=>230|287=>300|316=>301|171=>35|205=>302|321=>336|322=>337|243=>103|246=>179|283=>255|284=>256|285=>257|286=>258|129=>316|317=>315|318=>317|319=>318|320=>319|337=>343|338=>344|n=>n,λ|9=>9|3=>3|75=>74|76=>75|4=>4|5=>5|167=>203|37=>23|0=>0|85=>204|2=>2|168=>206|53=>136|175=>252|46=>177|210=>255|127=>132|145=>286|143=>284|21=>21|171=>226|173=>229|212=>268|51=>134|20=>20|213=>269|232=>84|233=>137|80=>82|n=>n,λ|15=>2|16=>3|17=>5|18=>8|19=>9|n=>n⟩
theorem Tryz.Ly:Go.Proofs.LaysC.n172 prog Tryz.Yc:=AK
open Go.RowKit in
theorem Tryz.strconv_Atoi_ok (s : ByteArray) (a : s.size <= 9223372036854775806) (v : Int) (h : Lib.atoiAll s.data.toList = .ok v) (w : φ) :
    Calls prog 80 #[.string s] w λe w' => e = .returned (.tuple #[.int .i64 v,.nilIface]) /\ (w' = w \/ ∃ t,w' = Lib.bytesWorld w 5 t) := Any.strconv_Atoi_ok Tryz.Ly s a v h w
open Go.RowKit in
theorem Tryz.strconv_Atoi_syntax (s : ByteArray) (a : s.size <= 281474976710656) (h : Lib.atoiAll s.data.toList = Lib.atoiAll []) (b : ς) (w : φ) (g : w.cell? ⟨2,0,ι⟩ = θ b) (c : b = .nilIface \/ ∃ d f,b = .iface d f) :
    Calls prog 80 #[.string s] w λe w' => ∃ N,e = .returned (.tuple #[.int .i64 (0),.iface 206 (.pointer (θ ⟨N,0,ι⟩))]) /\ w.heap.size <= N /\ w'.heap[N]? = θ (.cells #[.string ⟨#[65,116,111,105]⟩,.string s,b] 255 (0,0)) /\ Below w.heap.size w w' := Any.strconv_Atoi_syntax Tryz.Ly s a h b w g c
open Go.RowKit in
theorem Tryz.strconv_Atoi_range (s : ByteArray) (a : s.size <= 281474976710656) (h : Lib.atoiAll s.data.toList = .range) (b : ς) (w : φ) (g : w.cell? ⟨3,0,ι⟩ = θ b) (c : b = .nilIface \/ ∃ d f,b = .iface d f) :
    Calls prog 80 #[.string s] w λe w' => ∃ N,e = .returned (.tuple #[.int .i64 (Lib.atoiSat s.data.toList),.iface 206 (.pointer (θ ⟨N,0,ι⟩))]) /\ w.heap.size <= N /\ w'.heap[N]? = θ (.cells #[.string ⟨#[65,116,111,105]⟩,.string s,b] 255 (0,0)) /\ Below w.heap.size w w' := Any.strconv_Atoi_range Tryz.Ly s a h b w g c
def Tryz.DU:Ρ:=⟨λ|143=>292|219=>331|217=>160|225=>291|224=>290|267=>349|266=>238|314=>355|n=>n,λ|9=>9|3=>3|4=>4|5=>5|46=>177|146=>294|51=>134|n=>n,λ|1=>0|n=>n⟩
theorem Tryz.sh:Go.Proofs.Lays.n143 prog Tryz.DU:=AK
open Go.RowKit Go.Lib in
theorem Tryz.strings_Index (s sub : ByteArray) (m : Int) (w : φ) (a : s.size < 4294967281) (b : w.cell? ⟨0,0,ι⟩ = θ (.int .i64 m)) :
    Calls prog 292 #[.string s,.string sub] w λe w' => e = .returned (.int .i64 (fO s.data.toList sub.data.toList)) /\ w' = w := Any.strings_Index Tryz.sh s sub m w a b
def Tryz.DT:Ρ:=⟨λ|144=>215|143=>292|219=>331|217=>160|225=>291|224=>290|267=>349|266=>238|314=>355|n=>n,λ|9=>9|4=>4|3=>3|5=>5|46=>177|146=>294|51=>134|n=>n,λ|1=>0|n=>n⟩
theorem Tryz.sg:Go.Proofs.Lays.n144 prog Tryz.DT:=AK
open Go.RowKit Go.Lib in
theorem Tryz.strings_Contains (s sub : ByteArray) (m : Int) (w : φ) (a : s.size < 4294967281) (b : w.cell? ⟨0,0,ι⟩ = θ (.int .i64 m)) :
    Calls prog 215 #[.string s,.string sub] w λe w' => e = .returned (.bool (Lib.contains s.data.toList sub.data.toList)) /\ w' = w := Any.strings_Contains Tryz.sg s sub m w a b
def Tryz.DS:Ρ:=⟨λ|145=>231|220=>303|219=>331|217=>160|225=>291|224=>290|267=>349|266=>238|314=>355|n=>n,λ|9=>9|4=>4|59=>144|3=>3|5=>5|46=>177|146=>294|51=>134|n=>n,λ|1=>0|n=>n⟩
theorem Tryz.se:Go.Proofs.Lays.n145 prog Tryz.DS:=AK
open Go.RowKit Go.Lib in
theorem Tryz.strings_Cut (s sep : ByteArray) (m : Int) (w : φ) (a : s.size < 4294967281) (b : w.cell? ⟨0,0,ι⟩ = θ (.int .i64 m)) :
    Calls prog 231 #[.string s,.string sep] w λe w' => e = .returned (.tuple #[.string ⟨(jF s.data.toList sep.data.toList).1.toArray⟩,.string ⟨(jF s.data.toList sep.data.toList).2.1.toArray⟩,.bool (jF s.data.toList sep.data.toList).2.2]) /\ ∃ n,w' = w.drewN n := Any.strings_Cut Tryz.se s sep m w a b
def Tryz.DQ:Ρ:=⟨λ|149=>79|222=>154|n=>n,λ|9=>9|5=>5|3=>3|4=>4|n=>n,λ|n=>n⟩
theorem Tryz.rz:Go.Proofs.Lays.n149 prog Tryz.DQ:=AK
open Go.RowKit Go.Lib in
theorem Tryz.strings_LastIndexByte (s : ByteArray) (c : Int) (a : s.size < 4611686018427387904) (w : φ) :
    Calls prog 79 #[.string s,.int .u8 c] w λe w' => e = .returned (.int .i64 (Lib.lastIndexByte s c)) /\ w' = w := Any.strings_LastIndexByte Tryz.rz s c a w
def Tryz.DX:Ρ:=⟨λ|101=>163|208=>243|206=>309|n=>n,λ|9=>9|4=>4|3=>3|n=>n,λ|n=>n⟩
theorem Tryz.sk:Go.Proofs.Lays.n101 prog Tryz.DX:=AK
open Go.RowKit Go.Lib in
theorem Tryz.strings_TrimPrefix (s p : ByteArray) (w : φ) :
    Calls prog 163 #[.string s,.string p] w λe w' => e = .returned (.string ⟨(jT s.data.toList p.data.toList).toArray⟩) /\ w' = w := Any.strings_TrimPrefix Tryz.sk s p w
def Tryz.DR:Ρ:=⟨λ|146=>234|221=>307|268=>339|138=>340|143=>292|195=>352|197=>326|218=>353|219=>331|260=>346|217=>160|225=>291|224=>290|267=>349|266=>238|314=>355|n=>n,λ|9=>9|31=>49|3=>3|4=>4|0=>0|105=>275|21=>21|5=>5|46=>177|119=>290|139=>293|138=>292|146=>294|51=>134|n=>n,λ|1=>0|3=>10|4=>11|n=>n⟩
theorem Tryz.sd:Go.Proofs.Lays.n146 prog Tryz.DR:=AK
open Go.RowKit Go.Lib in
theorem Tryz.strings_Split (s sep : ByteArray) (m : Int) (w : φ) (a : s.size < 4294967281) (b : w.cell? ⟨0,0,ι⟩ = θ (.int .i64 m)) (c : 1 <= sep.size) :
    Calls prog 234 #[.string s,.string sep] w λe w' =>
      e = .returned (.slice (θ ⟨w.heap.size,0,ι⟩) (Lib.countB s sep + 1) (Lib.countB s sep + 1)) /\ w' = w.alloc (.cells ((Lib.splitB sep 0 (Lib.countB s sep) s).map Value.string).toArray 9) := Any.strings_Split Tryz.sd aD s sep m w a b c
def Tryz.DP:Ρ:=⟨λ|153=>141|152=>211|226=>212|227=>213|228=>214|137=>82|119=>289|224=>290|225=>291|217=>160|266=>238|n=>n,λ|9=>9|3=>3|4=>4|5=>5|21=>21|117=>188|116=>187|0=>0|46=>177|124=>236|n=>n,λ|n=>n⟩
theorem Tryz.Ir:Go.Proofs.Lays.n153 prog Tryz.DP:=AK
open Go.RowKit Go.Lib in
theorem Tryz.strings_IndexAny_none (s a : ByteArray) (w : φ) (b : a.size = 0) :
    Calls prog 141 #[.string s,.string a] w λe w' => e = .returned (.int .i64 (Bu s.data.toList a.data.toList)) /\ w' = w := Any.strings_IndexAny_none Tryz.Ir s a w b
open Go.RowKit Go.Lib in
theorem Tryz.strings_IndexAny_one (s a : ByteArray) (w : φ) (d : a.size = 1) (c : ∀ (j : Nat) b,a.data.toList[j]? = θ b -> b.toNat < 128) :
    Calls prog 141 #[.string s,.string a] w λe w' => e = .returned (.int .i64 (Bu s.data.toList a.data.toList)) /\ w' = w := Any.strings_IndexAny_one Tryz.Ir s a w d c
open Go.RowKit Go.Lib in
theorem Tryz.strings_IndexAny_long (d : ∀ w,(zeroValue 187).run prog w = .ok (.agg (Array.replicate 256 (.bool ν))) w) (s a : ByteArray) (w : φ) (i : 2 <= a.size) (h : 8 < s.size) (g : s.size < 4294967281) (f : a.size < 4294967281) (c : ∀ (j : Nat) b,a.data.toList[j]? = θ b -> b.toNat < 128) :
    Calls prog 141 #[.string s,.string a] w λe w' => e = .returned (.int .i64 (Bu s.data.toList a.data.toList)) /\ w' = ((w.alloc (.cells (Lib.setCells a.data.toList) 187)).alloc (.cells (Lib.setCells a.data.toList) 187)) := Any.strings_IndexAny_long Tryz.Ir d aD s a w i h g f c
open Go.RowKit Go.Lib in
theorem Tryz.strings_IndexAny_laid (s a : ByteArray) (w : φ) (g : s.size < 4294967281) (c : a.size < 4294967281) (d : ∀ (j : Nat) b,s.data.toList[j]? = θ b -> b.toNat < 128) (f : ∀ (j : Nat) b,a.data.toList[j]? = θ b -> b.toNat < 128) :
    Calls prog 141 #[.string s,.string a] w λe w' => e = .returned (.int .i64 (Bu s.data.toList a.data.toList)) /\ Below w.heap.size w w' := Any.strings_IndexAny_laid Tryz.Ir aD s a w g c d f
end Go.Proofs
set_option maxRecDepth 20000
namespace Go.Proofs
open Go.Wk Go.Px
theorem yZ{w:φ}(l:δ (aC×aC))(x:(aC×aC))(i:Int)(o:ε Nat)(a:ε Ζ)(cap b:Nat)(u:Hp w (eR [bN cV 47 2 o a cap l,aX b (cV x) 47]) [bN cV 47 2 o a cap l,aX b (cV x) 47] w)(hg:0<=i/\i<=(γ l:Int)/\(γ l+1)*32<=140737488355328):CR prog 101 [.slice a (γ l) cap,.int .i64 i,.slice (θ ⟨b,0,ι⟩) 1 1] w λv w'=>∃o' a' cap',v=.slice a' (γ (nE l i x)) cap'/\Hp w (eR [bN cV 47 2 o a cap l,aX b (cV x) 47]) [bN cV 47 2 o' a' cap' (nE l i x),aX b (cV x) 47] w':=by
 obtain⟨d,K,O⟩:=hg;have V:γ l+1<=140737488355328:=gB (GP _ aA1) O;have B:i.toNat<=γ l:=aA0;have F:γ l<=cap:=u.bZ 0 Τ;have M:=u.rwcapM 0 Τ;have W:cap<=9223372036854775807:=M;refine enter (k:=95) func101 Τ Τ (aK Τ) ?_;refine jR ?_;refine pM ?_;refine Vm (ξ ι 0 0) aD ?_;refine nO ?_;refine kY ?_;refine jR ?_;refine pM ?_;refine kE (ξ a (γ l) cap) aD ?_;refine kE (π .i64 i) aD ?_;refine dY Τ Τ (zq a (γ l) cap 47 2 .i64 i underlying22 aD aD aD ⟨d,K⟩) ?_;refine nO ?_;refine kY ?_;refine jR ?_;refine pM ?_;refine kE (ξ (θ ⟨b,0,ι⟩) 1 1) aD ?_;refine ZG (θ ⟨b,0,ι⟩) 1 1 47 underlying22 aD ?_;refine Vm (π .i64 1) aD ?_;refine nO ?_;refine kY ?_;refine jR ?_;refine jR ?_;refine pM ?_;refine kE (π .i64 1) aD ?_;refine yb .i64 1 0 aD aD ?_;refine nO ?_;refine kY ?_;refine c_kf (b:=decide ((1:Int)=0)) aD aA1 ?_;refine lY ?_;refine kY ?_;refine jR ?_;refine pM ?_;refine kE (ξ a (γ l) cap) aD ?_;refine ZG a (γ l) cap 47 underlying22 aD ?_;refine Vm (π .i64 (γ l:Int)) aD ?_;refine nO ?_;refine kY ?_;refine jR ?_;refine jR ?_;refine pM ?_;refine kE (π .i64 i) aD ?_;refine kE (π .i64 (γ l:Int)) aD ?_;refine yb .i64 i (γ l:Int) aD aD ?_;refine nO ?_;refine kY ?_;refine ij (p:=i=(γ l:Int)) aD (λhe=> ?_) (λa0=> ?_)
 ·skip
  refine jR ?_;refine pM ?_;refine kE (ξ a (γ l) cap) aD ?_;refine kE (ξ (θ ⟨b,0,ι⟩) 1 1) aD ?_;refine GF u 0 o a (θ ⟨b,0,ι⟩) cap 1 47 2 32 l [x] pP Τ underlying22 aB0 aA1 aA1 aD aD (show Rd w _ ([x].flatMap cV)from by rw[List.flatMap_cons,List.flatMap_nil,List.append_nil];exact u.gP 1 Τ) (by simpa using O) ?_;intro o' a' cap' w' s;refine Vm (ξ a' (γ (l++[x])) cap') aD ?_;refine nO ?_;refine kY ?_;refine nM ?_;refine vN ?_;refine Ja (ξ a' (γ (l++[x])) cap') Τ aD ?_;have e:nE l i x=l++[x]:=by subst he;simp[nE]
  rw[e];exact⟨o',a',cap',Τ,s⟩
 ·skip
  refine lY ?_;refine kY ?_;refine jR ?_;refine jR ?_;refine pM ?_;refine kE (π .i64 (γ l:Int)) aD ?_;refine kE (π .i64 1) aD ?_;refine qF (γ l:Int) 1 aD aD ⟨aA0,aA0⟩ ?_;refine kE (ξ a (γ l) cap) aD ?_;refine w_cap a (γ l) cap 47 underlying22 aD ?_;refine w_gtr .i64 ((γ l:Int)+1) (cap:Int) aD aD ?_;refine nO ?_;refine kY ?_;refine ij (p:=(cap:Int)<(γ l:Int)+1) aD (λX=> ?_) (λX=> ?_)
  ·skip
   refine jR ?_;refine pM ?_;refine kE (ξ a (γ l) cap) aD ?_;refine kE (π .i64 i) aD ?_;refine dY Τ Τ (MD a (γ l) cap 47 2 .i64 i underlying22 aD aD aD ⟨d,aA0⟩) ?_;refine kE (π .i64 (γ l:Int)) aD ?_;refine kE (π .i64 1) aD ?_;refine qF (γ l:Int) 1 aD aD ⟨aA0,aA0⟩ ?_;refine kE (π .i64 i) aD ?_;refine XI ((γ l:Int)+1) i aD aD ⟨aA0,aA0⟩ ?_;have U:i.toNat+(γ l+1-i.toNat)=γ l+1:=aA0;refine w_appZ u 0 o a cap 47 2 32 l i.toNat (γ l+1-i.toNat) .i64 pP Τ underlying22 underlying3 aB0 aA1 aA1 B aA0 aA0 (by rw[U];exact O) aD (dB (b:=π .i64 ((γ l:Int)+1-i)) aD (bM (π .i64) aA0)) ?_;intro c G t w' E S I J s;rw[U]at S;have Y:G<=9223372036854775807:=I;refine Vm (ξ (θ ⟨c,0,ι⟩) (γ l+1) G) (dB (b:=ξ (θ ⟨c,0,ι⟩) (i.toNat+(γ l+1-i.toNat)) G) aD (Je U)) ?_;refine nO ?_;refine kY ?_;have j:(γ l+1)*2<=γ t:=by rw[E];exact kq _ S
   obtain⟨A,z,y⟩:=EJ pP l x i.toNat B t j;refine jR ?_;refine pM ?_;refine kE (ξ (θ ⟨c,0,ι⟩) (γ l+1) G) aD ?_;refine kE (π .i64 i) aD ?_;refine dY Τ Τ (zq (θ ⟨c,0,ι⟩) (γ l+1) G 47 2 .i64 i underlying22 aD aD aD ⟨d,aA0⟩) ?_;refine kE (ξ (θ ⟨b,0,ι⟩) 1 1) aD ?_;refine If s 0 c (i.toNat*2) (γ l+1-i.toNat) (G-i.toNat) (kB (θ ⟨c,0,ι⟩) G i.toNat 2) (θ ⟨b,0,ι⟩) 1 1 47 2 t (cV x) Τ underlying22 aD aD (Cg aA0) aD (s.gP 2 Τ) (by rw[pP.len,show Ν 1 (γ l+1-i.toNat)=1 from QV aA0,kj]) A (pP.one x) ?_;intro w2 R;refine nO ?_;refine kY ?_;refine jR ?_;refine cdr 8 R (nR (nR Ca)) ?_;intro C n;refine rp 5 [0,1,2] ?_;refine rt 3 (π .i64 (i+1)) Τ Τ (dA Τ aF2) ?_;refine rt 4 (ξ (kB (θ ⟨c,0,ι⟩) G (i+1).toNat 2) ((γ l+1)-(i+1).toNat) (G-(i+1).toNat)) Τ Τ (dA Τ (by intro w m;exact zq (θ ⟨c,0,ι⟩) (γ l+1) G 47 2 .i64 (i+1) underlying22 aD aD aD ⟨aA0,aA0⟩)) ?_;refine rp 1 [5,6] ?_;refine rt 7 (ξ (kB a cap i.toNat 2) (γ l-i.toNat) (cap-i.toNat)) Τ Τ (dA Τ (by intro w m;exact zq a (γ l) cap 47 2 .i64 i underlying22 aD aD aD ⟨d,aA0⟩)) ?_;refine By aD ?_;refine If n 0 c ((i.toNat+1)*2) ((γ l+1)-(i+1).toNat) (G-(i+1).toNat) (kB (θ ⟨c,0,ι⟩) G (i+1).toNat 2) (kB a cap i.toNat 2) (γ l-i.toNat) (cap-i.toNat) 47 2 _ ((l.drop i.toNat).flatMap cV) Τ underlying22 aD aD (by rw[show(i+1).toNat=i.toNat+1 by omega];exact Cg aA0) aD (Rd.vY pP cap i.toNat F (n.cP 1 Τ)) (by rw[pP.flat,lE,show Ν (γ l-i.toNat) (γ l+1-(i+1).toNat)=γ l-i.toNat from QV aA0]) z (pP.cells _) ?_;intro Z r;refine nO ?_;refine kY ?_;refine jR ?_;refine pM ?_;refine kE (ξ (θ ⟨c,0,ι⟩) (γ l+1) G) aD ?_;refine Vm (ξ (θ ⟨c,0,ι⟩) (γ l+1) G) aD ?_;refine nO ?_;refine kY ?_;refine nM ?_;refine vN ?_;refine Ja (ξ (θ ⟨c,0,ι⟩) (γ l+1) G) Τ aD ?_;have T:=r.Ix (f:=cV) 0 2 G (nE l i x) Τ (by rw[y];exact E) (by rw[nD];exact S) I (by rw[nD];exact tc pP l x i.toNat B t j J);exact⟨θ c,(θ ⟨c,0,ι⟩),G,Je (nD l i x).symm,T.sub (List.Sublist.cons_cons _ (List.Sublist.cons _ (List.Sublist.refl _)))⟩
  ·skip
   refine lY ?_;refine kY ?_;cases o with
   |none=>obtain⟨rfl,rfl,_⟩:=u.JI 0 Τ;simp at X
   |some g=>
    have N:b≠g:=λh=>(List.rel_of_pairwise_cons u.sep (aF.2 Τ) g Τ) (bM θ h);obtain⟨cs,rfl,q,D,_,L,H⟩:=u.JE 0 Τ;have j:(γ l+1)*2<=γ cs:=by rw[q];exact kq _ aA0
    obtain⟨A,z,y⟩:=Ao pP l x i.toNat B cs j;refine jR ?_;refine pM ?_;refine kE (ξ (θ ⟨g,0,ι⟩) (γ l) cap) aD ?_;refine kE (π .i64 (γ l:Int)) aD ?_;refine kE (π .i64 1) aD ?_;refine qF (γ l:Int) 1 aD aD ⟨aA0,aA0⟩ ?_;refine dY Τ Τ (MD (θ ⟨g,0,ι⟩) (γ l) cap 47 2 .i64 ((γ l:Int)+1) underlying22 aD aD aD ⟨aA0,aA0⟩) ?_;refine Vm (ξ (θ ⟨g,0,ι⟩) (γ l+1) cap) (dB (b:=ξ (θ ⟨g,0,ι⟩) ((γ l:Int)+1).toNat cap) aD (Je aA0)) ?_;refine nO ?_;refine kY ?_;refine jR ?_;refine jR ?_;refine pM ?_;refine kE (ξ (θ ⟨b,0,ι⟩) 1 1) aD ?_;refine kE (ξ (θ ⟨g,0,ι⟩) (γ l+1) cap) aD ?_;refine kE (π .i64 i) aD ?_;refine kE (π .i64 1) aD ?_;refine qF i 1 aD aD ⟨aA0,aA0⟩ ?_;refine dY Τ Τ (zq (θ ⟨g,0,ι⟩) (γ l+1) cap 47 2 .i64 (i+1) underlying22 aD aD aD ⟨aA0,aA0⟩) ?_;refine HW (tS:=22) (tR:=4) H 0 1 g b ((i.toNat+1)*2) 47 47 2 (kB (θ ⟨g,0,ι⟩) cap (i+1).toNat 2) cs (cV x) (γ l+1-(i+1).toNat) (cap-(i+1).toNat) 1 177 Τ Τ N (λh=>by rw[h]at q;simp at q;omega) underlying22 (λ_=>aD) (by rw[show(i+1).toNat=i.toNat+1 by omega];exact Cg aA0) aD aD func177 aD aD aD aD ?_;refine w_not ν aD ?_;refine nO ?_;refine kY ?_;refine c_kt (b:= !ν) aD Τ ?_;have P:∀C,Rd C (θ ⟨g,0,ι⟩) cs->Rd C (kB (θ ⟨g,0,ι⟩) cap i.toNat 2) ((l.drop i.toNat).flatMap cV):=λC h=>by rw[Cg aA0,<-VI pP l i.toNat B cs D];have:=(h.drop (i.toNat*2)).take ((γ l-i.toNat)*2);rw[AM,Nat.zero_add]at this;exact this
    refine jR ?_;refine cdr 8 H (nR (nR Ca)) ?_;intro C n;refine rp 5 [0,1,2] ?_;refine rt 3 (π .i64 (i+1)) Τ Τ (dA Τ aF2) ?_;refine rt 4 (ξ (kB (θ ⟨g,0,ι⟩) cap (i+1).toNat 2) ((γ l+1)-(i+1).toNat) (cap-(i+1).toNat)) Τ Τ (dA Τ (by intro w m;exact zq (θ ⟨g,0,ι⟩) (γ l+1) cap 47 2 .i64 (i+1) underlying22 aD aD aD ⟨aA0,aA0⟩)) ?_;refine rp 1 [5,6] ?_;refine rt 7 (ξ (kB (θ ⟨g,0,ι⟩) cap i.toNat 2) ((γ l+1)-i.toNat) (cap-i.toNat)) Τ Τ (dA Τ (by intro w m;exact zq (θ ⟨g,0,ι⟩) (γ l+1) cap 47 2 .i64 i underlying22 aD aD aD ⟨d,aA0⟩)) ?_;refine By aD ?_;refine If n 0 g ((i.toNat+1)*2) ((γ l+1)-(i+1).toNat) (cap-(i+1).toNat) (kB (θ ⟨g,0,ι⟩) cap (i+1).toNat 2) (kB (θ ⟨g,0,ι⟩) cap i.toNat 2) ((γ l+1)-i.toNat) (cap-i.toNat) 47 2 cs ((l.drop i.toNat).flatMap cV) Τ underlying22 aD aD (by rw[show(i+1).toNat=i.toNat+1 by omega];exact Cg aA0) aD (P _ (n.gP 0 Τ)) (by rw[pP.flat,lE,show Ν (γ l+1-i.toNat) (γ l+1-(i+1).toNat)=γ l-i.toNat from(Nat.min_eq_right aA0).trans aA0]) A (pP.cells _) ?_;intro Z r;refine nO ?_;refine kY ?_;refine jR ?_;refine pM ?_;refine kE (ξ (θ ⟨g,0,ι⟩) (γ l+1) cap) aD ?_;refine kE (π .i64 i) aD ?_;refine dY Τ Τ (zq (θ ⟨g,0,ι⟩) (γ l+1) cap 47 2 .i64 i underlying22 aD aD aD ⟨d,aA0⟩) ?_;refine kE (ξ (θ ⟨b,0,ι⟩) 1 1) aD ?_;refine If r 0 g (i.toNat*2) (γ l+1-i.toNat) (cap-i.toNat) (kB (θ ⟨g,0,ι⟩) cap i.toNat 2) (θ ⟨b,0,ι⟩) 1 1 47 2 _ (cV x) Τ underlying22 aD aD (Cg aA0) aD (r.gP 1 Τ) (by rw[pP.len,show Ν 1 (γ l+1-i.toNat)=1 from QV aA0,kj]) z (pP.one x) ?_;intro w5 Q;refine nO ?_;refine kY ?_;refine jR ?_;refine pM ?_;refine kE (ξ (θ ⟨g,0,ι⟩) (γ l+1) cap) aD ?_;refine Vm (ξ (θ ⟨g,0,ι⟩) (γ l+1) cap) aD ?_;refine nO ?_;refine kY ?_;refine nM ?_;refine vN ?_;refine Ja (ξ (θ ⟨g,0,ι⟩) (γ l+1) cap) Τ aD ?_;have T:=Q.Ix (f:=cV) 0 2 cap (nE l i x) Τ (by rw[y];exact q) (by rw[nD];omega) L (by rw[nD];exact cw pP l x i.toNat B cs j D);exact⟨θ g,(θ ⟨g,0,ι⟩),cap,Je (nD l i x).symm,T⟩
open Go.Value renaming slice → Vs, int → Vi, bool → Vb, pointer → Vp
open Go.Lib renaming cut → jF, hasPrefix → Jg, index → fO, indexAny → Bu, itoa → iS, join → dP, trimLeftS → Ff, trimPrefix → jT
open List renaming flatMap → jN
theorem oD(s:δ ζ)(c:ζ)(w:φ):CR prog 82 [str s,bt c] w λv w'=>v=.int .i64 (dN (·==c) s)/\Hp w [] [] w':=by have h:=Tryz.strings_IndexByte ⟨s.toArray⟩ c.toNat w;rw[show((c.toNat:Int).toNat.toUInt8)=c by simp]at h;rw[<-vV];exact vh h
theorem mP(s:δ ζ)(c:ζ)(w:φ)(a:γ s<=1000000000):CR prog 79 [str s,bt c] w λv w'=>v=.int .i64 (fP (·==c) s)/\Hp w [] [] w':=by have h:=Tryz.strings_LastIndexByte ⟨s.toArray⟩ (c.toNat:Int) aC4 w;rw[xB]at h;exact vh h
theorem BL(s t:δ ζ)(w:φ)(c:γ s<=1000000000)(b:Gl w):CR prog 215 [str s,str t] w λv w'=>v=.bool (Lib.contains s t)/\Hp w [] [] w':=by obtain⟨m,a⟩:=b.cell;exact vh (Tryz.strings_Contains _ _ m w aC4 a)
theorem U5(s t:δ ζ)(w:φ)(c:γ s<=1000000000)(b:Gl w):CR prog 292 [str s,str t] w λv w'=>v=.int .i64 (fO s t)/\Hp w [] [] w':=by obtain⟨m,a⟩:=b.cell;exact vh (Tryz.strings_Index _ _ m w aC4 a)
theorem sh_Cut(s t:δ ζ)(w:φ)(c:γ s<=1000000000)(b:Gl w):CR prog 231 [str s,str t] w λv w'=>v=.tuple #[str (jF s t).1,str (jF s t).2.1,.bool (jF s t).2.2]/\Hp w [] [] w':=by obtain⟨m,a⟩:=b.cell;exact uu (Tryz.strings_Cut _ _ m w aC4 a)
theorem Wy(s t:δ ζ)(w:φ):CR prog 335 [str s,str t] w λv w'=>v=.tuple #[str (jT s t),.bool (Jg s t)]/\Hp w [] [] w':=by exact vh (Tryz.strings_CutPrefix _ _ w)
theorem Qj(s t:δ ζ)(w:φ):CR prog 163 [str s,str t] w λv w'=>v=str (jT s t)/\Hp w [] [] w':=by exact vh (Tryz.strings_TrimPrefix _ _ w)
theorem oo(s t:δ ζ)(w:φ)(c:γ s<=1000000000)(a:γ t<=1000/\t.all (λb=>decide (b.toNat<128))=μ):CR prog 198 [str s,str t] w λv w'=>v=str (Lib.trimS s t)/\Hp w [] [] w':=by exact sO (Any.strings_Trim_laid Tryz.ry aD _ _ w aD4 aD6 (ascii_of_all a.2))
theorem BK(s t:δ ζ)(w:φ)(c:γ s<=1000000000)(a:γ t<=1000/\t.all (λb=>decide (b.toNat<128))=μ):CR prog 305 [str s,str t] w λv w'=>v=str (Ff s t)/\Hp w [] [] w':=by exact sO (Any.strings_TrimLeft_laid Tryz.ru aD _ _ w aD6 (ascii_of_all a.2))
theorem Ww(s t:δ ζ)(w:φ)(c:γ s<=1000000000)(a:γ t<=1000/\t.all (λb=>decide (b.toNat<128))=μ):CR prog 345 [str s,str t] w λv w'=>v=str (Lib.trimRightS s t)/\Hp w [] [] w':=by exact sO (Any.strings_TrimRight_laid Tryz.rr aD _ _ w aD4 aD6 (ascii_of_all a.2))
theorem NC(i:Int)(w:φ)(a:bK i)(g:Gl w):CR prog 35 [.int .i64 i] w λv w'=>v=str (iS i)/\Hp w [] [] w':=by
 obtain⟨t,f,e⟩:=g.pow10;have d : Lib.TabIs prog w "internal/strconv.uint64pow10" .u64 Lib.pow10Tab := by unfold Lib.TabIs World.var?;rw[show Tryz.prog.globalNamed "internal/strconv.uint64pow10" = θ 5 by kernel_rfl];simp[e]
 exact Calls.mono (Tryz.strconv_Itoa i a.1 a.2 w d) λ_ _ ⟨e,k,b,c⟩=>⟨_,e,Τ,c▸ti k b⟩
theorem ou(s:δ ζ)(w:φ)(m:γ s<=1000000000)(b:Gl w):CR prog 80 [str s] w λv w'=>∃N,v=.tuple #[.int .i64 (Rn s),ud (lq s) 206 N]/\Hp w [] [] w':=by
 obtain⟨l,k,t1,f1,e⟩:=b.errS;obtain⟨j,i,t2,f2,d⟩:=b.errR;have g:w.cell? ⟨2,0,ι⟩=θ (.iface l k):=by simp[World.cell?,e]
 have f:w.cell? ⟨3,0,ι⟩=θ (.iface j i):=by simp[World.cell?,d]
 unfold Rn lq;rcases h:Lib.atoiAll s with v|_|_
 ·refine Calls.mono (Tryz.strconv_Atoi_ok ⟨s.toArray⟩ aD4 v h w) ?_;rintro _ w' ⟨rfl,c⟩;refine⟨_,Τ,0,Τ,?_⟩;rcases c with rfl|⟨t,rfl⟩
  ·exact Hp.refl _
  ·exact Hp.lI (Lib.bytesWorld_below _ _ _)
 ·refine Calls.mono (Tryz.strconv_Atoi_syntax ⟨s.toArray⟩ aD4 h _ w g (.inr ⟨_,_,Τ⟩)) ?_;rintro _ w' ⟨M,rfl,_,_,a⟩;exact⟨_,Τ,M,Τ,Hp.lI a⟩
 ·refine Calls.mono (Tryz.strconv_Atoi_range ⟨s.toArray⟩ aD4 h _ w f (.inr ⟨_,_,Τ⟩)) ?_;rintro _ w' ⟨M,rfl,_,_,a⟩;exact⟨_,Τ,M,Τ,Hp.lI a⟩
theorem U4(s:δ ζ)(c:ζ)(w:φ)(g:γ s<=1000000000)(f:Gl w):CR prog 234 [str s,str [c]] w λv w'=>∃o a cap,v=.slice a (γ (cG c s)) cap/\Hp w [] [bN eS 9 1 o a cap (cG c s)] w':=by
 obtain⟨m,d⟩:=f.cell;have h:=Tryz.strings_Split ⟨s.toArray⟩ ⟨#[c]⟩ m w aC4 d (by show 1<=1;omega);rw[RV,Qi]at h;refine Calls.mono h ?_;rintro _ _ ⟨rfl,rfl⟩;have:=(vk c s).1
 have e:(cG c s).flatMap eS=(cG c s).map str:=by
  generalize cG c s=l;induction l with
  |nil=>rfl
  |cons x l b=>rw[wL,b];rfl
 exact⟨_,Τ,θ w.heap.size,_,_,Τ,((Hp.refl w).alloc ((cG c s).map str) 9).Ol 0 1 (γ (cG c s)) (cG c s) Τ Zl e Τ (by simp[maxLen];omega)⟩
theorem flatS(l:δ (δ ζ)):l.flatMap eS=l.map str:=by
 induction l with
 |nil=>rfl
 |cons x l a=>rw[wL,a];rfl
theorem oq(t:δ ζ)(w:φ)(a:ε Ζ)(n cap:Nat)(d:δ (δ ζ))(q:n=γ d)(c:Rd w a (d.flatMap eS))(g:n<=cap)(u:γ d<=1000000000/\γ (dP d t)<=100000000000):CR prog 233 [.slice a n cap,str t] w λv w'=>v=str (dP d t)/\Hp w [] [] w':=by
 subst q;rw[flatS]at c;cases d with
 |nil=>exact vh (Tryz.strings_Join_none a cap ⟨t.toArray⟩ w)
 |cons x r=>
  obtain⟨p,rfl,i⟩:=c 0 (str x) aA2;have b:=Bd i;rw[bgp]at b;have f:p.spot=ι:=by have:=qc i;simpa [Addr.add] using this
  obtain⟨k,o,s⟩:=p;simp only at f b;subst f;have e:((x::r).map λl=>(⟨l.toArray⟩:ByteArray)).map (·.data.toList)=x::r:=by rw[tP];exact List.map_id _
  have h:=Tryz.strings_Join k o cap ((x::r).map λl=>(⟨l.toArray⟩:ByteArray)) ⟨t.toArray⟩ w (λj y m=>by have:=V4 ⟨k,o,ι⟩ (x::r) c j y m;cases j<;>simpa [Addr.add] using this) b (by rw[Gj];omega) (by rw[Gj];exact g) (by rw[e];show(dP (x::r) t).length<=_;omega);rw[e,Gj]at h;exact sO h
theorem Fl(s t:δ ζ)(w:φ)(h:γ s<=1000000000/\γ t<=1000/\t.all (λb=>decide (b.toNat<128))=μ/\(8<γ s\/γ t<=1\/s.all (λb=>decide (b.toNat<128))=μ)):CR prog 141 [str s,str t] w λv w'=>v=.int .i64 (Bu s t)/\Hp w [] [] w':=by
 obtain⟨j,i,c,a⟩:=h;by_cases g:γ t=0
 ·exact vh (Tryz.strings_IndexAny_none _ _ w g)
 by_cases d:γ t=1
 ·exact vh (Tryz.strings_IndexAny_one _ _ w d (ascii_of_all c))
 rcases a with a|a|a
 ·have e:∀w,(zeroValue 187).run prog w=.ok (.agg (Array.replicate 256 (.bool ν))) w:=(zero_of_info (n:=256) aD).1;have h:=Tryz.strings_IndexAny_long e ⟨s.toArray⟩ ⟨t.toArray⟩ w (by show 2<=γ t;omega) (by show 8<γ s;omega) aC4 aD6 (ascii_of_all c);refine Calls.mono h ?_;rintro _ _ ⟨rfl,rfl⟩;exact⟨_,Τ,Τ,Hp.lI ⟨Τ,Τ,Τ,by simp;omega,λk f=>by rw[RowKit.Below.heap_alloc _ _ k aA3,RowKit.Below.heap_alloc _ _ k f]⟩⟩
 ·omega
 ·exact sO (Tryz.strings_IndexAny_laid _ _ w aC4 aD6 (ascii_of_all a) (ascii_of_all c))
theorem IN(l:δ (aC×aC))(w:φ)(a:ε Ζ)(n cap:Nat)(q:n=γ l)(e:Rd w a (l.flatMap cV))(s:(0+γ l)*32<=140737488355328):CR prog 96 [.slice a n cap] w λv w'=>∃o a' cap',v=.slice a' (γ l) cap'/\Hp w [] [bN cV 47 2 o a' cap' l] w':=by
 subst q;have f:=Hp.refl w;refine enter func96 Τ Τ (Rx Τ) ?_;refine jR ?_;refine pM ?_;refine Vm (Vs ι 0 0) aD ?_;refine nO ?_;refine kY ?_;refine jR ?_;refine jR ?_;refine pM ?_;refine kE (Vs a (γ l) cap) aD ?_;refine Wc a (γ l) cap 47 underlying22 aD aD ?_;refine nO ?_;refine kY ?_;refine lZ (b:=a.isNone) aD (λh=> ?_) (λh=> ?_)
 ·have t:a=ι:=by cases a with|none=>rfl|some p=>cases h
  subst t;have r:l=[]:=by
   cases l with
   |nil=>rfl
   |cons x l=>
    have g:=kZ.flat pP (x::l);have y:γ (jN cV (x::l))=0:=by
     cases k:jN cV _ with
     |nil=>rfl
     |cons u C=>obtain⟨p,m,_⟩:=e 0 u (by rw[k];rfl);cases m
    rw[y]at g;simp at g
  subst r;refine jR ?_;refine pM ?_;refine Vm (Vs ι 0 0) aD ?_;refine nO ?_;refine kY ?_;refine nM ?_;refine vN ?_;refine Ja (Vs ι 0 0) Τ aD ?_;exact⟨ι,ι,0,Τ,Hp.lK f cV 47 2 ι⟩
 ·refine lY ?_;refine kY ?_;refine jR ?_;refine pM ?_;refine eX f [] 47 (λb=>Vs (θ ⟨b,0,ι⟩) 0 0) Τ Τ aD ?_;intro D B i;refine kE (Vs a (γ l) cap) aD ?_;refine GF (i.Ol 0 2 0 [] Τ pP Τ Τ aA1) 0 _ _ a 0 cap 47 2 32 _ l pP Τ underlying22 aB0 aA1 aA1 aD aD (e.hp i) s ?_;intro j d c A z;refine Vm (Vs d (γ l) c) aD ?_;refine nO ?_;refine kY ?_;refine nM ?_;refine Ja (Vs d (γ l) c) Τ aD ?_;exact⟨j,d,c,Τ,z⟩
theorem IM(l:δ ζ)(w:φ)(a:ε Ζ)(n cap:Nat)(q:n=γ l)(e:Rd w a (l.flatMap eB))(s:(0+γ l)*1<=140737488355328):CR prog 97 [.slice a n cap] w λv w'=>∃o a' cap',v=.slice a' (γ l) cap'/\Hp w [] [bN eB 5 1 o a' cap' l] w':=by
 subst q;have f:=Hp.refl w;refine enter func97 Τ Τ (Rx Τ) ?_;refine jR ?_;refine pM ?_;refine Vm (Vs ι 0 0) aD ?_;refine nO ?_;refine kY ?_;refine jR ?_;refine jR ?_;refine pM ?_;refine kE (Vs a (γ l) cap) aD ?_;refine Wc a (γ l) cap 5 underlying23 aD aD ?_;refine nO ?_;refine kY ?_;refine lZ (b:=a.isNone) aD (λh=> ?_) (λh=> ?_)
 ·have t:a=ι:=by cases a with|none=>rfl|some p=>cases h
  subst t;have r:l=[]:=by
   cases l with
   |nil=>rfl
   |cons x l=>
    have g:=kZ.flat Bw (x::l);have y:γ (jN eB (x::l))=0:=by
     cases k:jN eB _ with
     |nil=>rfl
     |cons u C=>obtain⟨p,m,_⟩:=e 0 u (by rw[k];rfl);cases m
    rw[y]at g;simp at g
  subst r;refine jR ?_;refine pM ?_;refine Vm (Vs ι 0 0) aD ?_;refine nO ?_;refine kY ?_;refine nM ?_;refine vN ?_;refine Ja (Vs ι 0 0) Τ aD ?_;exact⟨ι,ι,0,Τ,Hp.lK f eB 5 1 ι⟩
 ·refine lY ?_;refine kY ?_;refine jR ?_;refine pM ?_;refine eX f [] 5 (λb=>Vs (θ ⟨b,0,ι⟩) 0 0) Τ Τ aD ?_;intro D B i;refine kE (Vs a (γ l) cap) aD ?_;refine GF (i.Ol 0 1 0 [] Τ Bw Τ Τ aA1) 0 _ _ a 0 cap 5 1 1 [] l Bw Τ underlying23 aB0 aA1 aA1 aD aD (e.hp i) s ?_;intro j d c A z;refine Vm (Vs d (γ l) c) aD ?_;refine nO ?_;refine kY ?_;refine nM ?_;refine Ja (Vs d (γ l) c) Τ aD ?_;exact⟨j,d,c,Τ,z⟩
theorem BN(l:LQ)(w:φ)(a:ε Ζ)(n cap:Nat)(q:n=γ l)(e:Rd w a (l.flatMap dZ))(s:(0+γ l)*40<=140737488355328):CR prog 165 [.slice a n cap] w λv w'=>∃o a' cap',v=.slice a' (γ l) cap'/\Hp w [] [bN dZ 108 3 o a' cap' l] w':=by
 subst q;have f:=Hp.refl w;refine enter func165 Τ Τ (Rx Τ) ?_;refine jR ?_;refine pM ?_;refine Vm (Vs ι 0 0) aD ?_;refine nO ?_;refine kY ?_;refine jR ?_;refine jR ?_;refine pM ?_;refine kE (Vs a (γ l) cap) aD ?_;refine Wc a (γ l) cap 108 underlying54 aD aD ?_;refine nO ?_;refine kY ?_;refine lZ (b:=a.isNone) aD (λh=> ?_) (λh=> ?_)
 ·have t:a=ι:=by cases a with|none=>rfl|some p=>cases h
  subst t;have r:l=[]:=by
   cases l with
   |nil=>rfl
   |cons x l=>
    have g:=kZ.flat GJ (x::l);have y:γ (jN dZ (x::l))=0:=by
     cases k:jN dZ _ with
     |nil=>rfl
     |cons u C=>obtain⟨p,m,_⟩:=e 0 u (by rw[k];rfl);cases m
    rw[y]at g;simp at g
  subst r;refine jR ?_;refine pM ?_;refine Vm (Vs ι 0 0) aD ?_;refine nO ?_;refine kY ?_;refine nM ?_;refine vN ?_;refine Ja (Vs ι 0 0) Τ aD ?_;exact⟨ι,ι,0,Τ,Hp.lK f dZ 108 3 ι⟩
 ·refine lY ?_;refine kY ?_;refine jR ?_;refine pM ?_;refine eX f [] 108 (λb=>Vs (θ ⟨b,0,ι⟩) 0 0) Τ Τ aD ?_;intro D B i;refine kE (Vs a (γ l) cap) aD ?_;refine GF (i.Ol 0 3 0 [] Τ GJ Τ Τ aA1) 0 _ _ a 0 cap 108 3 40 _ l GJ Τ underlying54 aB0 aA1 aA1 aD aD (e.hp i) s ?_;intro j d c A z;refine Vm (Vs d (γ l) c) aD ?_;refine nO ?_;refine kY ?_;refine nM ?_;refine Ja (Vs d (γ l) c) Τ aD ?_;exact⟨j,d,c,Τ,z⟩
theorem BM(l:δ ζ)(w:φ)(a:ε Ζ)(n cap:Nat)(q:n=γ l)(e:Rd w a (l.flatMap eB))(s:(0+γ l)*1<=140737488355328):CR prog 180 [.slice a n cap] w λv w'=>∃o a' cap',v=.slice a' (γ l) cap'/\Hp w [] [bN eB 5 1 o a' cap' l] w':=by
 subst q;have f:=Hp.refl w;refine enter func180 Τ Τ (Rx Τ) ?_;refine jR ?_;refine pM ?_;refine Vm (Vs ι 0 0) aD ?_;refine nO ?_;refine kY ?_;refine jR ?_;refine jR ?_;refine pM ?_;refine kE (Vs a (γ l) cap) aD ?_;refine Wc a (γ l) cap 5 underlying23 aD aD ?_;refine nO ?_;refine kY ?_;refine lZ (b:=a.isNone) aD (λh=> ?_) (λh=> ?_)
 ·have t:a=ι:=by cases a with|none=>rfl|some p=>cases h
  subst t;have r:l=[]:=by
   cases l with
   |nil=>rfl
   |cons x l=>
    have g:=kZ.flat Bw (x::l);have y:γ (jN eB (x::l))=0:=by
     cases k:jN eB _ with
     |nil=>rfl
     |cons u C=>obtain⟨p,m,_⟩:=e 0 u (by rw[k];rfl);cases m
    rw[y]at g;simp at g
  subst r;refine jR ?_;refine pM ?_;refine Vm (Vs ι 0 0) aD ?_;refine nO ?_;refine kY ?_;refine nM ?_;refine vN ?_;refine Ja (Vs ι 0 0) Τ aD ?_;exact⟨ι,ι,0,Τ,Hp.lK f eB 5 1 ι⟩
 ·refine lY ?_;refine kY ?_;refine jR ?_;refine pM ?_;refine eX f [] 5 (λb=>Vs (θ ⟨b,0,ι⟩) 0 0) Τ Τ aD ?_;intro D B i;refine kE (Vs a (γ l) cap) aD ?_;refine GF (i.Ol 0 1 0 [] Τ Bw Τ Τ aA1) 0 _ _ a 0 cap 5 1 1 _ l Bw Τ underlying23 aB0 aA1 aA1 aD aD (e.hp i) s ?_;intro j d c A z;refine Vm (Vs d (γ l) c) aD ?_;refine nO ?_;refine kY ?_;refine nM ?_;refine Ja (Vs d (γ l) c) Τ aD ?_;exact⟨j,d,c,Τ,z⟩
theorem Wv(b:Nat)(z:η)(s:ς)(w:φ)(d:Hp w (eR [aX b [Vp (bif z then θ ⟨b,0,ι⟩else ι),s] 72]) [aX b [Vp (bif z then θ ⟨b,0,ι⟩else ι),s] 72] w):CR prog 128 [Vp (θ ⟨b,0,ι⟩)] w λv w'=>v=.tuple #[]/\Hp w (eR [aX b [Vp (bif z then θ ⟨b,0,ι⟩else ι),s] 72]) [aX b [Vp (θ ⟨b,0,ι⟩),s] 72] w':=by
 cases z with
 |false=>have a:=d;refine enter func128 Τ Τ (Rx Τ) ?_;refine jR ?_;refine pM ?_;refine kE (Vp (θ ⟨b,0,ι⟩)) aD ?_;refine dY (v:=(Vp (θ ⟨b,0,ι⟩))) (w':=w) Τ Τ aD ?_;refine dY (v:=(Vp (θ ⟨b,0,ι⟩))) (w':=w) Τ Τ aD ?_;refine sX a 0 b 0 _ 72 _ Τ Τ aD aD ?_;refine ZF ι underlying70 aD aD ?_;refine nO ?_;refine kY ?_;refine sU aD ?_;refine pM ?_;refine kE (Vp (θ ⟨b,0,ι⟩)) aD ?_;refine kE (Vp (θ ⟨b,0,ι⟩)) aD ?_;refine mr a 0 b 0 72 _ Τ underlying70 underlying173 aD aA2 aD ?_;refine mx a 199 (Vp (θ ⟨b,0,ι⟩)) aD aD func199 aD aD aD aD ?_;intro c e;refine mw e 0 b 0 72 _ Τ underlying173 underlying70 aD aD aD ?_;refine dY (v:=(Vp (θ ⟨b,0,ι⟩))) (w':=c) Τ Τ aD ?_;refine dY (v:=(Vp (θ ⟨b,0,ι⟩))) (w':=c) Τ Τ aD ?_;refine Py e 0 b 0 _ 72 (Vp (θ _)) [aX b [Vp (θ ⟨b,0,ι⟩),s] 72] Τ (WY (Rw _) (Rx Τ)) aD aD Τ aD Τ ?_;intro g f;refine nO ?_;refine zM Τ ?_;exact⟨Τ,f.kp⟩
 |true=>have a:=d;refine enter func128 Τ Τ (Rx Τ) ?_;refine jR ?_;refine pM ?_;refine kE (Vp (θ ⟨b,0,ι⟩)) aD ?_;refine dY (v:=(Vp (θ ⟨b,0,ι⟩))) (w':=w) Τ Τ aD ?_;refine dY (v:=(Vp (θ ⟨b,0,ι⟩))) (w':=w) Τ Τ aD ?_;refine sX a 0 b 0 _ 72 _ Τ Τ aD aD ?_;refine ZF (θ ⟨b,0,ι⟩) underlying70 aD aD ?_;refine nO ?_;refine kY ?_;refine XG aD ?_;refine jR ?_;refine pM ?_;refine kE (Vp (θ ⟨b,0,ι⟩)) aD ?_;refine dY (v:=(Vp (θ ⟨b,0,ι⟩))) (w':=w) Τ Τ aD ?_;refine dY (v:=(Vp (θ ⟨b,0,ι⟩))) (w':=w) Τ Τ aD ?_;refine sX a 0 b 0 _ 72 _ Τ Τ aD aD ?_;refine kE (Vp (θ ⟨b,0,ι⟩)) aD ?_;refine mu ⟨b,0,ι⟩ underlying70 aD aD aD ?_;refine nO ?_;refine kY ?_;refine XG aD ?_;refine lY ?_;refine zM Τ ?_;exact⟨Τ,a.kp⟩
open Go.Shelf Go.RowKit Go.Wk
variable{P:Θ}{ρ:Ren}
set_option maxHeartbeats 1000000 in
set_option maxRecDepth 100000 in
theorem vc(L:Lays.n169 P ρ)(X:Builder.Extra P ρ)(b g cap:Nat)(p:ς)(a:Array ς)(l:δ ζ)(w:φ)(k:w.heap[b]? =θ (.cells #[p,.slice (θ ⟨g,0,ι⟩) (γ l) cap] (ρ.t 72) (0,0)))
  (G:w.heap[g]? =θ (.cells a (ρ.t 5) (0,0))) (E:γ l<=cap) (i:cap<=maxLen) (H:a.size=cap) (c:∀j x,l[j]? =θ x->w.cell? ((⟨g,0,ι⟩:Ζ).add j)=θ (.int .u8 x.toNat)) (q:l≠[]):
  Calls P (ρ.f 169) #[.pointer (θ ⟨b,0,ι⟩)] w λe w'=>e=.returned (.string ⟨l.toArray⟩)/\w'=w.drew.freeze ⟨g,0,ι⟩ (γ l):=by
 have F:γ l≠0:=by simpa using q
 have Z:w.drew.cell? ⟨b,1,ι⟩=θ (.slice (θ ⟨g,0,ι⟩) (γ l) cap):=by have:w.drew.heap[b]? =θ (.cells #[p,.slice (θ ⟨g,0,ι⟩) (γ l) cap] (ρ.t 72) (0,0)):=k;rw[Lib.cell_of_heap this];rfl
 have J:(Builtin.unsafeSliceData_ #[ρ.t 37] (ρ.t 127) #[.slice (θ ⟨g,0,ι⟩) (γ l) cap]).run P w.drew=.ok (.pointer (θ ⟨g,0,ι⟩)) w.drew:=
  Lib.run_unsafeSliceData_row _ _ _ _ _ _ aA0
 have I:(Builtin.unsafeString_ #[ρ.t 127,ρ.t 3] (ρ.t 9) #[.pointer (θ ⟨g,0,ι⟩),.int .i64 (γ l)]).run P w.drew=.ok (.string ⟨l.toArray⟩) (w.drew.freeze ⟨g,0,ι⟩ (γ l)):=by refine Lib.run_unsafeString_row w.drew (ρ.t 127) (ρ.t 3) (ρ.t 9) (ρ.t 5) L.t127 X.cellsByte g a.size (by have h:w.drew.heap[g]? =θ (.cells a (ρ.t 5) (0,0)):=G;simp[World.shape?,h]) l q aA0 (by unfold maxLen at i;omega) ?_;intro j x hx;exact c j x hx
 have d:=L.mixed;have t72:=L.t72;have K:=L.a72;have s:=L.z72;have y:=L.v72;have B:=run_underlying L.t72;have t70:=L.t70;have M:=L.a70;have u:=L.z70;have z:=L.v70;have C:=run_underlying L.t70;have t37:=L.t37;have N:=L.a37;have v:=L.z37;have A:=L.v37;have D:=run_underlying L.t37;have t127:=L.t127;have r:=L.a127;have m:=L.z127;have n:=L.v127;have o:=run_underlying L.t127;have t3:=L.t3;have a3:=L.a3;have R:=L.z3;have U:=L.v3;have Y:=run_underlying L.t3;have t9:=L.t9;have a9:=L.a9;have O:=L.z9;have S:=L.v9;have V:=run_underlying L.t9;have t5:=X.t5;have a5:=X.a5;have Q:=X.z5;have T:=X.v5;have W:=run_underlying X.t5
 go_enter L.f169,Body.n169_ntmps ρ
 go_wp2
 go_region_o
 all_goals (go_wp2;go_ret;exact⟨Τ,Τ⟩)
theorem bs_any(z:Lays.n169 P ρ)(X:Builder.Extra P ρ){w:φ}{S:δ Nat}{L:δ cL}(F:Hp w S L w)(b:Nat)(p:ς)(o:ε Nat)(a:ε Ζ)(cap:Nat)(l:aC)(m:Nat)(i:w.heap[b]? =θ (.cells #[p,.slice a (γ l) cap] (ρ.t 72) (0,0)))(B:L[m]? =θ (bN eB (ρ.t 5) 1 o a cap l)):
  CR P (ρ.f 169) [υ (θ ⟨b,0,ι⟩)] w λv w'=>v=str l/\Hp w S (L.set m Go.Oe.dJ) w':=by
 have d:∀w',Below w.heap.size w w'->Hp w S (L.set m Go.Oe.dJ) w':=by intro w' J;have G:=F.call (Hp.lI J);exact G.change m _ Go.Oe.dJ B Τ Τ Τ (dC _) (λ_ _ _=>rfl) trivial (λ_ i=>by cases i)
 obtain⟨G,N⟩:=F.res _ (aL B);rcases G with⟨rfl,rfl,rfl,rfl⟩|⟨g,h,C,rfl,q,E,D,I,A⟩
 ·refine Calls.mono (Any.Builder_String_nil z X w.heap.size b p w i) ?_;rintro _ w' ⟨rfl,n⟩;exact⟨_,Τ,Τ,d w' n⟩
 ·have C:o=θ g:=C;subst C;have c:w.heap[g]? =θ (.cells h (ρ.t 5) (0,0)):=q;clear q;cases l with
  |nil=>
   by_cases s:cap=0
   ·subst s;refine Calls.mono (Any.Builder_String_noroom z X w.heap.size b g p h w (dC _) i c) ?_;rintro _ w' ⟨rfl,n⟩;exact⟨_,Τ,Τ,d w' n⟩
   ·refine Calls.mono (Any.Builder_String_room z X w.heap.size b g cap p w s i) ?_;rintro _ w' ⟨rfl,n⟩;exact⟨_,Τ,Τ,d w' n⟩
  |cons x r=>
   refine Calls.mono (vc z X b g cap p h (x::r) w i c E D aA0 (λj y H=> ?_) aA2) ?_
   ·have u:(h.toList.take (γ (x::r)*1))[j]? =θ (bt y):=by rw[A,Ay,aW,H];rfl
    rw[bO]at u;split at u
    ·have K:h[j]? =θ (bt y):=by simpa using u
     cases j<;>simp[World.cell?,Addr.add,c,K,bt]
    ·cases u
   ·rintro _ w' ⟨rfl,rfl⟩;refine⟨_,Τ,Τ,?_⟩;refine F.PS.change m _ Go.Oe.dJ B ?_ ?_ ?_ ?_ (λj M k=> ?_) trivial (λ_ i=>by cases i);all_goals (try(unfold World.freeze;rw[aA aA2];rfl))
    ·unfold World.freeze;rw[aA aA2];simp
    ·unfold World.freeze;rw[aA aA2];simp only[Array.getElem?_modify];have k:g≠j:=λe=>k (by show θ j=θ g;rw[e]);rw[aA k];rfl
open Go.Oe in
theorem ej (O : Lays.n169 P ρ) (X : Builder.Extra P ρ){Q : Br}{H : Nat} (g : Unit × aC -> δ PD) : Qd P Q (ρ.f 169) ⟨[.p' (ρ.t 72) (.pr .z' (.l' (ρ.t 5) H .c'))],[.r' .s'],λx => .gs (g x) x.2⟩ := by
  intro w S i L C x y V s d p J;obtain ⟨_,rfl⟩ := J;have d : Mt w S i [.bl (ρ.t 72) [.z' 0 1,.l' 2],.dd 0,.rw (ρ.t 5) H .c' x.2] L := d;have p : [θ (iM (i 0).b 0)] = C.map θ := p;obtain rfl : C = [iM (i 0).b 0] := by
    match C,p with
    | [u],h => simp at h; rw[h]
  obtain ⟨_,U,F,B,rfl,j⟩ := d.2 0 _ Τ;obtain ⟨_,T,M,_⟩ := d.2 1 _ Τ;obtain ⟨l,I,E,q⟩ := d.2 2 _ Τ;have q : I = bN (Ty.c').enc (ρ.t 5) (Ty.c').sz (i 2).o (i 2).a (i 2).cap x.2 := q;subst q;have l : γ x.2 = (i 2).ln := l;have G := s.bP 0 F;have D : B = [.pointer (bif (i 1).z then θ ⟨(i 0).b,0,ι⟩ else ι),.slice (i 2).a (γ x.2) (i 2).cap] := by
    have n := j.2 0 _ Τ Τ;have m := j.2 1 _ Τ Τ;have A : γ B = 2 := j.1;rw[l]
    match B,A,n,m with
    | [a,c],_,n,m =>have n : a = _ := aP n;have m : c = _ := aP m;rw[n,m]; rfl
  rw[D] at G;refine Calls.mono (bs_any O X s (i 0).b _ (i 2).o (i 2).a (i 2).cap x.2 2 G E) ?_;rintro e R ⟨v,N,rfl,K⟩;refine ⟨_,N,i,_,λ_ _ => rfl,K,?_,Τ⟩;show Mt w S i [.bl (ρ.t 72) [.z' 0 1,.l' 2],.dd 0,.dd (γ x.2)] (L.set 2 dJ);refine ⟨by rw[bD]; exact d.1,λid o k => ?_⟩
  match id,k with
  | 0,k =>obtain ⟨n,r,m,A⟩ := d.2 0 o k;exact ⟨n,r,by rw[gF aA1]; exact m,A⟩
  | 1,k =>obtain ⟨n,r,m,A⟩ := d.2 1 o k;exact ⟨n,r,by rw[gF aA1]; exact m,A⟩
  | 2,k =>cases k;exact ⟨l,dJ,by rw[bE (by rw[d.1]; exact Rw 2)],trivial⟩
  | id + 3,k => simp at k
open Go.Oe in
theorem ub {W : Br}{k T e D : Nat} (h : ∀ (b : Nat) (z : η) (s : ς) (w : φ),Hp w (eR [aX b [υ (bif z then θ ⟨b,0,ι⟩ else ι),s] T]) [aX b [υ (bif z then θ ⟨b,0,ι⟩ else ι),s] T] w ->
    CR P k [υ (θ ⟨b,0,ι⟩)] w λv w' => v = .tuple #[] /\ Hp w (eR [aX b [υ (bif z then θ ⟨b,0,ι⟩ else ι),s] T]) [aX b [υ (θ ⟨b,0,ι⟩),s] T] w') :
    Qd P W k ⟨[.p' T (.pr .z' (.l' e D .c'))],[.o' 0 T (.pr .z' (.l' e D .c'))],λx => .gs [] x⟩ := by
  intro w S d L F x y hG C f m Q;obtain ⟨_,rfl⟩ := Q;have f : Mt w S d [.bl T [.z' 0 1,.l' 2],.dd 0,.rw e D .c' x.2] L := f;have m : [θ (iM (d 0).b 0)] = F.map θ := m;obtain rfl : F = [iM (d 0).b 0] := by
    match F,m with
    | [u],h => simp at h; rw[h]
  obtain ⟨_,Y,A,E,rfl,l⟩ := f.2 0 _ Τ;obtain ⟨B,O,K,p⟩ := f.2 2 _ Τ;have p : O = bN (Ty.c').enc e (Ty.c').sz (d 2).o (d 2).a (d 2).cap x.2 := p;subst p;have J : E = [.pointer (bif (d 1).z then θ ⟨(d 0).b,0,ι⟩ else ι),.slice (d 2).a (d 2).ln (d 2).cap] := by
    have r := l.2 0 _ Τ Τ;have q := l.2 1 _ Τ Τ;have N : γ E = 2 := l.1
    match E,N,r,q with
    | [a,c],_,r,q =>have r : a = _ := aP r;have q : c = _ := aP q;rw[r,q]; rfl
  rw[J] at A;obtain ⟨t,L',rfl⟩ : ∃ t,L = [aX (d 0).b [.pointer (bif (d 1).z then θ ⟨(d 0).b,0,ι⟩ else ι),.slice (d 2).a (d 2).ln (d 2).cap] T,t,bN (Ty.c').enc e (Ty.c').sz (d 2).o (d 2).a (d 2).cap x.2] := by
    have N : γ L = 3 := f.1
    match L,N,A,K with
    | [a,b,c],_,r,q =>cases r; cases q;exact ⟨b,Τ⟩
  have U := Hp.hand (L1 := [aX (d 0).b [.pointer (bif (d 1).z then θ ⟨(d 0).b,0,ι⟩ else ι),.slice (d 2).a (d 2).ln (d 2).cap] T]) (L2 := [t,bN (Ty.c').enc e (Ty.c').sz (d 2).o (d 2).a (d 2).cap x.2]) C;refine Calls.mono (h (d 0).b (d 1).z (.slice (d 2).a (d 2).ln (d 2).cap) w U) ?_;rintro e2 X ⟨v,V,rfl,R⟩;have I := Hp.cM (L1 := [aX (d 0).b [.pointer (bif (d 1).z then θ ⟨(d 0).b,0,ι⟩ else ι),.slice (d 2).a (d 2).ln (d 2).cap] T]) (L2 := [t,bN (Ty.c').enc e (Ty.c').sz (d 2).o (d 2).a (d 2).cap x.2]) C R;let G : Nat -> Ad := λid => if id < 3 then d id else if id = 3 then ⟨ι,ι,0,μ,0⟩ else d 2;have H := (uH (uH I)).perm ((wK (l₁ := [dJ,dJ]) (l₂ := [aX (d 0).b [υ (θ ⟨(d 0).b,0,ι⟩),.slice (d 2).a (d 2).ln (d 2).cap] T,t])).append_right [bN (Ty.c').enc e (Ty.c').sz (d 2).o (d 2).a (d 2).cap x.2]);refine ⟨_,V,G,_,λi M => (by have M : i < 3 := M; simp only[G]; rw[aB M]),H,?_,Τ⟩;show Mt w S G [.bl T [.z' 0 3,.l' 4],.dd 0,.dd (γ x.2),.dd 0,.rw e D .c' x.2] [_,_,_,_,_];refine ⟨Τ,λid o g => ?_⟩
  match id,g with
  | 0,g =>
    cases g;refine ⟨(f.2 0 _ Τ).1,_,Τ,_,Τ,Τ,λj c n Z => ?_⟩
    match j,n with
    | 0,n => cases n; rfl
    | 1,n => cases n; rfl
    | j + 2,n => simp at n
  | 1,g =>cases g;exact ⟨(f.2 1 _ Τ).1,_,Τ,trivial⟩
  | 2,g =>cases g;exact ⟨B,_,Τ,trivial⟩
  | 3,g =>cases g;exact ⟨Τ,_,Τ,trivial⟩
  | 4,g =>cases g;exact ⟨B,_,Τ,Τ⟩
  | id + 5,g => simp at g
end Go.Proofs
set_option maxHeartbeats 1000000
namespace Go.Proofs
open Go.Wk Go.Px
open Go.Value renaming slice → Vs, int → Vi, bool → Vb, pointer → Vp
open Go.IntKind renaming wrap → fD
open Int renaming toNat → bR
open List renaming drop → dG, replicate → jM, take → eP
open Tryz
abbrev jS:=[str ([]:aC),str ([]:aC),Vi .i64 (0:Int),str ([]:aC),Vs ι 0 0,Vs ι 0 0]
abbrev dW v0 v1 f e v4 d v6 c b a:=[str v0,str v1,Vi .i64 f,str e,Vs v4 d v6,Vs c b a]
abbrev kb:=[str ([]:aC),str ([]:aC),π .i64 (0:Int),str ([]:aC),ξ ι 0 0,ξ ι 0 0]
abbrev Vt v0 v1 f e v4 d v6 c b a:=[str v0,str v1,π .i64 f,str e,ξ v4 d v6,ξ c b a]
abbrev XS:aC:=[48,49,50,51,52,53,54,55,56,57,97,98,99,100,101,102]
abbrev xe(v0:LQ) v1:=[str ((el v0 v1).1),str ((el v0 v1).2.1),ψ ((el v0 v1).2.2)]
abbrev Zz6:aC:=[101,67,111,110,116,101,110,116,45,69,110,99,111,100,105,110,103]
abbrev Zz7:aC:=[120,83,101,115,115,105,111,110,45,69,120,112,105,114,101,115]
abbrev Zz8:aC:=[108,67,111,110,116,101,110,116,45,76,101,110,103,116,104]
abbrev Zz9:aC:=[117,65,108,108,111,119,45,69,118,101,110,116,115]
abbrev WQ:aC:=[99,67,111,110,116,101,110,116,45,84,121,112,101]
abbrev Zz11 v0 v1 d c v4 a (v6:aC) b:=[aX v0 (cK .u32 8 v1++([π .u64 (fD .u64 (d+(fD .u64 (c:Int))))]++dM 64 (jJ 64 v4 (bR a) (eP (64-(bR a)) v6)))) 139,aX b (cK .u32 8 (jM 8 (0:Int))++([π .u64 (0:Int)]++dM 64 (jM 64 (0:ζ)))) 139]
abbrev WO:aC:=[98,82,101,102,101,114,114,101,100,45,66,121]
abbrev WN:aC:=[107,83,117,112,112,111,114,116,101,100]
abbrev Zz14 v0 v1 e d v4 c v6 b a:=[aX v0 (dM 32 (jM 32 (0:ζ))) 84,aX v1 (cK .u32 8 e++([π .u64 d]++dM 64 v4)) 139,bN eB 5 1 c v6 b a]
abbrev WM:aC:=[114,82,101,102,101,114,45,84,111]
abbrev kc v0 v1 c b v4 a:=[aX v0 [str v1] 9,aX c [str b] 9,aX v4 [π .i64 a] 3]
abbrev WL v0 v1 d c v4 b v6 a:=[aX v0 [bt v1] 30,aX d [str c] 9,bN cV 47 2 v4 b v6 a]
abbrev WK:aC:=[109,67,111,110,116,97,99,116]
abbrev WJ:aC:=[115,83,117,98,106,101,99,116]
abbrev WI:aC:=[105,67,97,108,108,45,73,68]
abbrev Zz21:aC:=[87,87,87,45,65,117,116,104,101,110,116,105,99,97,116,101]
abbrev Zu v0 v1 b a:=[aX v0 [ξ v1 b a] 54]
abbrev GK:aC:=[82,111,117,116,101]
abbrev WH:aC:=[111,69,118,101,110,116]
abbrev Zz25:=[ν,ν,ν,ν,ν,ν,ν,ν,ν,ν,ν,ν,ν,ν,ν,ν]
abbrev Zz26:aC:=[77,73,77,69,45,86,101,114,115,105,111,110]
abbrev Zz27:=[μ,μ,μ,μ,μ,μ,μ,μ,μ,μ,μ,μ,ν,ν,ν,ν]
abbrev Zz28 v0 v1 f e v4 d v6 c b a:=[str v0,str v1,π .i64 f,str e,ξ v4 (γ (jM (bR (d:Int)) (([]:aC),([]:aC)))) v6,ξ c b a]
abbrev Zz29:List Int:=[1779033703,3144134277,1013904242,2773480762,1359893119,2600822924,528734635,1541459225]
theorem AW(c:ζ):fD .i32 ((c.toNat:Nat):Int)=(c.toNat:Int):=by revert c;exact hY _ aA4
theorem zb:Wk.Enters prog 82:=⟨f82,_,func82,Τ,aD⟩
theorem fk:Wk.Enters prog 211:=⟨f211,_,func211,Τ,aD⟩
theorem ent212:Wk.Enters prog 212:=⟨f212,_,func212,Τ,aD⟩
theorem ent289:Wk.Enters prog 289:=⟨f289,_,func289,Τ,aD⟩
variable{fu:Nat}{g:Int}{w:φ}{r:η}
theorem beb(a:agr fu g=θ r)(o:Gl w):CR prog 289 [Vi .i32 g] w λv w'=>v=(Vb r)/\Hp w [] [] w':=by have e:=Hp.refl w;refine enter func289 Τ Τ iZ ?_;unfold agr at a;refine sr (wp 1 (nq (cs (ce (bi a λh c a=>nL e [0,2,3] [(3,(Vb h))] ?_ ?_)))));refine cr (wp 2 (wd c (λj c=> ?_) (λj c=> ?_)));refine wp 4 (wl (ql ?_));obtain rfl:=oi c;exact je e.kp;refine wp 4 (wl (ql ?_));obtain rfl:=oi c;exact je e.kp;intro n G d;refine cb a (λi a=> ?_) (λi a=> ?_);refine sr (wp 1 (nq (ct (uO (st ?_)))));obtain rfl:=oi a;exact rv d.kp;refine bi a λm b a=>nL d [2,10] [(10,(Vb m))] ?_ ?_;refine cr (wp 2 (wd b (λl b=> ?_) (λl b=> ?_)));refine wp 4 (wl (ql ?_));obtain rfl:=oi b;exact je d.kp;refine wp 4 (wl (ql ?_));obtain rfl:=oi b;exact je d.kp;intro p G f;refine cb a (λk a=> ?_) (λk a=> ?_);refine sr (wp 1 (nq (ct (uO (st ?_)))));obtain rfl:=oi a;exact rv f.kp;refine ck (bn (qn (sr (wp 1 (nq (ct ?_))))));obtain rfl:=oi a;exact rv f.kp
variable{a:aC}
theorem baz{r:Int}(a0:afb fu a g=θ r)(J:Gl w):CR prog 211 [str a,Vi .i32 g] w λv w'=>v=(Vi .i64 r)/\Hp w [] [] w':=by
 have q:=Hp.refl w;refine enter func211 Τ Τ iZ ?_;unfold afb at a0;refine sr (wp 1 (nq (ce (bi a0 λI m a0=>nL q [0,1,4,160] [(160,(Vb I))] ?_ ?_))));refine cr (wp 2 (wd m (λL m=> ?_) (λL m=> ?_)));refine wp 4 (wl (ql ?_));obtain rfl:=oi m;exact je q.kp;refine wp 4 (wl (ql ?_));obtain rfl:=oi m;exact je q.kp;intro H G l;refine cb a0 (λK a0=> ?_) (λK a0=> ?_);refine sr (wp 2 (HT .i32 g underlying21 underlying5 aD (kS 82 #[] [str a,bt (AH g)] _ zb aD aD (oD a _ H) ?_)));rintro _ g0 ⟨rfl,F⟩;have Z:=l.call F;clear F;refine wp 1 (nq (ct (uO ?_)));obtain rfl:=oi a0;exact rv Z.kp;refine sr (wp 3 (nq (cd a0 (λY a0=> ?_) (λY a0=> ?_))));refine bi a0 λE X a0=>gu l E [4] (λW=>[]) ?_ ?_;refine sr (wp 1 (MP l a underlying9 aD λp g1 d0=>nq (ce (AJ (σ:=Nat×Nat) [4,175] (λ⟨k,h⟩=>[]) (λ⟨k,h⟩ w'=>Hp w [] [SF p a h] w'/\ahg fu a k h=θ E) (λ⟨k,h⟩=>k) (fu,0) (by exact⟨d0.kp,X⟩) ?_))));rintro⟨_|k,h⟩ g2 G ⟨u,f⟩
 ·exact nzz f
 rw[anf,ags]at f;refine sr ?_;by_cases o:h<γ a;replace f:=UK o f;refine Wd u 0 p a h Τ aD (λ_ d1 n=> ?_) (λt=>absurd o t);replace n:Hp w [] [SF p a _] d1:=n;refine wp 1 (nq (cs (sU aD (ck (qn (ce (sr ?_)))))));refine wp 4 (nq (sr (wp 2 (nq (cd f (λd2 f=> ?_) (λd2 f=> ?_))))));refine sr (wp 2 (nq (ct (uO (Vf (uO (Vf ?_)))))));obtain rfl:=oi f;refine uO ?_;obtain rfl:=oi a0;exact rv n.kp;refine ck (bn (ql ?_));exact⟨(k,h+(Utf8.decode ⟨List.toArray a⟩ h).2),_,Τ,by kernel_rfl,⟨n.kp,f⟩,Rw _⟩;replace f:=UL o f;refine Wd u 0 p a h Τ aD (λt=>absurd t o) (λ_=> ?_);refine wp 1 (nq (cs (XG aD (Hm (Hn (Jb (Hl (ql ?_))))))));obtain rfl:=oi f;exact je1 Τ u.kp;rintro W g3 G d3 rfl;refine sr (wp 1 (nq (ct (uO ?_))));obtain rfl:=oi a0;exact rv d3.kp;refine sr (wp 1 (bi a0 λg4 d4 a0=>wc ent289 l (beb d4 (J.dI l)) λg5 D=>wp 2 (nq (cb a0 (λd5 a0=> ?_) (λd5 a0=> ?_)))));refine sr (wp 1 (nq (ct (uO ?_))));obtain rfl:=oi a0;exact rv D.kp;refine Zk (sr (wp 1 (RC .i32 .i32 g underlying21 underlying9 aD (wp 1 (nq (sr ?_))))));refine wp 2 (gi a0 λd6 a0=>XI _ 1 aD aD d6 (wp 1 (nq (sr (wp 2 (wl ?_))))));refine qn (sr (wp 1 (nq (cs (ce (lpS (λC _=>ahf fu a g C) () D a0 [0,4,7,8,9] (λ(_:Unit)=>[]) (λ_=>rfl) ?_))))));rintro C _ g6 G s i;rw[avl,ajd]at i;refine cs (sr (wp 4 (nq (cd i (λd7 i=> ?_) (λd7 i=> ?_)))));refine ck (qn (ce (Zk (bi i λd8 b i=>gu s d8 [0,4,7,8,9] (λj=>[(9,(Vi .i64 j))]) ?_ ?_))));refine cs (gi b λd9 b=>gi b λV b=>cdr 6 s (nR (sZ (mT (vA (sZ (vA (nR (mT (vA Ca))))))))) λg7 B=>rp 4 [0,1] (rt 2 (bt _) Τ Τ (dA Τ (by intro w d;exact(vp a .i64 _ underlying9 aD aD d9))) (rp 1 [3,4] (rt 5 (bt _) Τ Τ (dA Τ (by intro w d;exact(vp _ .i64 _ underlying9 aD aD V))) (By aD (HZ (Υ a ((γ ((Γ g).data.toList):Int)-1)) (Υ ((Γ g).data.toList) ((γ ((Γ g).data.toList):Int)-1)) aD aD ?_))))));refine nq (cn b (λU b=> ?_) (λU b=> ?_));refine cs (gi b λT b=>gi b λS b=>gi b λR b=>cdr 7 B (nR (sZ (mT (vA (sZ (vA (nR (mT (vA Ca))))))))) λQ P=>rp 5 [0,1] (rt 2 (Vi .i64 (((γ ((Γ g).data.toList):Int)-1)+1)) Τ Τ (dA Τ (by intro w d;exact(lH _ 1 aD aD T))) (rt 3 (str (dG _ a)) Τ Τ (dA Τ (by intro w d;exact(nX a .i64 _ underlying9 aD aD S))) (rp 1 [4,5] (rt 6 (bt _) Τ Τ (dA Τ (by intro w d;exact(vp _ .i64 _ underlying9 aD aD R))) ?_)))));refine By aD (kS 82 #[] [str (dG (bR (((γ ((Γ g).data.toList):Int)-1)+1)) a),bt (Υ ((Γ g).data.toList) ((γ ((Γ g).data.toList):Int)-1))] _ zb aD aD (oD _ (Υ _ _) Q) ?_);rintro _ g8 ⟨rfl,A⟩;have z:=P.call A;clear A;refine wp 1 (nq (cs (sr (wp 2 (nq (cd b (λO b=> ?_) (λO b=> ?_)))))));refine sr (wp 1 (nq (ct (st (Vf ?_)))));obtain rfl:=oi b;refine Tk (uO (Vf (uO (st (Tk (uO ?_))))));obtain rfl:=oi i;exact rv z.kp;refine ck (qn (cr (wp 2 (gi b λN b=>qF _ (1:Int) aD aD N (gi b λM b=>qF _ ((dN _ _)+1) aD aD M (wp 1 (wl ?_)))))));refine ql ?_;obtain rfl:=oi b;exact je1 Τ z.kp;refine ck (ql ?_);obtain rfl:=oi b;exact je1 Τ B.kp;rintro j g9 G f0 rfl;refine cs (sr (wp 1 (nq (ce (lpS (λy e=>aka fu a g j y e) 1 f0 i [0,4,7,8,9,12] (λe=>[(12,(Vi .i64 e))]) (λ_=>rfl) ?_)))));rintro y e h0 G x c;rw[bfn,aoo]at c;refine cs (sr (wp 4 (nq (cd c (λf1 c=> ?_) (λf1 c=> ?_)))));refine ck (qn (cs (ce (cs (gi c λf2 c=>gi c λf3 c=>gi c λf4 c=>gi c λf5 c=>cdr 10 x (nR (vA (nR (sZ (vA (nR (mT (vA (sZ (vA (nR (mT (vA Ca))))))))))))) λh1 f6=> ?_)))));refine rp 7 [0,1,2] (rt 3 (Vi .i64 (j-e)) Τ Τ (dA Τ (by intro w d;exact(lj j e aD aD f2))) (rt 4 (bt _) Τ Τ (dA Τ (by intro w d;exact(vp a .i64 _ underlying9 aD aD f3))) (rp 2 [5,6,7] (rt 8 (Vi .i64 (((γ ((Γ g).data.toList):Int)-1)-e)) Τ Τ (dA Τ (by intro w d;exact(lj _ e aD aD f4))) (rt 9 (bt _) Τ Τ (dA Τ (by intro w d;exact(vp _ .i64 _ underlying9 aD aD f5))) (By aD (HZ (Υ a (j-e)) (Υ ((Γ g).data.toList) (((γ ((Γ g).data.toList):Int)-1)-e)) aD aD (nq (cn c (λf7 c=> ?_) (λf7 c=> ?_))))))))));exact nzz c;exact ck (bn (qn (cr (wp 1 (gi c λf8 c=>qF e _ aD aD f8 (wp 1 (wl (ql (le' _ f6.kp c)))))))));refine Hm (Hn (Jb (Hl (qn (cs (sr (wp 2 (gi c λf9 c=> ?_))))))));refine XI j _ aD aD f9 (wp 1 (nq (ct (st (Tk (uO (Vf (uO ?_))))))));refine st (Tk (uO ?_));obtain rfl:=oi c;exact rv x.kp;refine Hm (Hn (Jb (Hl (qn (cs (sr (wp 1 (wl ?_))))))));refine qn (ct (st (Tk (uO ?_))));obtain rfl:=oi i;exact rv s.kp
theorem bbn(a:ahe fu g=θ r)(c:Gl w):CR prog 212 [Vi .i64 g] w λv w'=>v=(Vb r)/\Hp w [] [] w':=by refine enter func212 Τ Τ iZ ?_;unfold ahe at a;refine sr (wp 1 (nq (sr (wp 3 (nq ?_)))));refine ct ?_;obtain rfl:=oi a;exact rv (Hp.refl w).kp
theorem tK{h:aC}(Q:aro fu a h=θ g)(l:Gl w):CR prog 141 [str a,str h] w λv w'=>v=(Vi .i64 g)/\Hp w [] [] w':=by
 have d:=Hp.refl w;refine enter func141 Τ Τ iZ ?_;unfold aro at Q;refine sr (wp 1 (nq (cs (sr (wp 2 (wl ?_))))));refine qn (cd Q (λy Q=> ?_) (λy Q=> ?_));refine sr (wp 1 (nq (ct (st ?_))));obtain rfl:=oi Q;exact rv d.kp;refine ck (qn (cs (sr (wp 3 (nq (cd Q (λx Q=> ?_) (λx Q=> ?_)))))));refine sr (wp 1 (gi Q λz Q=>oB h .i64 0 underlying9 aD aD z (na .i32 .u8 ((Υ h 0).toNat:Int) underlying5 underlying21 aD (AW _) (wp 1 (nq (bi Q λt r Q=>nL d [0,1,4,5] [(5,(Vi .i32 t))] ?_ ?_))))));refine sr (wp 2 (nq (cd r (λu r=> ?_) (λu r=> ?_))));refine cr (wp 1 (wl (ql ?_)));obtain rfl:=oi r;exact je d.kp;refine ck (ql ?_);obtain rfl:=oi r;exact je d.kp;intro P G s;refine sr (wp 2 (bi Q λO M Q=>wc fk s (baz M (l.dI s)) λN L=>wp 1 (nq (ct (st ?_)))));obtain rfl:=oi Q;exact rv L.kp;refine ck (qn (bi Q λd0 e Q=>nL d [0,1,4] [] ?_ ?_));refine sr (wp 2 (bi e λd1 K e=>wc ent212 d (bbn K (l.dI d)) λd2 J=>nq (cb e (λI e=> ?_) (λI e=> ?_))));exact nzz e;refine ck (ql ?_);obtain rfl:=oi e;exact je J.kp;intro d3 G q;refine bi Q λp H Q=>gu q p [4] (λF=>[]) ?_ ?_;refine sr (wp 1 (MP q a underlying9 aD λk d4 E=>nq (ce (AJ (σ:=Nat×Nat) [1,4,45] (λ⟨f,c⟩=>[]) (λ⟨f,c⟩ w'=>Hp w [] [SF k a c] w'/\aia fu a h f c=θ p) (λ⟨f,c⟩=>f) (fu,0) (by exact⟨E.kp,H⟩) ?_))));rintro⟨_|f,c⟩ d5 G ⟨n,b⟩
 ·exact nzz b
 rw[aje,afk]at b;refine sr ?_;by_cases j:c<γ a;replace b:=UK j b;refine Wd n 0 k a c Τ aD (λ_ D i=> ?_) (λm=>absurd j m);replace i:Hp w [] [SF k a _] D:=i;refine wp 1 (nq (cs (sU aD (ck (qn (ce (sr ?_)))))));refine wp 4 (nq (sr (wp 2 (bi b λd6 C b=>wc fk i (baz C (l.dI i)) λd7 o=>wp 1 (wl ?_)))));refine qn (cd b (λB b=> ?_) (λB b=> ?_));refine sr (wp 2 (nq (ct (uO (Vf (uO (Vf ?_)))))));obtain rfl:=oi b;obtain rfl:=oi Q;exact rv o.kp;refine ck (bn (ql ?_));exact⟨(f,c+(Utf8.decode ⟨List.toArray a⟩ c).2),_,Τ,by kernel_rfl,⟨o.kp,b⟩,Rw _⟩;replace b:=UL j b;refine Wd n 0 k a c Τ aD (λm=>absurd m j) (λ_=> ?_);refine wp 1 (nq (cs (XG aD (Hm (Hn (Jb (Hl (ql ?_))))))));obtain rfl:=oi b;exact je1 Τ n.kp;rintro F d8 G A rfl;refine sr (wp 1 (nq (ct ?_)));obtain rfl:=oi Q;exact rv A.kp
end Go.Proofs
namespace Go.Wk
open Go.Px
theorem jm{t:aC}(h:t.all (λb=>decide (b.toNat<128))=μ)(k:Nat)(a:k<γ t):(Υ t (k:Int)).toNat<128:=by
 have c:Υ t (k:Int)∈t:=by simp only[Υ,tQ,bF,aN a,Option.getD_some];exact fB a
 exact cC (aT.1 h _ c)
theorem yu(a:Int)(b: -1000000<=a)(h:a<=1000000):bK a:=⟨aA0,aA0⟩
theorem ia_err(t:aC)(h:t.all (λb=>decide (b.toNat<128))=μ)(n:Nat):∀(k a:Nat),k+n=γ t->n<a->ahg 2000 t a k=θ (.inl ()):=by
 induction n with
 |zero=>intro k a e f;obtain⟨a,rfl⟩:=cD a;rw[anf,ags,aA aA0]
 |succ n d=>intro k a e f;obtain⟨a,rfl⟩:=cD a;have i:=jm h k aA0;have g:=Uv t k aA0 i;have c:Utf8.decode ⟨List.toArray t⟩ k=((Υ t (k:Int)).toNat,1):=g;rw[anf,ags,aB aA0,c,aA (by simp only;omega)];exact d (k+1) a aA0 aA0
theorem cm(p:ζ->η):∀l:aC,(∀c∈l,p c=ν)->dN p l= -1
 |[],_=>rfl
 |c::l,h=>by unfold dN;rw[h c aA2,aA aA1,cm p l (λx hx=>h x (kW _ hx)),aB rfl]
theorem tg(t:aC)(A:γ t<=1000)(o:t.all (λb=>decide (b.toNat<128))=μ)(r:Int)(v:128<=r):afb 2000 t r=θ (-1):=by
 have w:decide (r<128)=ν:=aG aA0;unfold afb;rw[aB aA0,w,cN,aJ];by_cases p:r=65533
 ·rw[aB p,ia_err t o (γ t) 0 2000 aA0 aA0];rfl
 rw[aA p];have u:∃b,agr 2000 r=θ b:=by
  unfold agr;rw[aB aA0,cN];cases decide (r<55296)with
  |true=>exact⟨_,Τ⟩
  |false=>
   rw[aJ];by_cases h:57343<r
   ·rw[aB h,cN];cases decide (r<=1114111)<;>exact⟨_,Τ⟩
   ·rw[aA h];exact⟨_,Τ⟩
 obtain⟨b,y⟩:=u;rw[y,cN];cases b with
 |false=>rfl
 |true=>
  obtain⟨D,C,s⟩:=VF r v;have q:(Γ r).data.toList=Rh r:=Τ;rw[Bool.not_true,aJ,q];have g:bK ((γ (Rh r):Int)-1):=yu _ aA0 aA0;rw[aV g];show ahf 2000 t r (1999+1)=_;rw[avl,ajd,q];generalize a:Υ (Rh r) ((γ (Rh r):Int)-1)=last at s;generalize B:(γ (Rh r):Int)-1=m at a s⊢;by_cases d:m<(γ t:Int)
  ·obtain⟨k,rfl⟩:∃k:Nat,m=(k:Int):=⟨m.toNat,aA0⟩;have z:=jm o k aA0;have i:¬Υ t (k:Int)=last:=λe=>by rw[e]at z;omega
   have f:∀l:aC,(∀c∈l,c∈t)->dN (·==last) l= -1:=λl x=>cm _ l λc n=>by
    have j:=cC (aT.1 o c (x c n));have:¬c=last:=λe=>by rw[e]at j;omega
    simpa using this
   rw[aB d,aV aA0,aV aA0,aA i,aV (yu _ aA0 aA0),aV aA0,aV aA0,f _ (λc n=>kV n),aB aA1,cN,Sum.elim_inr]
  ·rw[aA d]
theorem ZT:∀c:ζ,AH (c.toNat:Int)=c:=hY _ aA4
theorem ia_low(t:aC)(c:ζ)(b:c.toNat<128):afb 2000 t (c.toNat:Int)=θ (dN (·==c) t):=by have a:decide ((c.toNat:Int)<128)=μ:=aH aA0;unfold afb;rw[aB aA0,a,cN,aO,ZT]
theorem OR(c:ζ):∀t:aC,(0<=dN (·==c) t)↔t.contains c=μ
 |[]=>by simp[dN]
 |b::t=>by
  have a:=OR c t;have i:=sG (·==c) t;unfold dN;by_cases h:b=c
  ·rw[aB aA8];simp[h]
  ·have g:¬c=b:=λe=>h e.symm;rw[aA aA8,List.contains_cons];have d:(c==b)=ν:=aE4;rw[d,jE,<-a];split
   ·rename_i f;rw[f]
   ·omega
theorem EA(p:ζ->η):∀a l:aC,(∀c∈a,p c=ν)->dN p (a++l)=if dN p l= -1 then-1 else dN p l+(γ a:Int)
 |[],l,_=>by
  rw[List.nil_append,List.length_nil];split
  ·assumption
  ·omega
 |c::a,l,h=>by
  have d:=EA p a l (λx hx=>h x (kW _ hx));have e:=sG p l;rw[GV,dN,h c aA2,aA aA1,d];by_cases b:dN p l= -1
  ·rw[aB b,aB b,aB rfl]
  ·rw[aA b,aA b,aA aA0,dF];omega
theorem ia_lp(s t:aC)(y:γ t<=1000)(x:t.all (λb=>decide (b.toNat<128))=μ)(n:Nat):∀(k f:Nat),γ s-k<=n->n<f->k<=γ s->
  aia 2000 s t f k=θ (if dN (t.contains ·) (s.drop k)= -1 then .inl ()else .inr ((k:Int)+dN (t.contains ·) (s.drop k))):=by
 induction n with
 |zero=>intro k f A D z;obtain⟨f,rfl⟩:=cD f;rw[aje,afk,aA aA0,LU aA0];rfl
 |succ n w=>
  intro k f A D z;obtain⟨f,rfl⟩:=cD f;by_cases a:k<γ s
  ·rw[aje,afk,aB a];have G:=sG (t.contains ·) (s.drop (k+1));by_cases d:(Υ s (k:Int)).toNat<128
   ·have u:Utf8.decode ⟨List.toArray s⟩ k=((Υ s (k:Int)).toNat,1):=Uv s k a d;rw[u];simp only;rw[ia_low t _ d,cN,Pb s k a,dN];have l:=OR (Υ s (k:Int)) t;by_cases m:t.contains (Υ s (k:Int))=μ
    ·rw[aB (l.2 m),aB m,aA aA1];simp
    ·rw[aA (λh=>m (l.1 h)),aA m,w (k+1) f aA0 aA0 aA0];by_cases i:dN (t.contains ·) (s.drop (k+1))= -1
     ·rw[aB i,aB i,aB rfl]
     ·rw[aA i,aA i,aA aA0];congr 2;omega
   ·obtain⟨d1,d2,d3,d4⟩:=gm s k a d;have e:(⟨s.toArray⟩:ByteArray)=⟨List.toArray s⟩:=Τ;rw[tg t y x _ aA0,cN,aA aA1];generalize(Utf8.decode ⟨s.toArray⟩ k).2=wd at d2 d3 d4⊢
    rw[w (k+wd) f aA0 aA0 aA0];have g:s.drop k=(s.drop k).take wd++s.drop (k+wd):=by
     have r:s.drop (k+wd)=(s.drop k).drop wd:=by rw[List.drop_drop]
     rw[r,WV]
    have q:∀c∈(s.drop k).take wd,t.contains c=ν:=by
     intro c m;obtain⟨j,B,rfl⟩:=List.getElem_of_mem m;rw[bW,lE]at B;have E:=d4 (k+j) aA0 aA0;rw[List.getElem_take,List.getElem_drop];have F:Υ s ((k+j:Nat):Int)=s[k+j]' aA0:=by unfold Υ;rw[tQ];simp[show k+j<γ s by omega]
     rw[F]at E;cases v:t.contains (s[k+j]' aA0)with
     |false=>rfl
     |true=>have:=cC (aT.1 x _ (List.contains_iff_mem.1 v));omega
    have p:dN (t.contains ·) (s.drop k)=if dN (t.contains ·) (s.drop (k+wd))= -1 then-1 else dN (t.contains ·) (s.drop (k+wd))+(γ ((s.drop k).take wd):Int):=by
     conv=>lhs;rw[g]
     exact EA _ _ _ q
    rw[p];have o:γ ((s.drop k).take wd)=wd:=by rw[bW,lE];omega
    have C:=sG (t.contains ·) (s.drop (k+wd));rw[o];by_cases i:dN (t.contains ·) (s.drop (k+wd))= -1
    ·rw[aB i,aB i,aB rfl]
    ·rw[aA i,aA i,aA aA0];congr 2;omega
  ·rw[aje,afk,aA a,LU aA0];rfl
theorem dc(s t:aC)(i:γ s<=8)(d:2<=γ t)(f:γ t<=1000)(g:t.all (λb=>decide (b.toNat<128))=μ):aro 2000 s t=θ (Lib.indexAny s t):=by
 have a:¬t=[]:=λe=>by rw[e]at d;simp at d
 have h:=sG (t.contains ·) s;unfold aro ahe;rw[aA a,aA aA0,cN,aG aA0,aJ,cN,ia_lp s t f g (γ s) 0 2000 aA0 aA0 aA0,ks,beo,cN];by_cases c:dN (t.contains ·) s= -1
 ·rw[aB c,c];rfl
 ·rw[aA c,Sum.elim_inr];congr 1;omega
end Go.Wk
namespace Go.Proofs
open Go.Wk Go.Px
theorem Wx(s t:δ ζ)(w:φ)(h:γ s<=1000000000/\γ t<=1000/\t.all (λb=>decide (b.toNat<128))=μ)(f:Gl w):CR prog 141 [str s,str t] w λv w'=>v=.int .i64 (Lib.indexAny s t)/\Hp w [] [] w':=by
 obtain⟨d,c,a⟩:=h;by_cases g:8<γ s
 ·exact Fl s t w ⟨d,c,a,.inl g⟩
 by_cases e:γ t<=1
 ·exact Fl s t w ⟨d,c,a,.inr (.inl e)⟩
 exact tK (dc s t aA0 aA0 c a) f
open Go.Wk Go.Px Go.Oe
abbrev qS:Ty:=.pr .s' (.pr .s' .b')
abbrev dL:Ty:=.l' 108 40 qS
noncomputable section
noncomputable def gT:δ (Nat×Ob):=[(1,.ro .s' zt),(6,.ro (.pr .s' (.i' .i64)) Et),(4,.ro .s' lr),(7,.ro (.i' .u32) Jd)]
noncomputable def glo:Br where
 gs:=gT
 p w S:=Gl w/\∀b∈S,12<=b
 st h a j:=⟨a.1.hp h a.2,λb i=>(j b i).elim (λk=>gB a.1.gs k) (a.2 b)⟩
 rd:=by
  intro w S g t l a c;have d:∀g,g<12->g∉S:=λg f e=>Nat.lt_irrefl _ (bU f (a.2 g e));unfold gT at c;cases c with
  |head=>exact⟨a.1.specials.rd,d _ aA1⟩
  |tail _ c=>
  cases c with
  |head=>exact⟨a.1.kinds.rd,d _ aA1⟩
  |tail _ c=>
  cases c with
  |head=>exact⟨a.1.classes.rd,d _ aA1⟩
  |tail _ c=>
  cases c with
  |head=>exact⟨a.1.rounds.rd,d _ aA1⟩
  |tail _ c=>
  cases c
noncomputable def oE(t:Nat):ε (Nat×Nat×Ty):=bif Nat.beq t 22 then θ (47,32,.pr .s' .s')else bif Nat.beq t 23 then θ (5,1,.c')else bif Nat.beq t 49 then θ (9,16,.s')else bif Nat.beq t 54 then θ (108,40,.pr .s' (.pr .s' .b'))else bif Nat.beq t 198 then θ (202,24,.pr (.i' .i64) .s')else bif Nat.beq t 244 then θ (134,4,.i' .u32)else ι
theorem oEh:∀t e b τ,oE t=θ (e,b,τ)->Tryz.prog.underlying t=θ (.slice e)/\TI prog e τ.sz b/\τ.flat=μ/\0<b:=by
 intro t e b τ h;unfold oE at h;cases i:Nat.beq t 22 with
 |true=>rw[i]at h;cases h;rw[eH i];exact⟨underlying22,by unfold TI;kernel_rfl,Τ,aA1⟩
 |false=>
 rw[i]at h;simp only[aJ]at h;cases g:Nat.beq t 23 with
 |true=>rw[g]at h;cases h;rw[eH g];exact⟨underlying23,by unfold TI;kernel_rfl,Τ,aA1⟩
 |false=>
 rw[g]at h;simp only[aJ]at h;cases f:Nat.beq t 49 with
 |true=>rw[f]at h;cases h;rw[eH f];exact⟨underlying49,by unfold TI;kernel_rfl,Τ,aA1⟩
 |false=>
 rw[f]at h;simp only[aJ]at h;cases d:Nat.beq t 54 with
 |true=>rw[d]at h;cases h;rw[eH d];exact⟨underlying54,by unfold TI;kernel_rfl,Τ,aA1⟩
 |false=>
 rw[d]at h;simp only[aJ]at h;cases c:Nat.beq t 198 with
 |true=>rw[c]at h;cases h;rw[eH c];exact⟨underlying198,by unfold TI;kernel_rfl,Τ,aA1⟩
 |false=>
 rw[c]at h;simp only[aJ]at h;cases a:Nat.beq t 244 with
 |true=>rw[a]at h;cases h;rw[eH a];exact⟨underlying244,by unfold TI;kernel_rfl,Τ,aA1⟩
 |false=>
 rw[a]at h;simp only[aJ]at h;cases h
theorem gTt:∀q∈glo.gs,∃t l,q.2=.ro t l:=by
 intro q a;have a:q∈gT:=a;unfold gT at a;cases a with
 |head=>exact⟨_,_,Τ⟩
 |tail _ a=>
 cases a with
 |head=>exact⟨_,_,Τ⟩
 |tail _ a=>
 cases a with
 |head=>exact⟨_,_,Τ⟩
 |tail _ a=>
 cases a with
 |head=>exact⟨_,_,Τ⟩
 |tail _ a=>
 cases a
noncomputable def AI:Sea:=⟨prog,glo,oE,oEh,gTt⟩
variable{k:Nat}{fn:Func}
noncomputable def kl(a : AI.P.funcs[k]? = θ fn)(c : wH)(ok : Qd AI.P AI.GS k c)(b : fn.body = θ (fn.body.getD .skip) := by rfl)(nm : (fn.name == "runtime.NumGoroutine") = ν := by kernel_rfl) : AI.K := ⟨k, c, ⟨fn, _, a, b, nm⟩, ok⟩
noncomputable def kf(fu : Nat)(d : AI.P.funcs[k]? = θ fn)(l : δ AI.K)(a : δ Ty)(r : δ Rk)(g : (fK a).T -> ε (fS r).T)(sc : Sc)(e : fn.body = θ (fn.body.getD .skip) := by rfl)(nm : (fn.name == "runtime.NumGoroutine") = ν := by rfl)(c : Nat.ble a.length fn.ntmps = μ := by rfl)(b : ∀ x, denF (AI.cx fu fn.ntmps l a) (AI.GS.gs.map (·.2)) (fn.body.getD .skip) fn.results.toList sc a r x = g x := by intro x; kernel_rfl) : AI.K := AI.fn fu k d e nm l a r g sc c b
noncomputable def aol:=kl func35 ⟨[.i' .i64],[.r' (.s')],λx=>.gs [⟨bK x,inferInstance⟩] (Lib.itoa x)⟩ (KY (λx=>[.int .i64 x]) (λy=>str y) λw S x y b a=>by obtain⟨⟨c,_⟩,rfl⟩:=a;exact NC x w c b.1)
noncomputable def bbg:=kl func62 ⟨[.p' 72 (.pr .z' (.l' 5 1 .c'))],[.r' .s'],λx=>.gs [⟨γ x.2<=140737488355328,inferInstance⟩] x.2⟩ (ej Tryz.rq Tryz.Bs _)
noncomputable def bfx:=kl func79 ⟨[.s',.c'],[.r' (.i' .i64)],λx=>.gs [⟨γ x.1<=1000000000,inferInstance⟩] (fP (·==x.2) x.1)⟩ (KY (λx=>[str x.1,bt x.2]) (λy=>.int .i64 y) λw S x y c a=>by obtain⟨⟨b,_⟩,rfl⟩:=a;exact mP x.1 x.2 w b)
noncomputable def ajr:=kl func82 ⟨[.s',.c'],[.r' (.i' .i64)],λx=>.gs [] (dN (·==x.2) x.1)⟩ (KY (λx=>[str x.1,bt x.2]) (λy=>.int .i64 y) λw S x y b a=>by obtain⟨_,rfl⟩:=a;exact oD x.1 x.2 w)
noncomputable def JP:=kl func96 ⟨[.r' (.pr .s' .s')],[.r' (.l' 47 32 (.pr .s' .s'))],λx=>.gs [⟨(0+γ x)*32<=140737488355328,inferInstance⟩] x⟩ (nG (e:=47) (b:=32) (t:=.pr .s' .s') (λx=>x) (λy=>y) λw S x y a n cap i c d f h=>by obtain⟨⟨g,_⟩,rfl⟩:=c;exact IN x w a n cap d f g)
noncomputable def JO:=kl func97 ⟨[.r' .c'],[.r' (.l' 5 1 .c')],λx=>.gs [⟨(0+γ x)*1<=140737488355328,inferInstance⟩] x⟩ (nG (e:=5) (b:=1) (t:=.c') (λx=>x) (λy=>y) λw S x y a n cap i c d f h=>by obtain⟨⟨g,_⟩,rfl⟩:=c;exact IM x w a n cap d f g)
noncomputable def Ae:=kl func128 ⟨[.p' 72 (.pr .z' (.l' 5 1 .c'))],[.o' 0 72 (.pr .z' (.l' 5 1 .c'))],λx=>.gs [] x⟩ (ub Wv)
noncomputable def awj:=kl func141 ⟨[.s',.s'],[.r' (.i' .i64)],λx=>.gs [⟨γ x.1<=1000000000/\γ x.2<=1000/\x.2.all (λb=>decide (b.toNat<128))=μ,inferInstance⟩] (Lib.indexAny x.1 x.2)⟩ (KY (λx=>[str x.1,str x.2]) (λy=>.int .i64 y) λw S x y c a=>by obtain⟨⟨d,_⟩,rfl⟩:=a;exact Wx x.1 x.2 w d c.1)
noncomputable def pY:=kl func163 ⟨[.s',.s'],[.r' (.s')],λx=>.gs [] (Lib.trimPrefix x.1 x.2)⟩ (KY (λx=>[str x.1,str x.2]) (λy=>str y) λw S x y b a=>by obtain⟨_,rfl⟩:=a;exact Qj x.1 x.2 w)
noncomputable def DY:=kl func165 ⟨[.r' qS],[.r' dL],λx=>.gs [⟨(0+γ x)*40<=140737488355328,inferInstance⟩] x⟩ (nG (e:=108) (b:=40) (t:=.pr .s' (.pr .s' .b')) (λx=>x) (λy=>y) λw S x y a n cap i c d f h=>by obtain⟨⟨g,_⟩,rfl⟩:=c;exact BN x w a n cap d f g)
noncomputable def Gr:=kl func198 ⟨[.s',.s'],[.r' (.s')],λx=>.gs [⟨γ x.1<=1000000000,inferInstance⟩,⟨γ x.2<=1000/\x.2.all (λb=>decide (b.toNat<128))=μ,inferInstance⟩] (Lib.trimS x.1 x.2)⟩ (KY (λx=>[str x.1,str x.2]) (λy=>str y) λw S x y e a=>by obtain⟨⟨d,c,_⟩,rfl⟩:=a;exact oo x.1 x.2 w d c)
noncomputable def bcw:=kl func215 ⟨[.s',.s'],[.r' (.b')],λx=>.gs [⟨γ x.1<=1000000000,inferInstance⟩] (Lib.contains x.1 x.2)⟩ (KY (λx=>[str x.1,str x.2]) (λy=>.bool y) λw S x y b a=>by obtain⟨⟨c,_⟩,rfl⟩:=a;exact BL x.1 x.2 w c b.1)
noncomputable def Lz:=kl func231 ⟨[.s',.s'],[.r' (.s'),.r' (.s'),.r' (.b')],λx=>.gs [⟨γ x.1<=1000000000,inferInstance⟩] ((Lib.cut x.1 x.2).1,(Lib.cut x.1 x.2).2.1,(Lib.cut x.1 x.2).2.2)⟩ (KY (λx=>[str x.1,str x.2]) (λy=>.tuple #[str y.1,str y.2.1,.bool y.2.2]) λw S x y b a=>by obtain⟨⟨c,_⟩,rfl⟩:=a;exact sh_Cut x.1 x.2 w c b.1)
noncomputable def pD:=kl func233 ⟨[.r' .s',.s'],[.r' .s'],λx=>.gs [⟨γ x.1<=1000000000/\γ (Lib.join x.1 x.2)<=100000000000,inferInstance⟩] (Lib.join x.1 x.2)⟩ (ei (t:=.s') (λx=>x.1) (λx=>[str x.2]) (λy=>str y) λw S x y a n cap g b c e d=>by obtain⟨⟨f,_⟩,rfl⟩:=b;exact oq x.2 w a n cap x.1 c e d f)
noncomputable def mX:=kl func234 ⟨[.s',.s'],[.r' (.l' 9 16 .s')],λx=>match x.2 with|[c]=>.gs [⟨γ x.1<=1000000000,inferInstance⟩] (cG c x.1)|_=>.one ι⟩ (ua (e:=9) (b:=16) (t:=.s') (λy=>y) (λx=>[str x.1,str x.2]) λw S x y d a=>by
  obtain⟨s,c⟩:=x
  match c,a with
  |[c],a=>obtain⟨⟨f,_⟩,rfl⟩:=a;exact U4 s c w f d.1
  |[],a=>cases a
  |_::_::_,a=>cases a)
noncomputable def uV:=kl func305 ⟨[.s',.s'],[.r' (.s')],λx=>.gs [⟨γ x.1<=1000000000,inferInstance⟩,⟨γ x.2<=1000/\x.2.all (λb=>decide (b.toNat<128))=μ,inferInstance⟩] (Lib.trimLeftS x.1 x.2)⟩ (KY (λx=>[str x.1,str x.2]) (λy=>str y) λw S x y e a=>by obtain⟨⟨d,c,_⟩,rfl⟩:=a;exact BK x.1 x.2 w d c)
noncomputable def rU:=kl func335 ⟨[.s',.s'],[.r' (.s'),.r' (.b')],λx=>.gs [] (Lib.trimPrefix x.1 x.2,Lib.hasPrefix x.1 x.2)⟩ (KY (λx=>[str x.1,str x.2]) (λy=>.tuple #[str y.1,.bool y.2]) λw S x y b a=>by obtain⟨_,rfl⟩:=a;exact Wy x.1 x.2 w)
noncomputable def rR:=kl func345 ⟨[.s',.s'],[.r' (.s')],λx=>.gs [⟨γ x.1<=1000000000,inferInstance⟩,⟨γ x.2<=1000/\x.2.all (λb=>decide (b.toNat<128))=μ,inferInstance⟩] (Lib.trimRightS x.1 x.2)⟩ (KY (λx=>[str x.1,str x.2]) (λy=>str y) λw S x y e a=>by obtain⟨⟨d,c,_⟩,rfl⟩:=a;exact Ww x.1 x.2 w d c)
end
open Go.Wk Go.Px Go.Oe
abbrev Φ:Sc->Sc:=Sc.s' Sc.n'
abbrev Χ:Ty:=.i' .i64
section
variable(fu:Nat)
noncomputable def Mu:=kf fu func6 [] [.pr .s' (.pr .s' (.pr Χ (.pr .s' (.pr (.r' (.pr .s' .s')) (.r' .c')))))] [.r' (.b')] (λx=>auk fu x) (Φ (.s' (.j' [.s' 19 (.b')] [0,3,4,10] .n' .n') (.r' [] [] (Φ (.l' [.s' 3 Χ] (Φ (.s' (.j' [.s' 44 (.b')] [0,2,4,7,8] .n' .n') .n')))) .n')))
noncomputable def Dr:=kf fu func25 [] [.s'] [.r' (.pr .s' (.pr .s' (.pr Χ (.pr .s' (.pr (.l' 47 32 (.pr .s' .s')) (.l' 5 1 .c'))))))] (λx=>bds fu x) (.n')
noncomputable def aqn:=kf fu func235 [] [.c'] [.r' (.b')] (λx=>XP fu x) (Φ (.j' [.s' 2 (.b')] [0,1,2,6] .n' .n'))
noncomputable def bcy:=kf fu func304 [aqn fu] [.c'] [.r' (.c'),.r' (.b')] (λx=>afq fu x) (Φ (.s' (Φ (Φ (.j' [.s' 9 (.b')] [0,1,2,6] .n' (Φ (.j' [.s' 19 (.b')] [0,1,2,6] .n' .n'))))) .n'))
noncomputable def wq:=kf fu func83 [] [.s'] [.r' (.s')] (λx=>WG fu x) (Φ (Φ (.j' [.w' 3 (.y')] [] (Φ (.l' [.w' 3 (.y'),.s' 10 Χ] (Φ (Φ (.s' (Φ (.j' [.s' 20 (.b')] [0,1,2] .n' .n')) .n'))))) .n')))
noncomputable def sF:=kf fu func232 [wq fu,mX,bcy fu,uV] [.s'] [.r' (.l' 9 16 .s'),.r' (.b')] (λx=>agk fu x) (Φ (Φ (.r' [.w' 4 (.l' 9 16 .s')] [] (Φ (.l' [.w' 4 (.l' 9 16 .s'),.s' 14 Χ] (Φ (Φ (.r' [.w' 4 (.l' 9 16 .s')] [] (Φ (.s' (.j' [.s' 26 (.b')] [0,2,3] .n' .n') (.r' [] [] (Φ (.l' [.s' 29 Χ] .n')) .n'))) .n'))))) .n')))
noncomputable def Af:=kf fu func157 [Lz,sF fu,pD] [.s'] [.r' (.s'),.r' (.b')] (λx=>awe fu x) (Φ (Φ (Φ (.s' (Φ (.s' (Φ (.j' [.s' 2 (.s'),.s' 3 (.b')] [0,2,3,8,9] .n' .n')) .n')) (Φ (Φ (.j' [.s' 9 (.l' 9 16 .s'),.s' 11 (.b')] [] .n' (.j' [.s' 10 (.l' 9 16 .s'),.s' 12 (.b')] [] .n' (.s' (.j' [.s' 64 (.b')] [0,1,2,6] .n' .n') .n')))))))))
noncomputable def xI:=kf fu func158 [aol,mX,aqn fu] [.s'] [.r' (.b')] (λx=>aup fu x) (Φ (Φ (Φ (.r' [] [] (Φ (.l' [.s' 15 Χ] (Φ (Φ (.r' [] [] (Φ (Φ (.r' [.s' 6 Χ] [] (Φ (.l' [.s' 6 Χ,.s' 21 Χ] .n')) (.j' [.s' 49 (.b')] [0,1,2,6] .n' .n')))) .n'))))) .n'))))
noncomputable def bgd:=kf fu func237 [] [.c'] [.r' (.b')] (λx=>ama fu x) (Φ (.j' [.s' 2 (.b')] [0,1,2,6,14] .n' .n'))
end
theorem fi:Go.Wk.Enters prog 235:=⟨Tryz.f235,_,func235,Τ,by kernel_rfl⟩
theorem ent236:Go.Wk.Enters prog 236:=⟨Tryz.f236,_,func236,Τ,by kernel_rfl⟩
theorem ent237:Go.Wk.Enters prog 237:=⟨Tryz.f237,_,func237,Τ,by kernel_rfl⟩
theorem ent292:Go.Wk.Enters prog 292:=⟨Tryz.f292,_,func292,Τ,by kernel_rfl⟩
theorem ent308:Go.Wk.Enters prog 308:=⟨Tryz.f308,_,func308,Τ,by kernel_rfl⟩
theorem ent341:Go.Wk.Enters prog 341:=⟨Tryz.f341,_,func341,Τ,by kernel_rfl⟩
variable{fu:Nat}{d:ζ}{u:η}{w:φ}
theorem bgz(a:XP fu d=θ u)(f:Gl w):CR prog 235 [bt d] w λv c=>v=.bool u/\Hp w [] [] c:=
 WA (x:=d) (y:=u) (aqn fu).ok (λx=>[bt x]) _ ⟨f,λb e=>by cases e⟩ a
theorem yF(a:ama fu d=θ u)(f:Gl w):CR prog 237 [bt d] w λv c=>v=.bool u/\Hp w [] [] c:=
 WA (x:=d) (y:=u) (bgd fu).ok (λx=>[bt x]) _ ⟨f,λb e=>by cases e⟩ a
variable{h t:aC}{m:Int}{f:(aC×aC×Int)}
theorem tI(c:arm fu h t m=θ f)(p:Gl w):CR prog 308 [str h,str t,π .i64 m] w λv w'=>∃(l:Nat),∃(d:Nat),∃(k:Nat),v=(Λ (.func 341) #[] #[υ (cW l),υ (cW d),υ (cW k)])/\Hp w [] [aX l [str f.1] 9,aX d [str f.2.1] 9,aX k [π .i64 f.2.2] 3] w':=by refine enter func308 Τ Τ (aK Τ) ?_;unfold arm at c;refine sr (eX (Hp.refl w) [str h] 9 (λb=>υ (cW b)) Τ Τ aD λd o g=>eX g [str t] 9 (λb=>υ (cW b)) Τ Τ aD λj n r=>eX r [π .i64 m] 3 (λb=>υ (cW b)) Τ Τ aD λi a e=>wp 1 (nq (sr ?_)));refine wp 2 (nq (ct ?_));obtain rfl:=oi c;refine Ja (Λ (.func 341) #[] #[υ (cW j),υ (cW d),υ (cW i)]) Τ aD ?_;exact⟨j,d,i,oM,(Hp.front (Hp.front e 2 _ Τ) 2 _ Τ).kp⟩
theorem tJ(c:arn fu h t=θ f)(o:Gl w):CR prog 236 [str h,str t] w λv w'=>∃(m:Nat),∃(l:Nat),∃(k:Nat),v=(Λ (.func 341) #[] #[υ (cW m),υ (cW l),υ (cW k)])/\Hp w [] [aX m [str f.1] 9,aX l [str f.2.1] 9,aX k [π .i64 f.2.2] 3] w':=by have j:=Hp.refl w;refine enter func236 Τ Τ (aK Τ) ?_;unfold arn at c;refine sr (wp 1 (nq (sr (wp 2 (bi c λd e c=>kS 308 #[] [str h,str t,π .i64 0] _ ent308 aD aD (tI e (o.dI j)) ?_)))));rintro _ n ⟨i,a,g,rfl,b⟩;have r:Hp w [] (kc i d.1 a d.2.1 g d.2.2) n:=Hp.cM (L1:=[]) (L2:=[]) j b;clear b;refine wp 1 (nq (ct ?_));obtain rfl:=oi c;refine Ja (Λ (.func 341) #[] #[υ (cW i),υ (cW a),υ (cW g)]) Τ aD ?_;exact⟨i,a,g,oM,r.kp⟩
theorem asm{z:η}(f:Nat)(d:Loop)(l:Nat)(k:Nat)(i:Nat)(g:Nat)(e:Nat){r:(η×η×aC×Nat)}(F:ade fu u z h t m=θ r)(hG:Gl w)(hM:Hp w (eR [gX f 0 d,aX l [ψ u] 4,aX k [ψ z] 4,aX i [str h] 9,aX g [str t] 9,aX e [π .i64 m] 3]) [gX f 0 d,aX l [ψ u] 4,aX k [ψ z] 4,aX i [str h] 9,aX g [str t] 9,aX e [π .i64 m] 3] w)(hS:∀b∈eR [gX f 0 d,aX l [ψ u] 4,aX k [ψ z] 4,aX i [str h] 9,aX g [str t] 9,aX e [π .i64 m] 3],12<=b)(U:∀(Q:aC) (P:η) (O:η) (w_:φ),Hp w (eR [gX f 0 d,aX l [ψ u] 4,aX k [ψ z] 4,aX i [str h] 9,aX g [str t] 9,aX e [π .i64 m] 3]) [gX f 0 d,aX l [ψ P] 4,aX k [ψ O] 4] w_->∀(Z:(Nat×η×η)),wu fu Q P O=θ Z->YR prog f [str Q] w_ λv b5=>v=ψ (decide (Z.1=0))/\Hp w_ (eR [gX f 0 d,aX l [ψ P] 4,aX k [ψ O] 4]) [gX f Z.1 d,aX l [ψ Z.2.1] 4,aX k [ψ Z.2.2] 4] b5):CR prog 341 [Λ (.yield f) #[] #[],υ (cW i),υ (cW g),υ (cW e)] w λv w'=>v=(Value.tuple #[])/\Hp w (eR [gX f 0 d,aX l [ψ u] 4,aX k [ψ z] 4,aX i [str h] 9,aX g [str t] 9,aX e [π .i64 m] 3]) [aX l [ψ r.1] 4,aX k [ψ r.2.1] 4,aX i [str h] 9,aX g [str r.2.2.1] 9,aX e [π .i64 m] 3,gX f r.2.2.2 d] w':=by
 have hH:=hM;refine fe func341 Τ Τ (aK Τ) ?_;unfold ade at F;refine bi F λb8 x F=>gu hH b8 [0,1,2,3] (λb7=>[]) ?_ ?_;refine sr (sX hH 3 i 0 _ 9 _ Τ Τ aD aD (wp 2 (nq (cd x (λc0 x=> ?_) (λc0 x=> ?_)))));refine bi x λc5 a5 x=>nL hH [0,1,2,3] [] ?_ ?_;refine ce (lpS (λT _=>acl fu t T) () hH a5 [0,1,2,3] (λ(_:Unit)=>[]) (λ_=>rfl) ?_);rintro T _ c4 G S A;rw[apj,adz]at A;refine cs (sr (sX S 4 g 0 _ 9 _ Τ Τ aD aD (wp 2 (nq (cd A (λb9 A=> ?_) (λb9 A=> ?_))))));exact absurd A aA2;refine Hm (Hn (Jb (Hl (ql ?_))));obtain rfl:=oi A;exact je S.kp;intro c3 G a7;refine ct (Vf ?_);obtain rfl:=oi x;obtain rfl:=oi F;refine JB Τ ?_;exact⟨oM,(Hp.front (Hp.front (Hp.front (Hp.front (Hp.front a7 5 _ Τ) 5 _ Τ) 5 _ Τ) 5 _ Τ) 5 _ Τ).kp⟩;refine ck (ql ?_);obtain rfl:=oi x;exact je1 Τ hH.kp;rintro b7 c2 G a6 rfl;refine bi F λR X F=>cut (σ:=(η×η×aC)) [0,2] (λj=>[]) (λj w'=>Hp w (eR [gX f 0 d,aX l [ψ u] 4,aX k [ψ z] 4,aX i [str h] 9,aX g [str t] 9,aX e [π .i64 m] 3]) [gX f 0 d,aX l [ψ j.1] 4,aX k [ψ j.2.1] 4,aX i [str h] 9,aX g [str j.2.2] 9,aX e [π .i64 m] 3] w'/\.inl j=R) ?_ ?_;refine ce (AJ (σ:=Nat×η×η×aC) [0,1,2,3] (λ⟨q,o,n,c⟩=>[]) (λ⟨q,o,n,c⟩ w'=>Hp w (eR [gX f 0 d,aX l [ψ u] 4,aX k _ 4,aX i _ 9,aX g _ 9,aX e _ 3]) [gX f 0 d,aX l [ψ o] 4,aX k [ψ n] 4,aX i [str h] 9,aX g [str c] 9,aX e [π .i64 m] 3] w'/\abr fu h m q o n c=θ R) (λ⟨q,o,n,c⟩=>q) (fu,u,z,t) (by exact⟨a6.kp,X⟩) ?_);rintro⟨_|q,o,n,c⟩ a4 G ⟨C,a⟩
 ·exact absurd (show ι=θ _ from a) aA2
 rw[adu,abp]at a;refine ce (sr (sX C 4 g 0 _ 9 _ Τ Τ aD aD (sX C 3 i 0 _ 9 _ Τ Τ aD aD (gi a λb4 a=>kS 292 #[] [str c,str h] _ ent292 aD aD (U5 c h a4 b4 (hG.hp C hS)) ?_))));rintro _ a3 ⟨rfl,K⟩;have B:=C.call K;clear K;refine wp 1 (nq (cs (sr (wp 2 (nq (cd a (λa9 a=> ?_) (λa9 a=> ?_)))))));refine Hm (Hn (jc aD (Jb (Hl (ql ?_)))));obtain rfl:=oi a;exact⟨(o,n,c),_,Τ,by kernel_rfl,B.kp,Τ⟩;refine ck (qn (sr (sX B 4 g 0 _ 9 _ Τ Τ aD aD (wp 1 (sX B 5 e 0 _ 3 _ Τ Τ aD aD (gi a λb3 a=>qF _ m aD aD b3 (gi a λb2 a=> ?_)))))));refine wN c .i64 _ underlying9 aD aD b2 (wp 1 (nq (cs (sr (wp 2 (bi a λp W a=> ?_))))));have N:=((B.front 2 _ Τ).front 2 _ Τ).front 2 _ Τ;refine Wb f _ _ aD aD (U _ o n a3 (Hp.JR (L1:=[gX f 0 d,aX l _ 4,aX k _ 4]) (L2:=(kc i h g c e m)) N) p W) ?_;rintro _ a2 ⟨rfl,J⟩;have y:Hp w (eR [gX f 0 d,aX l [ψ u] 4,aX k [ψ z] 4,aX i [str h] 9,aX g [str t] 9,aX e [π .i64 m] 3]) [gX f p.1 d,aX l [ψ p.2.1] 4,aX k [ψ p.2.2] 4,aX i [str h] 9,aX g [str c] 9,aX e [π .i64 m] 3] a2:=Hp.cM (L1:=[gX f 0 d,aX l [ψ o] 4,aX k [ψ n] 4]) (L2:=(kc i h g c e m)) N J;clear J;by_cases E:p.1=0;replace a:=UK E a;rw[E]at y;rw[show decide (p.1=0)=μ from(aH E)];refine wp 1 (nq (XG aD (ck (qn (cr (sX y 4 g 0 _ 9 _ Τ Τ aD aD (wp 1 (sX y 3 i 0 _ 9 _ Τ Τ aD aD ?_))))))));refine wp 1 (gi a λb1 a=>qF _ _ aD aD b1 (gi a λb0 a=>nZ c .i64 _ underlying9 aD aD b0 (Py y 4 g 0 _ 9 (str (List.drop (Α ((Lib.index c h)+γ h)) c)) _ Τ (bU (aY _) (aK Τ)) aD aD Τ aD Τ λc1 Y=>wl (bn (ql ?_)))));exact⟨(q,p.2.1,p.2.2,List.drop _ c),_,Τ,by kernel_rfl,⟨Y.kp,a⟩,aY _⟩;replace a:=UL E a;rw[show decide (p.1=0)=ν from(aG E)];refine wp 1 (nq (sU aD (ct (st (uO (Vf (uO (Vf ?_))))))));obtain rfl:=oi a;obtain rfl:=oi F;refine JB Τ ?_;exact⟨oM,(Hp.front (Hp.front (Hp.front (Hp.front (Hp.front y 5 _ Τ) 5 _ Τ) 5 _ Τ) 5 _ Τ) 5 _ Τ).kp⟩;rintro j a1 G ⟨M,rfl⟩;refine cr (wp 1 (sX M 4 g 0 _ 9 _ Τ Τ aD aD (bi F λs V F=> ?_)));have L:=((M.front 2 _ Τ).front 2 _ Τ).front 2 _ Τ;refine Wb f _ _ aD aD (U j.2.2 j.1 j.2.1 a1 (Hp.JR (L1:=[gX f 0 d,aX l _ 4,aX k _ 4]) (L2:=(kc i h g j.2.2 e m)) L) s V) ?_;rintro _ a0 ⟨rfl,I⟩;have H:Hp w (eR [gX f 0 d,aX l [ψ u] 4,aX k [ψ z] 4,aX i [str h] 9,aX g [str t] 9,aX e [π .i64 m] 3]) [gX f s.1 d,aX l [ψ s.2.1] 4,aX k [ψ s.2.2] 4,aX i [str h] 9,aX g [str j.2.2] 9,aX e [π .i64 m] 3] a0:=Hp.cM (L1:=[gX f 0 d,aX l [ψ j.1] 4,aX k [ψ j.2.1] 4]) (L2:=(kc i h g j.2.2 e m)) L I;clear I;by_cases D:s.1=0;replace F:=UK D F;rw[D]at H;rw[show decide (s.1=0)=μ from(aH D)];refine wl ?_;obtain rfl:=oi F;refine zM Τ ?_;exact⟨oM,(Hp.front (Hp.front (Hp.front (Hp.front (Hp.front H 5 _ Τ) 5 _ Τ) 5 _ Τ) 5 _ Τ) 5 _ Τ).kp⟩;replace F:=UL D F;rw[show decide (s.1=0)=ν from(aG D)];refine wl ?_;obtain rfl:=oi F;refine zM Τ ?_;exact⟨oM,(Hp.front (Hp.front (Hp.front (Hp.front (Hp.front H 5 _ Τ) 5 _ Τ) 5 _ Τ) 5 _ Τ) 5 _ Τ).kp⟩
theorem Bq(q:apd fu h=θ u)(R:Gl w):CR prog 159 [str h] w λv w'=>v=(ψ u)/\Hp w [] [] w':=by
 have hH:=Hp.refl w;refine fc func159 Τ Τ (aK Τ) ?_;unfold apd at q;refine sr (eX hH [ψ ν] 4 (λb=>υ (cW b)) Τ Τ aD λz w2 b6=>nq (cs (bi q λv8 K q=>nL b6 [0,2,14] [(14,(ψ v8))] ?_ ?_)));refine cr (wp 3 (wd K (λh9 K=> ?_) (λh9 K=> ?_)));refine wp 4 (wl (ql ?_));obtain rfl:=oi K;exact je b6.kp;refine wp 4 (wl (ql ?_));obtain rfl:=oi K;exact je b6.kp;intro h3 G W;refine cb q (λf1 q=> ?_) (λf1 q=> ?_);refine sr (Py W 0 z 0 _ 4 (ψ ν) _ Τ (bU (aY _) (aK Τ)) aD aD Τ aD Τ λh2 V=>nq (ct (st ?_)));obtain rfl:=oi q;refine m_fin0 _ [ψ ν] (ψ ν) Τ Τ (lD (Xa V 0 z 4 _ Τ aD aD) xT) Τ ?_;exact⟨oM,V.kp⟩;refine ck (qn (sr (eX W [ψ ν] 4 (λb=>υ (cW b)) Τ Τ aD λi h1 c9=>Py c9 0 i 0 _ 4 (ψ ν) _ Τ (bU (aY _) (aK Τ)) aD aD Τ aD Τ λh0 U=>nq (cs (cs ?_)))));refine cr (wp 1 (bi q λl c7 q=>kS 236 #[] [str h,str [46]] _ ent236 aD aD (tJ c7 (R.dI U)) ?_));rintro _ e9 ⟨J,I,H,rfl,T⟩
 have c8:Hp w [] [aX J [str l.1] 9,aX I [str l.2.1] 9,aX H [π .i64 l.2.2] 3,aX i [ψ ν] 4,aX z [ψ ν] 4] e9:=Hp.cM (L1:=[]) (L2:=[aX i [ψ ν] 4,aX z [ψ ν] 4]) U T;clear T;refine nq (ce (Gc c8 341 [υ (cW J),υ (cW I),υ (cW H)] aD ent341 λA s k c4 a5 a4 a3 a2 b9=>bi q λg Y q=> ?_));have n:=(((((b9.front 4 _ Τ).front 4 _ Τ).front 4 _ Τ).front 6 _ Τ).front 6 _ Τ).front 5 _ Τ;have e6:∀f b1 (t:η) (w_:φ),Hp c4 (eR [gX s 0 k,aX i [ψ ν] 4,aX z [ψ ν] 4,aX J [str l.1] 9,aX I [str l.2.1] 9,aX H [π .i64 l.2.2] 3]) [gX s 0 k,aX i [ψ b1] 4,aX z [ψ t] 4] w_->∀(X:(Nat×η×η)),wu fu f b1 t=θ X->YR prog s [str f] w_ λv e7=>v=ψ (decide (X.1=0))/\Hp w_ (eR [gX s 0 k,aX i [ψ b1] 4,aX z [ψ t] 4]) [gX s X.1 k,aX i [ψ X.2.1] 4,aX z [ψ X.2.2] 4] e7:=by
  intro f b1 t c3 y X B;have O:=Hp.cM n y;have d0:=R;replace R:=R.dI O;have a6:=Hp.lM O d0 (λ_ r=>absurd r aA2) 3 Τ;unfold wu at B;refine AR (Hp.hand (L2:=[]) (by simpa using y)) 0 Τ a5 a4 a3 a2 Τ ?_;have hH:=Hp.hand (L2:=[]) (by simpa using y);clear O y;refine cr (wp 1 (wl (GA hH 0 Τ λg9 p=>ce (cs (bi B λc6 c B=>nL p [2,3,4,38] [(38,(ψ c6))] ?_ ?_)))));refine cr (wp 3 (wd c (λd9 c=> ?_) (λd9 c=> ?_)));refine wp 17 (wl (ql ?_));obtain rfl:=oi c;exact je p.kp;refine wp 4 (wd c (λd8 c=> ?_) (λd8 c=> ?_));refine wp 12 (wl (ql ?_));obtain rfl:=oi c;exact je p.kp;refine wp 1 (gy 26 (gi c λe5 c=>oB f .i64 _ underlying9 aD aD e5 (gy 26 (Zn (Υ f 0) 45 aD aD (wp 1 (wd c (λd7 c=> ?_) (λd7 c=> ?_)))))));refine wp 7 (wl (ql ?_));obtain rfl:=oi c;exact je p.kp;refine wp 3 (gy 31 (gi c λe4 c=>XI (γ f) _ aD aD e4 (gy 31 (gi c λe3 c=>oB f .i64 _ underlying9 aD aD e3 (gy 31 (Zn (Υ f (γ f-1)) 45 aD aD (wp 1 ?_)))))));refine wl (ql ?_);obtain rfl:=oi c;exact je p.kp;intro g8 G N;refine cb B (λd6 B=> ?_) (λd6 B=> ?_);refine sr (Py N 2 z 0 _ 4 (ψ ν) _ Τ (bU (aY _) (aK Τ)) aD aD Τ aD Τ λg7 b8=>nq (ct (st (uO ?_))));obtain rfl:=oi B;refine NJ b8 0 Τ λg6 b7=> ?_;exact⟨aD1,b7.kp⟩;refine ck (qn (sr (wp 3 (nq (ce (AJ (σ:=Nat×Int×η) [2,3,4,40,41] (λ⟨j,e,m⟩=>[(41,(π .i64 e))]) (λ⟨j,e,m⟩ w'=>Hp c3 (eR [gX s 0 k,aX i [ψ b1] 4,aX z _ 4]) [DL s k,aX i [ψ m] 4,aX z [ψ t] 4] w'/\xb fu f t j e m=θ X) (λ⟨j,e,m⟩=>j) (fu,(0:Int),b1) (by exact⟨N.kp,B⟩) ?_))))));rintro⟨_|j,e,m⟩ g5 G ⟨x,a⟩
  ·exact absurd (show ι=θ _ from a) aA2
  rw[anm,agw]at a;refine sr (wp 1 (nq (cs (cd a (λd5 a=> ?_) (λd5 a=> ?_)))));refine ck (qn (cs (ce (sr (wp 2 (nq (cs ?_)))))));refine cr (wp 2 (gi a λe2 a=>oB f .i64 e underlying9 aD aD e2 (wp 1 (nq (cs (bi a λc5 d a=>nL x [2,3,4,6,40,41,58] [(58,(ψ c5))] ?_ ?_))))));refine cr (wp 1 (bi d λf3 a1 d=>wc ent237 x (yF a1 (R.hp x a6)) λg4 F=>wp 1 (wb d (λd4 d=> ?_) (λd4 d=> ?_))));refine wp 1 (gy 50 (bi d λf2 a0 d=>wc fi F (bgz a0 (R.hp F a6)) λg3 M=>wp 2 (wb d (λd3 d=> ?_) (λd3 d=> ?_))));refine wp 1 (gy 55 (HZ (Υ f e) 45 aD aD (wp 1 (wl (ql ?_)))));obtain rfl:=oi d;exact je M.kp;refine wp 3 (wl (ql ?_));obtain rfl:=oi d;exact je M.kp;refine wp 8 (wl (ql ?_));obtain rfl:=oi d;exact je F.kp;intro g2 G o;refine cb a (λd2 a=> ?_) (λd2 a=> ?_);refine sr (Py o 2 z 0 _ 4 (ψ ν) _ Τ (bU (aY _) (aK Τ)) aD aD Τ aD Τ λg1 b5=>nq (ct (st (uO (st (Vf ?_))))));refine uO (uO ?_);obtain rfl:=oi a;refine NJ b5 0 Τ λg0 b4=> ?_;exact⟨aD1,b4.kp⟩;refine ck (qn (cr (sX o 1 i 0 _ 4 _ Τ Τ aD aD (wb a (λd1 a=> ?_) (λd1 a=> ?_)))));refine wp 4 (Py o 1 i 0 _ 4 (ψ μ) _ Τ (bU (aY _) (aK Τ)) aD aD Τ aD Τ λf9 b3=>wl (bn (qn (cr (gi a λe1 a=>qF e _ aD aD e1 (wp 1 (wl ?_)))))));refine ql ?_;exact⟨(j,e+1,μ),_,Τ,by kernel_rfl,⟨b3.kp,a⟩,aY _⟩;refine wp 1 (gy 60 (bi a λS Z a=>wc fi o (bgz Z (R.hp o a6)) λf8 b2=>wp 2 (Py b2 1 i 0 _ 4 (ψ (!S)) _ Τ (bU (aY _) (aK Τ)) aD aD Τ aD Τ λf7 b0=>wl (bn (qn (cr ?_))))));refine gi a λe0 a=>qF e _ aD aD e0 (wp 1 (wl (ql ?_)));exact⟨(j,e+1,(!S)),_,Τ,by kernel_rfl,⟨b0.kp,a⟩,aY _⟩;refine Hm (Hn (Jb (Hl (bn ?_))));obtain rfl:=oi a;refine Ko x 0 Τ λf6 a9=> ?_;exact⟨aD1,a9.kp⟩
 refine CR.mono (asm s k i z J I H Y (R.dI n) (n.hand) (n.lM R (λ_ r=>absurd r aA2) 6 Τ) e6) ?_;rintro _ c2 ⟨rfl,L⟩;have a8:Hp w [] [aX i [ψ g.1] 4,aX z [ψ g.2.1] 4,aX J [str l.1] 9,aX I [str g.2.2.1] 9,aX H [π .i64 l.2.2] 3,gX s g.2.2.2 k,gk A] c2:=Hp.cM (L1:=[gX s 0 k,aX i [ψ ν] 4,aX z [ψ ν] 4,aX J [str l.1] 9,aX I [str l.2.1] 9,aX H [π .i64 l.2.2] 3]) (L2:=[gk A]) n L;clear L;refine⟨g.2.2.2,[aX i _ 4,aX z _ 4,aX J _ 9,aX I _ 9,aX H _ 3,gk A],(a8.front 5 _ Τ),?_⟩;intro f5 E;by_cases Q:g.2.2.2=0;replace q:=UK Q q;refine rg0 Q (bn (qn (sr (sX E 0 i 0 _ 4 _ Τ Τ aD aD (Py E 1 z 0 _ 4 (ψ g.1) _ Τ (bU (aY _) (aK Τ)) aD aD Τ aD Τ λf4 a7=>nq (ct ?_))))));obtain rfl:=oi q;refine JK a7 5 A Τ _ [ψ g.1] (ψ g.1) Τ Τ (λc1 D=>lD (Xa D 1 z 4 _ Τ aD aD) xT) Τ λc1 D=> ?_;exact⟨oM,D.kp⟩;replace q:=UL Q q;by_cases P:g.2.2.2=1;replace q:=UK P q;refine rg1 P (ct (uO (st ?_)));obtain rfl:=oi q;refine JK E 5 A Τ _ _ (ψ g.2.1) Τ Τ (λc0 C=>lD (Xa C 1 z 4 _ Τ aD aD) xT) Τ λc0 C=> ?_;exact⟨oM,C.kp⟩;replace q:=UL P q;exact absurd q aA2
noncomputable def Dv(fu:Nat):=kl func159 ⟨[.s'],[.r' (.b')],λx=>.one (apd fu x)⟩ (KY (λx=>[str x]) (λy=>.bool y) λw S x y b a=>Bq a b.1)
noncomputable def akx(fu:Nat):=kf fu func81 [wq fu,Af fu,xI fu,Dv fu] [.s'] [.r' (.s'),.r' (.b')] (λx=>XO fu x) (Φ (.s' (.j' [.s' 21 (.b')] [0,2,3,8] .n' .n') .n'))
theorem ent35:Go.Wk.Enters prog 35:=⟨Tryz.f35,_,func35,Τ,by kernel_rfl⟩
theorem ent79:Go.Wk.Enters prog 79:=⟨Tryz.f79,_,func79,Τ,by kernel_rfl⟩
theorem ent80:Go.Wk.Enters prog 80:=⟨Tryz.f80,_,func80,Τ,by kernel_rfl⟩
theorem ent81:Go.Wk.Enters prog 81:=⟨Tryz.f81,_,func81,Τ,by kernel_rfl⟩
theorem Fb{r:aC×η}(d:XO fu h=θ r)(f:Gl w):CR prog 81 [str h] w λv c=>v=.tuple #[str r.1,.bool r.2]/\Hp w [] [] c:=
 WA (x:=h) (y:=r) (akx fu).ok (λx=>[str x]) (λr=>.tuple #[str r.1,.bool r.2]) ⟨f,λb e=>by cases e⟩ d
theorem azj{r:(aC×Int×η)}(c:afp fu h=θ r)(q:Gl w):CR prog 28 [str h] w λv w'=>v=(Value.tuple #[str r.1,π .i64 r.2.1,ψ r.2.2])/\Hp w [] [] w':=by refine enter func28 Τ Τ (aK Τ) ?_;unfold afp at c;refine sr (wp 3 (nq (sr (wp 1 (gi c λQ c=>kS 79 #[] [str h,bt 58] _ ent79 aD aD (mP h 58 w Q) ?_)))));rintro _ M ⟨rfl,m⟩;have k:=(Hp.refl w).call m;clear m;refine wp 1 (nq (cs (sr (wp 2 (nq (cd c (λN c=> ?_) (λN c=> ?_)))))));refine sr (wp 3 (nq (ct (st ?_))));obtain rfl:=oi c;exact rv k.kp;refine ck (qn (sr (wp 2 (gi c λP c=>qF _ _ aD aD P (gi c λO c=>nZ h .i64 _ underlying9 aD aD O (wp 1 ?_))))));refine nq (sr (wp 1 (gi c λD c=>kS 80 #[] [str (List.drop (Α ((fP _ h)+1)) h)] _ ent80 aD aD (ou _ M D (q.dI k)) ?_)));rintro _ H ⟨E,rfl,i⟩;have e:=k.call i;clear i;refine wp 5 (nq (cs (bi c λp b c=>nL e [0,2,3,4,5,7,39] [(39,(ψ p))] ?_ ?_)));refine cr (wp 1 (w_ifnn (lq (List.drop (Α ((fP (·==58) h)+1)) h)) 206 E aD aD (wb b (λz b=> ?_) (λz b=> ?_))));refine wp 13 (wl (ql ?_));obtain rfl:=oi b;exact je e.kp;refine wp 3 (wd b (λy b=> ?_) (λy b=> ?_));refine wp 9 (wl (ql ?_));obtain rfl:=oi b;exact je e.kp;refine wp 3 (wd b (λx b=> ?_) (λx b=> ?_));refine wp 5 (wl (ql ?_));obtain rfl:=oi b;exact je e.kp;refine wp 1 (gy 34 (gi b λC b=>kS 35 #[] [π .i64 (Rn (List.drop _ h))] _ ent35 aD aD (NC _ H C (q.dI e)) ?_));rintro _ L ⟨rfl,a⟩;have n:=e.call a;clear a;refine wp 3 (wl (ql ?_));obtain rfl:=oi b;exact je n.kp;intro K G g;refine cb c (λu c=> ?_) (λu c=> ?_);refine sr (wp 3 (nq (ct (st ?_))));obtain rfl:=oi c;exact rv g.kp;refine ck (qn (sr (wp 2 (gi c λB c=>wN h .i64 _ underlying9 aD aD B (bi c λF l c=>wc ent81 g (Fb l (q.dI g)) λJ f=>wp 5 ?_)))));refine nq (cs (bi c λo d c=>nL f [2,3,4,7,9,55] [(55,(ψ o))] ?_ ?_));refine cr (wp 2 (wb d (λt d=> ?_) (λt d=> ?_)));refine wp 6 (wl (ql ?_));obtain rfl:=oi d;exact je f.kp;refine wp 3 (gy 49 (gi d λA d=>wN h .i64 _ underlying9 aD aD A (wp 2 (wl (ql ?_)))));obtain rfl:=oi d;exact je f.kp;intro I G j;refine cb c (λs c=> ?_) (λs c=> ?_);refine sr (wp 3 (nq (ct (st ?_))));obtain rfl:=oi c;exact rv j.kp;refine ck (qn (sr (wp 5 (nq (ct ?_)))));obtain rfl:=oi c;exact rv j.kp
noncomputable def pZ(fu:Nat):=kl func28 ⟨[.s'],[.r' (.s'),.r' (.i' .i64),.r' (.b')],λx=>.one (afp fu x)⟩ (KY (λx=>[str x]) (λy=>.tuple #[str y.1,.int .i64 y.2.1,.bool y.2.2]) λw S x y b a=>azj a b.1)
section
variable(fu:Nat)
noncomputable def bel:=kf fu func239 [ajr,aqn fu,bgd fu] [.c',.i' .i64] [.r' (.b')] (λx=>ape fu x.1 x.2) (Φ (.s' (.j' [.s' 15 (.b')] [0,2,6] .n' .n') (.j' [.s' 4 (.b')] [0,1,2,6,14] .n' .n')))
noncomputable def bcz:=kf fu func240 [bcy fu] [.s',.i' .i64] [.r' (.c'),.r' (.b')] (λx=>amy fu x.1 x.2) (Φ (.s' (.j' [.s' 20 (.b')] [0,1,2,4,5] .n' .n') (Φ (Φ (.j' [.s' 5 (.b')] [0,1,2,3,4,5,8,9] .n' .n')))))
noncomputable def bem:=kf fu func241 [] [.c'] [.r' (.b')] (λx=>aur fu x) (Φ (.j' [.s' 2 (.b')] [0,1,2,6,10] .n' .n'))
noncomputable def axy:=kf fu func161 [bel fu,bcz fu,bem fu] [.p' 99 (.pr (.w' .s') Χ),.i' .i64,.i' .i64] [.r' Χ,.r' (.b')] (λx=>afs fu x.1 x.2.1 x.2.2) (Φ (.r' [] [] (Φ (.l' [.s' 8 Χ] (Φ (.s' (Φ (Φ (.s' (.j' [.s' 46 (.b')] [0,1,2] .n' .n') .n'))) .n')))) .n'))
noncomputable def uZ:=kf fu func242 [bcz fu] [.s'] [.r' (.s'),.r' Χ,.r' (.c')] (λx=>ayy fu x) (Φ (Φ (.r' [.s' 5 (.l' 5 1 .c')] [] (Φ (.l' [.s' 5 (.l' 5 1 .c'),.s' 6 Χ] .n')) .n')))
noncomputable def ben:=kf fu func162 [uZ fu] [.s'] [.r' (.s')] (λx=>aku fu x) (.n')
noncomputable def air:=kf fu func88 [awj] [.w' .s',.i' .i64,.s'] [.r' Χ] (λx=>Zt fu x.1 x.2.1 x.2.2) (.n')
noncomputable def ajz:=kf fu func89 [] [.p' 99 (.pr (.w' .s') Χ)] [.r' (.b')] (λx=>adj fu x) (.n')
noncomputable def xa:=kf fu func86 [ajz fu] [.p' 99 (.pr (.w' .s') Χ),.c'] [.r' (.b')] (λx=>Ho fu x.1 x.2) (Φ (.j' [.s' 4 (.b')] [] .n' .n'))
noncomputable def axs:=kf fu func124 [] [.s'] [.r' Χ,.r' (.c')] (λx=>ank fu x) (Φ (.s' (.j' [.s' 13 (.b')] [0,2,3] .n' .n') (Φ (.r' [.s' 4 Χ] [] (Φ (.l' [.s' 4 Χ,.s' 16 Χ] (Φ (Φ (.s' (Φ (.s' (.j' [.s' 28 (.b')] [0,1,2,3,4] .n' .n') .n')) .n'))))) .n'))))
noncomputable def bhs:=kf fu func84 [akx fu,ajr,xa fu,air fu,ajz fu,axs fu,axy fu,ben fu] [.p' 99 (.pr (.w' .s') Χ),.p' 56 (.pr .s' (.pr .s' (.pr .s' (.pr Χ (.pr dL dL)))))] [.r' Χ,.r' (.c'),.o' 0 99 (.pr (.w' .s') Χ),.o' 1 56 (.pr .s' (.pr .s' (.pr .s' (.pr Χ (.pr dL dL)))))] (λx=>alq fu x.1 x.2) (Φ (.r' [.o' 0 1 Χ,.o' 1 1 (.s')] [] .n' (Φ (Φ (.j' [.s' 11 Χ] [] .n' (Φ (Φ (Φ (.s' (Φ (.s' (Φ (Φ (Φ (.j' [.s' 15 (.c')] [] (.j' [.s' 167 (.b')] [0,1,2] .n' .n') .n')))) .n')) (.s' (.j' [.s' 192 (.b')] [0,2,3,8] .n' .n') .n'))))))))))
noncomputable def bgf:=kf fu func85 [xa fu,air fu,pY] [.p' 99 (.pr (.w' .s') Χ),.p' 56 (.pr .s' (.pr .s' (.pr .s' (.pr Χ (.pr dL dL)))))] [.r' Χ,.r' (.c'),.o' 0 99 (.pr (.w' .s') Χ),.o' 1 56 (.pr .s' (.pr .s' (.pr .s' (.pr Χ (.pr dL dL)))))] (λx=>aki fu x.1 x.2) (Φ (Φ (Φ (Φ (Φ (.j' [.s' 8 (.l' 5 1 .c'),.o' 0 1 Χ] [] .n' (.r' [.s' 8 (.l' 5 1 .c'),.o' 0 1 Χ] [] (.l' [.s' 8 (.l' 5 1 .c'),.o' 0 1 Χ] (Φ (.r' [.s' 8 (.l' 5 1 .c')] [] (Φ (.j' [.s' 58 (.b')] [] (.j' [.s' 58 (.b')] [0,1,2,6] .n' .n') (Φ (.j' [.s' 79 (.b')] [0,1,2,6,10,14] .n' .n')))) .n'))) .n')))))))
noncomputable def axx:=kf fu func247 [] [.pr .s' (.pr .s' .b'),.p' 9 .s'] [.r' (.b')] (λx=>auq fu x.1 x.2) (.n')
noncomputable def ard:=kf fu func312 [axx fu] [.r' qS,.f' 247 (.p' 9 .s')] [.r' Χ] (λx=>aeu fu x.1 x.2) (Φ (.r' [] [] (Φ (.l' [.s' 8 Χ] .n')) .n'))
noncomputable def api:=kf fu func246 [axx fu,ard fu] [.r' qS,.f' 247 (.p' 9 .s')] [.r' (.b')] (λx=>aea fu x.1 x.2) (.n')
noncomputable def bbh:=kf fu func169 [api fu,axx fu] [.r' qS,.s'] [.r' (.b')] (λx=>apf fu x.1 x.2) (.n')
noncomputable def pL:=kf fu func164 [bbh fu] [.r' qS,.s'] [.r' (.c')] (λx=>arc fu x.1 x.2) (.n')
noncomputable def bht:=kf fu func87 [ajr,wq fu,axy fu,ben fu,pL fu] [.p' 99 (.pr (.w' .s') Χ),.l' 108 40 qS,.i' .i64,.i' .i64] [.r' dL,.r' Χ,.r' (.c'),.o' 0 99 (.pr (.w' .s') Χ)] (λx=>aib fu x.1 x.2.1 x.2.2.1 x.2.2.2) (Φ (Φ (Φ (Φ (.j' [.s' 13 Χ] [] .n' (Φ (Φ (Φ (Φ (.r' [.o' 0 1 Χ,.o' 16 1 (.s')] [] (Φ (.s' (Φ (Φ (.s' (.j' [.s' 94 (.b')] [0,2,4,5,6] .n' .n') .n'))) .n')) .n'))))))))))
noncomputable def uY:=kf fu func245 [] [.s'] [.r' (.b')] (λx=>asj fu x) (.n')
noncomputable def ban:=kf fu func168 [uY fu] [.s',.s'] [.r' Χ] (λx=>aod fu x.1 x.2) (.n')
noncomputable def apt:=kf fu func167 [ban fu] [.pr .s' (.pr .s' .b'),.pr .s' (.pr .s' .b')] [.r' Χ] (λx=>asl fu x.1 x.2) (.n')
noncomputable def aeq:=kf fu func310 [apt fu] [.l' 108 40 qS,.i' .i64,.i' .i64,.f' 167 .u'] [.w' 0 dL] (λx=>aan fu x.1 x.2.1 x.2.2.1) (Φ (.l' [.w' 0 dL,.s' 8 Χ] (Φ (.j' [.w' 0 dL] [] (Φ (.l' [.w' 0 dL,.s' 9 Χ] (.s' (.j' [.s' 34 (.b')] [] .n' .n') .n'))) .n'))))
noncomputable def age:=kf fu func244 [apt fu,aeq fu] [.l' 108 40 qS,.i' .i64,.f' 167 .u'] [.w' 0 dL] (λx=>acd fu x.1 x.2.1) (Φ (Φ (.j' [.w' 0 dL,.s' 7 Χ] [] (.l' [.w' 0 dL,.s' 7 Χ,.s' 8 Χ] .n') (Φ (.l' [.w' 0 dL,.s' 6 Χ] (.s' (Φ (.z' .n')) .n'))))))
noncomputable def ane:=kf fu func166 [apt fu,age fu] [.l' 108 40 qS,.f' 167 .u'] [.w' 0 dL] (λx=>abf fu x.1) (.n')
noncomputable def bgc:=kf fu func90 [DY,ane fu,apt fu] [.r' qS] [.r' dL] (λx=>ahr fu x) (.n')
noncomputable def avu:=kf fu func29 [ajr,wq fu,bhs fu,bgf fu,xa fu,bht fu,air fu,ajz fu,bgc fu] [.s'] [.r' (.pr .s' (.pr .s' (.pr .s' (.pr Χ (.pr dL dL))))),.r' Χ,.r' (.c')] (λx=>aiz fu x) (Φ (Φ (Φ (Φ (Φ (Φ (Φ (Φ (.j' [.s' 8 Χ,.s' 9 (.c'),.s' 10 (.s'),.o' 27 0 (.s'),.o' 27 1 Χ,.o' 7 0 (.s'),.o' 7 1 (.s'),.o' 7 2 (.s'),.o' 7 3 Χ,.o' 7 4 dL,.o' 7 5 dL] [] (Φ (.j' [.s' 35 (.b')] [] .n' .n')) (.j' [.s' 8 Χ,.s' 9 (.c'),.o' 6 0 (.s'),.o' 6 1 Χ,.o' 7 4 dL] [] (.l' [.s' 8 Χ,.s' 9 (.c'),.o' 6 0 (.s'),.o' 6 1 Χ,.o' 7 4 dL] (.s' (.j' [.s' 55 (.b')] [0,1,2] .n' .n') .n')) (.j' [.s' 8 Χ,.s' 9 (.c'),.o' 6 0 (.s'),.o' 6 1 Χ,.o' 7 5 dL] [] (.l' [.s' 8 Χ,.s' 9 (.c'),.o' 6 0 (.s'),.o' 6 1 Χ,.o' 7 5 dL] (.s' (.j' [.s' 88 (.b')] [0,1,2] .n' .n') .n')) .n')))))))))))
noncomputable def bbq:=kf fu func30 [] [.pr .s' (.pr .s' (.pr Χ (.pr .s' (.pr (.r' (.pr .s' .s')) (.r' .c')))))] [.r' (.b')] (λx=>aif fu x) (Φ (.j' [.s' 2 (.b')] [0,2,3,8] .n' .n'))
noncomputable def Gs:=kf fu func31 [] [.s'] [.r' (.b')] (λx=>tA fu x) (Φ (.j' [] [] (Φ (.l' [.s' 8 Χ] (Φ (Φ (.s' (Φ (Φ (.j' [.s' 5 (.b')] [0,1,2,6,14] .n' (.j' [.s' 41 (.b')] [0,1,2,10] .n' (.z' .n'))))) .n'))))) .n'))
noncomputable def bcx:=kf fu func209 [] [.c'] [.r' (.b')] (λx=>asc fu x) (Φ (.r' [] [] (.s' (.j' [.s' 3 (.b')] [0,1,2,6] .n' (Φ (.j' [.s' 3 (.b')] [0,1,2,6] .n' .n'))) .n') .n'))
noncomputable def apm:=kf fu func208 [bcx fu] [.s',.i' .i64,.f' 209 .u'] [.r' Χ] (λx=>agd fu x.1 x.2.1) (Φ (Φ (.j' [.s' 1 Χ] [] (.l' [.s' 1 Χ] (.s' (.j' [.s' 22 (.b')] [0,1,3,4] .n' .n') .n')) .n')))
noncomputable def azp:=kf fu func139 [apm fu,bcx fu] [.s',.i' .i64] [.r' Χ] (λx=>ajq fu x.1 x.2) (.n')
noncomputable def baa:=kf fu func91 [azp fu] [.s'] [.r' (.b')] (λx=>zw fu x) (Φ (.j' [.s' 2 (.b')] [0,1,2,9] .n' .n'))
noncomputable def awl:=kf fu func252 [] [.c'] [.r' (.c')] (λx=>ajl fu x) (Φ (.s' (.j' [.s' 8 (.b')] [0,1,2] .n' .n') .n'))
noncomputable def xG:=kf fu func251 [] [.c'] [.r' (.s')] (λx=>aul fu x) (.n')
noncomputable def agi:=kf fu func94 [awl fu] [.s',.f' 252 .u'] [.r' (.s')] (λx=>acu fu x.1) (Φ (Φ (.j' [.w' 5 (.y')] [] (Φ (.l' [.w' 5 (.y'),.s' 12 Χ] .n')) .n')))
noncomputable def aps:=kf fu func95 [] [.c'] [.r' (.c')] (λx=>ayq fu x) (Φ (.s' (.j' [.s' 8 (.b')] [0,1,2] .n' .n') .n'))
noncomputable def bga:=kf fu func253 [aps fu,awl fu] [.c',.p' 4 .b'] [.r' (.c'),.o' 0 4 .b'] (λx=>awd fu x.1 x.2) (.n')
noncomputable def ahd:=kf fu func94 [bga fu] [.s',.f' 253 (.p' 4 .b')] [.r' (.s'),.o' 0 4 .b'] (λx=>adg fu x.1 x.2) (Φ (Φ (.j' [.w' 5 (.y'),.o' 1 0 (.b')] [] (Φ (.l' [.w' 5 (.y'),.s' 12 Χ,.o' 1 0 (.b')] .n')) .n')))
noncomputable def axw:=kf fu func174 [baa fu,agi fu,ahd fu,xG fu,awl fu,bga fu] [.s'] [.r' (.s'),.r' (.c')] (λx=>zz fu x) (Φ (.s' (.j' [.s' 16 (.b')] [0,2,3] .n' .n') (.r' [] [] .n' (Φ (.r' [] [] (Φ (.l' [.s' 30 Χ] .n')) .n')))))
noncomputable def mZ:=kf fu func99 [axw fu] [.s'] [.r' (.f' 175 (.pr (.p' 30 .c') (.p' 9 .s')))] (λx=>ly fu x) (.n')
noncomputable def axr:=kf fu func175 [axw fu] [.pr .s' .s',.p' 30 .c',.p' 9 .s'] [.r' (.b')] (λx=>agv fu x.1 x.2.1 x.2.2) (Φ (Φ (.j' [.s' 4 (.b')] [1,2,6,11] .n' .n')))
noncomputable def aqm:=kf fu func98 [axr fu] [.r' (.pr .s' .s'),.f' 175 (.pr (.p' 30 .c') (.p' 9 .s'))] [.r' Χ] (λx=>xd fu x.1 x.2.1 x.2.2) (Φ (.r' [] [] (Φ (.l' [.s' 8 Χ] .n')) .n'))
noncomputable def sE:=kf fu func52 [aqm fu,mZ fu,axr fu] [.pr .s' (.pr .s' (.pr Χ (.pr .s' (.pr (.r' (.pr .s' .s')) (.r' .c'))))),.s'] [.r' (.s'),.r' (.b')] (λx=>bih fu x.1 x.2) (Φ (Φ (.s' (Φ (.z' .n')) .n')))
noncomputable def bab:=kf fu func125 [Gr] [.s'] [.r' (.s')] (λx=>aqg fu x) (.n')
noncomputable def Du:=kf fu func53 [axs fu,bab fu] [.s'] [.r' Χ,.r' (.c')] (λx=>pR fu x) (.n')
noncomputable def Gu:=kf fu func11 [sE fu,Du fu] [.pr .s' (.pr .s' (.pr Χ (.pr .s' (.pr (.r' (.pr .s' .s')) (.r' .c')))))] [.r' Χ,.r' (.c')] (λx=>tD fu x) (Φ (Φ (.s' (Φ (.z' .n')) (Φ (.s' (Φ (.z' .n')) (.s' (Φ (.z' .n')) .n'))))))
noncomputable def Dh:=kf fu func58 [sE fu] [.s',.p' 25 (.pr .s' (.pr .s' (.pr Χ (.pr .s' (.pr (.r' (.pr .s' .s')) (.r' .c'))))))] [.r' (.s')] (λx=>ata fu x.1 x.2) (.n')
noncomputable def awk:=kf fu func210 [] [.c'] [.r' (.b')] (λx=>ams fu x) (Φ (.j' [.s' 2 (.b')] [0,1,2,6] .n' .n'))
noncomputable def bam:=kf fu func208 [awk fu] [.s',.i' .i64,.f' 210 .u'] [.r' Χ] (λx=>ajp fu x.1 x.2.1) (Φ (Φ (.j' [.s' 1 Χ] [] (.l' [.s' 1 Χ] (.s' (.j' [.s' 22 (.b')] [0,1,3,4] .n' .n') .n')) .n')))
noncomputable def axt:=kf fu func140 [apm fu,bam fu,awk fu] [.s',.i' .i64] [.r' Χ] (λx=>anl fu x.1 x.2) (.n')
noncomputable def xF:=kf fu func129 [axs fu,axt fu,awj] [.s'] [.r' Χ,.r' (.s'),.r' (.c')] (λx=>bgv fu x) (Φ (Φ (.s' (Φ (.z' .n')) .n')))
noncomputable def My:=kf fu func59 [baa fu,bab fu,xF fu] [.s'] [.r' Χ,.r' (.s'),.r' (.c')] (λx=>wF fu x) (Φ (Φ (.s' (Φ (.z' .n')) (.s' (Φ (.z' .n')) .n'))))
noncomputable def aiq:=kf fu func56 [Ae] [.p' 72 (.pr .z' (.l' 5 1 .c')),.s'] [.r' Χ,.r' (.o' 2),.o' 0 72 (.pr .z' (.l' 5 1 .c'))] (λx=>AN fu x.1 x.2) (.n')
noncomputable def ark:=kf fu func57 [Ae] [.p' 72 (.pr .z' (.l' 5 1 .c')),.c'] [.r' (.o' 2),.o' 0 72 (.pr .z' (.l' 5 1 .c'))] (λx=>ado fu x.1 x.2) (.n')
noncomputable def Di:=kf fu func55 [aiq fu,ark fu] [.s',.p' 72 (.pr .z' (.l' 5 1 .c'))] [.o' 0 72 (.pr .z' (.l' 5 1 .c'))] (λx=>alc fu x.1 x.2) (.n')
noncomputable def agp:=kf fu func216 [axt fu] [.p' 99 (.pr (.w' .s') Χ)] [.o' 0 99 (.pr (.w' .s') Χ)] (λx=>mb fu x) (.n')
noncomputable def qC:=kf fu func332 [] [.c'] [.r' (.b')] (λx=>aoa fu x) (Φ (.j' [.s' 2 (.b')] [0,1,2,6] .n' .n'))
noncomputable def qD:=kf fu func248 [] [.c'] [.r' (.b')] (λx=>aob fu x) (Φ (.j' [.s' 2 (.b')] [0,1,2,6,10] .n' .n'))
noncomputable def bbf:=kf fu func294 [qD fu,qC fu] [.s',.i' .i64] [.r' (.s'),.r' Χ,.r' (.c')] (λx=>apa fu x.1 x.2) (Φ (.s' (.j' [.s' 17 (.b')] [0,1,2] .n' .n') (.s' (.j' [.s' 27 (.b')] [0,1,3,4] .n' .n') (Φ (Φ (Φ (.r' [.s' 7 (.l' 5 1 .c'),.s' 8 Χ] [] (.l' [.s' 7 (.l' 5 1 .c'),.s' 8 Χ] .n') .n')))))))
noncomputable def bca:=kf fu func276 [xa fu,agp fu,bbf fu] [.p' 99 (.pr (.w' .s') Χ),.p' 129 (.pr .s' (.pr (.pr .s' (.pr .s' (.pr .s' (.pr Χ (.pr dL dL))))) dL))] [.r' Χ,.r' (.c'),.o' 0 99 (.pr (.w' .s') Χ),.o' 1 129 (.pr .s' (.pr (.pr .s' (.pr .s' (.pr .s' (.pr Χ (.pr dL dL))))) dL))] (λx=>ahl fu x.1 x.2) (.n')
noncomputable def axz:=kf fu func293 [azp fu] [.p' 99 (.pr (.w' .s') Χ)] [.r' (.s'),.o' 0 99 (.pr (.w' .s') Χ)] (λx=>aft fu x) (.n')
noncomputable def bda:=kf fu func277 [xa fu,agp fu,pD,axz fu] [.p' 99 (.pr (.w' .s') Χ),.p' 129 (.pr .s' (.pr (.pr .s' (.pr .s' (.pr .s' (.pr Χ (.pr dL dL))))) dL))] [.r' Χ,.r' (.c'),.o' 0 99 (.pr (.w' .s') Χ),.o' 1 129 (.pr .s' (.pr (.pr .s' (.pr .s' (.pr .s' (.pr Χ (.pr dL dL))))) dL))] (λx=>adw fu x.1 x.2) (Φ (Φ (.r' [.s' 6 (.l' 9 16 .s'),.o' 0 0 (.s'),.o' 0 1 Χ] [] (.l' [.s' 6 (.l' 9 16 .s'),.o' 0 0 (.s'),.o' 0 1 Χ] .n') .n')))
noncomputable def bge:=kf fu func278 [avu fu,xa fu,air fu] [.p' 99 (.pr (.w' .s') Χ),.p' 129 (.pr .s' (.pr (.pr .s' (.pr .s' (.pr .s' (.pr Χ (.pr dL dL))))) dL))] [.r' Χ,.r' (.c'),.o' 0 99 (.pr (.w' .s') Χ),.o' 1 129 (.pr .s' (.pr (.pr .s' (.pr .s' (.pr .s' (.pr Χ (.pr dL dL))))) dL))] (λx=>ahk fu x.1 x.2) (Φ (Φ (.r' [.s' 6 Χ,.s' 7 Χ,.s' 8 Χ] [] .n' .n')))
noncomputable def bgg:=kf fu func217 [akx fu,wq fu,xa fu,air fu,agp fu,axz fu,bbf fu] [.p' 99 (.pr (.w' .s') Χ)] [.r' qS,.r' Χ,.r' (.c'),.o' 0 99 (.pr (.w' .s') Χ)] (λx=>akj fu x) (.n')
noncomputable def bgh:=kf fu func143 [xa fu,ajz fu,pL fu,agp fu,bgg fu] [.s'] [.r' dL,.r' Χ,.r' (.c')] (λx=>awg fu x) (Φ (Φ (Φ (.l' [.s' 6 dL,.o' 5 0 (.s'),.o' 5 1 Χ] (Φ (Φ (Φ (Φ (Φ (Φ (Φ (.j' [.s' 9 Χ,.s' 10 (.c')] [] .n' .n'))))))))))))
noncomputable def bhu:=kf fu func200 [xa fu,bgh fu,bcw,agp fu,bca fu,bda fu,bge fu] [.s'] [.r' (.pr .s' (.pr (.pr .s' (.pr .s' (.pr .s' (.pr Χ (.pr dL dL))))) dL)),.r' Χ,.r' (.c')] (λx=>alr fu x) (Φ (Φ (Φ (Φ (Φ (Φ (.j' [.s' 7 Χ,.s' 8 (.c'),.o' 16 0 (.s'),.o' 16 1 Χ,.o' 6 0 (.s'),.o' 6 1 (.s'),.o' 6 2 (.s'),.o' 6 3 (.s'),.o' 6 4 Χ,.o' 6 5 dL,.o' 6 6 dL,.o' 6 7 dL] [] .n' (.j' [.s' 7 Χ,.s' 8 (.c'),.o' 5 0 (.s'),.o' 5 1 Χ,.o' 6 0 (.s'),.o' 6 1 (.s'),.o' 6 2 (.s'),.o' 6 3 (.s'),.o' 6 4 Χ,.o' 6 5 dL,.o' 6 6 dL,.o' 6 7 dL] [] .n' (.j' [.s' 7 Χ,.s' 8 (.c'),.o' 6 7 dL] [] .n' .n')))))))))
noncomputable def bgb:=kf fu func130 [bab fu,bhu fu] [.s'] [.r' (.pr .s' (.pr (.pr .s' (.pr .s' (.pr .s' (.pr Χ (.pr dL dL))))) dL)),.r' (.c')] (λx=>aqw fu x) (.n')
noncomputable def bfk:=kf fu func105 [wq fu] [.r' qS,.s'] [.r' (.s'),.r' (.b')] (λx=>bcm fu x.1 x.2) (Φ (Φ (.r' [] [] (Φ (.l' [.s' 12 Χ] .n')) .n')))
noncomputable def Rb:=kf fu func60 [bfk fu,bgb fu] [.s'] [.r' (.s')] (λx=>oV fu x) (.n')
noncomputable def Dt:=kf fu func259 [] [.s'] [.r' Χ] (λx=>ays fu x) (Φ (.r' [] [] (Φ (.l' [.s' 4 Χ] .n')) .n'))
noncomputable def Mv:=kf fu func181 [Dt fu] [.s'] [.r' (.b')] (λx=>aqh fu x) (Φ (.r' [] [] .n' (Φ (.j' [.s' 2 (.b')] [0,1,2,6] .n' .n'))))
noncomputable def Mw:=kf fu func106 [axw fu,Mv fu] [.s'] [.r' (.b')] (λx=>bck fu x) (Φ (Φ (.j' [.s' 2 (.b')] [0,1,2,6] .n' .n')))
noncomputable def Mr:=kf fu func320 [axt fu,rR] [.s',.i' .i64,.i' .i64] [.r' (.pr Χ .s')] (λx=>ayp fu x.1 x.2.1 x.2.2) (.n')
noncomputable def Ms:=kf fu func260 [ajr,awk fu,bbf fu,Mr fu] [.s',.c'] [.r' (.l' 202 24 (.pr Χ .s')),.r' Χ,.r' (.c')] (λx=>bcj fu x.1 x.2) (Φ (.s' (.j' [.s' 27 (.b')] [0,2,6,10] .n' .n') (Φ (Φ (.r' [.s' 7 (.l' 202 24 (.pr Χ .s')),.s' 8 Χ] [] (Φ (.l' [.s' 7 (.l' 202 24 (.pr Χ .s')),.s' 8 Χ,.s' 9 Χ] .n')) .n')))))
noncomputable def Mx:=kf fu func182 [Ms fu] [.s'] [.r' (.l' 9 16 .s'),.r' (.c')] (λx=>bcl fu x) (Φ (Φ (Φ (Φ (.r' [.s' 7 (.l' 9 16 .s')] [] (Φ (.l' [.s' 7 (.l' 9 16 .s'),.s' 21 Χ] .n')) .n')))))
noncomputable def uX:=kf fu func107 [Mx fu] [.s'] [.r' (.l' 9 16 .s')] (λx=>asa fu x) (.n')
noncomputable def avi:=kf fu func39 [mZ fu,Mw fu,uX fu,axr fu] [.pr .s' (.pr .s' (.pr Χ (.pr .s' (.pr (.r' (.pr .s' .s')) (.r' .c'))))),.s'] [.r' (.l' 9 16 .s')] (λx=>ju fu x.1 x.2) (Φ (Φ (Φ (.j' [.s' 7 (.l' 9 16 .s')] [] (Φ (.l' [.s' 7 (.l' 9 16 .s'),.s' 17 Χ] .n')) .n'))))
end
theorem ent131:Go.Wk.Enters prog 131:=⟨Tryz.f131,_,func131,Τ,by kernel_rfl⟩
theorem ent132:Go.Wk.Enters prog 132:=⟨Tryz.f132,_,func132,Τ,by kernel_rfl⟩
theorem ent201:Go.Wk.Enters prog 201:=⟨Tryz.f201,_,func201,Τ,by kernel_rfl⟩
theorem fm:Go.Wk.Enters prog 202:=⟨Tryz.f202,_,func202,Τ,by kernel_rfl⟩
theorem ent203:Go.Wk.Enters prog 203:=⟨Tryz.f203,_,func203,Τ,by kernel_rfl⟩
theorem ent279:Go.Wk.Enters prog 279:=⟨Tryz.f279,_,func279,Τ,by kernel_rfl⟩
theorem lW:Go.Wk.Enters prog 329:=⟨Tryz.f329,_,func329,Τ,by kernel_rfl⟩
theorem ent348:Go.Wk.Enters prog 348:=⟨Tryz.f348,_,func348,Τ,by kernel_rfl⟩
variable{c:δ ζ}
theorem Zz(z:ε Ζ)(F:Nat)(n:Nat)(B:yA fu c=θ h)(hG:Gl w)(H:F=γ c)(s:Rd w z (Η eB c))(W:F<=n):CR prog 132 [ξ z F n] w λv w'=>v=(str h)/\Hp w [] [] w':=by
 subst H;have hH:Hp w [] [] w:=Hp.refl w;refine enter (k:=28) func132 Τ Τ (aK Τ) ?_;unfold yA at B;refine sr (wp 1 (nq (sr (wp 2 (gi B λg1 B=>We (2:Int) (γ c:Int) aD aD g1 ?_)))));refine gi B λg2 B=>MQ (f:=eB) hH 5 1 1 .i64 .i64 ((2:Int)*(γ c:Int)) underlying23 aB0 aA1 aD aD g2 λo3 a4 C w6 V=>wp 1 (nq (bi B λM N B=>cut (σ:=(δ ζ)×(ε Nat)×(ε Ζ)×Nat) [2,3] (λ⟨l,E,y,i⟩=>[(3,(ξ y (γ l) i))]) (λ⟨l,E,y,i⟩ w'=>Hp w [] [bN eB 5 1 E y i l] w'/\l=M) ?_ ?_));refine sr (wp 3 (nq (ce (AJ (σ:=Nat×(δ ζ)×Int×(ε Nat)×(ε Ζ)×Nat) [2,3,10,11,12] (λ⟨e,d,a,q,o,g⟩=>[(3,(ξ o (γ d) g)),(12,(π .i64 a))]) (λ⟨e,d,a,q,o,g⟩ w'=>Hp w [] [bN eB 5 1 q o g d] w'/\bai fu c e d a=θ M) (λ⟨e,d,a,q,o,g⟩=>e) (fu,([]:δ ζ),(0:Int),o3,a4,C) (by exact⟨V.kp,N⟩) ?_ (mc aD (mc (dB (b:=(ξ a4 0 C)) aD (Je (by(try simp only[bD])<;>first|rfl|omega|(simp only[bD]at*;omega)|simp))) (mc aD (mc aD (mc aD Τ)))))))));rintro⟨_|e,d,a,q,o,g⟩ Z G ⟨j,r⟩
 ·exact absurd (show ι=θ _ from r) aA2
 rw[Ew,bdu]at r;refine sr (wp 1 (nq (cs (cd r (λO r=> ?_) (λO r=> ?_)))));refine ck (qn (cs (ce (sr (gi r λU r=>Pw z (γ c) n 5 1 .i64 a underlying23 aD aD aD c Τ U (s.hp j) Bw aA1 (gi r λT r=>jG z eB c 1 a Bw (s.hp j) (bt (Υ c a)) T aA1 aD aD aD ?_))))));refine wp 1 (nq (gi r λS r=>gi r λR r=>cdr 8 j (vA (nR (sZ (vA (sZ Ca))))) λX J=>rp 6 [0,1] (rt 2 (bt (mO (Υ c a) (4:Int))) Τ Τ (dA Τ (by intro w I;exact(HR .u64 (Υ c a) (4:Int) aD aD aA1))) (rt 3 (bt (Υ ((XS):aC) ((mO (Υ c a) (4:Int)).toNat:Int))) Τ Τ (dA Τ (by intro w I;exact(vp ((XS):aC) .u8 ((mO (Υ c a) (4:Int)).toNat:Int) underlying9 aD aD S))) (rp 3 [4] ?_)))));refine rt 5 (bt ((Υ c a)&&&(15:ζ))) Τ Τ (dA Τ (by intro w I;exact(YV (Υ c a) (15:ζ) aD aD))) (rt 6 (bt (Υ ((XS):aC) (((Υ c a)&&&(15:ζ)).toNat:Int))) Τ Τ (dA Τ (by intro w I;exact(vp ((XS):aC) .u8 (((Υ c a)&&&(15:ζ)).toNat:Int) underlying9 aD aD R))) (ro 7 Τ (eX J [bt (Υ ((XS):aC) ((mO (Υ c a) (4:Int)).toNat:Int)),bt (Υ ((XS):aC) (((Υ c a)&&&(15:ζ)).toNat:Int))] 5 (λb=>ξ (cW b) 2 2) Τ Τ aD λx Y u=>wl (VW (by exact trivial) (By aD (gi r λQ r=>GF u 1 q o (cW x) g 2 5 1 1 d _ Bw Τ underlying23 aB0 aA1 aA1 aD (dB (b:=(ξ (cW x) 2 2)) aD (Je aA6)) (u.gP 0 Τ) Q λA D p L m=> ?_))))));replace m:Hp w [] [aX x [bt (Υ ((XS):aC) ((mO (Υ c a) (4:Int)).toNat:Int)),bt (Υ ((XS):aC) (((Υ c a)&&&(15:ζ)).toNat:Int))] 5,bN eB 5 1 A D p (d++([Υ ((XS):aC) ((mO (Υ c a) (4:Int)).toNat:Int),Υ ((XS):aC) (((Υ c a)&&&(15:ζ)).toNat:Int)]:δ ζ))] L:=m;refine wp 1 (wl (bn (qn (cr (gi r λP r=>qF a _ aD aD P (wp 1 (wl (ql ?_))))))));exact⟨(e,d++([Υ ((XS):aC) ((mO (Υ c a) (4:Int)).toNat:Int),Υ ((XS):aC) (((Υ c a)&&&(15:ζ)).toNat:Int)]:δ ζ),a+1,A,D,p),_,Τ,by kernel_rfl,⟨(Hp.front m 1 _ Τ).kp,r⟩,aY _⟩;refine Hm (Hn (Jb (Hl (ql ?_))));obtain rfl:=oi r;exact⟨(d,q,o,g),_,Τ,by kernel_rfl,j.kp,Τ⟩;rintro⟨l,E,y,i⟩ K G ⟨t,rfl⟩;refine sr (wp 1 (dY (v:=(str l)) (w':=K) Τ Τ (Vw l y (γ l) i 5 (Rd.bytes (t.cP 0 Τ)) aA6 underlying23 underlying9 underlying5 aD) (wp 1 (nq (ct ?_)))));obtain rfl:=oi B;exact rv t.kp
variable{i k:Int}
theorem bec(c:aoz fu m i=θ k)(f:Gl w):CR prog 348 [π .u32 m,π .i64 i] w λv w'=>v=(π .u32 k)/\Hp w [] [] w':=by refine enter func348 Τ Τ (aK Τ) ?_;unfold aoz at c;refine sr (wp 1 (nq (sr (wp 1 (Wg .u64 .i64 i underlying3 underlying177 aD (MT .u64 (ο .u64 i) 31 aD aD ?_))))));refine wp 1 (nq (sr (wp 2 (gi c λe c=>w_shl .u32 .u64 m _ ((2^(min _ _)):Int) aD aD e (NZ _) (wp 2 (w_sub .u64 32 (fM .u64 (ο .u64 i) 31) aD aD ?_))))));refine gi c λd c=>AX .u32 .u64 m _ ((2^(min _ _)):Int) aD aD d (NZ _) (JC _) (w_or .u32 (ο .u32 (m*((2^(min (Α (fM .u64 (ο .u64 i) 31)) (IntKind.bits .u32)):Nat):Int))) (m/((2^(min (Α (ο .u64 (32-(fM .u64 (ο .u64 i) 31)))) (IntKind.bits .u32)):Nat):Int)) aD aD (wp 1 (nq (ct ?_))));obtain rfl:=oi c;exact rv (Hp.refl w).kp
theorem lu(c:XL fu m i=θ k)(g:Gl w):CR prog 329 [π .u32 m,π .i64 i] w λv w'=>v=(π .u32 k)/\Hp w [] [] w':=by have f:=Hp.refl w;refine enter func329 Τ Τ (aK Τ) ?_;unfold XL at c;refine sr (wp 1 (nq (sr (wp 2 (w_neg .i64 i aD (bi c λh d c=> ?_))))));refine wc ent348 f (bec d (g.dI f)) λa e=>wp 1 (nq (ct ?_));obtain rfl:=oi c;exact rv e.kp
theorem Fa{p:δ Int}{r:δ Int}(hr:bfo fu p c=θ r)(X:Gl w):CR prog 279 [Κ (cK .u32 8 p).toArray,Κ (dM 64 c).toArray] w λv w'=>v=(Κ (cK .u32 8 r).toArray)/\Hp w [] [] w':=by
 refine enter func279 Τ Τ (aK Τ) ?_;unfold bfo at hr;refine sr (eX (Hp.refl w) (cK .u32 8 p) 135 (λb=>υ (cW b)) Τ Τ aD λQ w2 l2=>eX l2 (dM 64 c) 137 (λb=>υ (cW b)) Τ Τ aD λU w5 l1=>eX l1 (cK .u32 8 (ω 8 0)) 135 (λb=>υ (cW b)) Τ Τ aD λW w8 l0=>nq (sr (eX l0 (cK .u32 64 (ω 64 0)) 278 (λb=>υ (cW b)) Τ Τ aD λs o2 e0=> ?_)));refine nq (bi hr λb5 d0 hr=>cut (σ:=(δ Int)) [2,4,5] (λt=>[]) (λt w'=>Hp w [] [aX s (cK .u32 64 t) 278,aX W (cK .u32 8 (ω 8 0)) 135,aX Q (cK .u32 8 p) 135] w'/\t=b5) ?_ ?_);refine sr (wp 1 (nq (ce (AJ (σ:=Nat×Int×_) [2,3,4,5,22] (λ⟨F,e,g⟩=>[(22,(π .i64 e))]) (λ⟨F,e,g⟩ w'=>Hp w [] [aX s (cK .u32 64 g) 278,aX W (cK .u32 8 (ω 8 0)) 135,aX U (dM 64 c) 137,aX Q (cK .u32 8 p) 135] w'/\asi fu c F e g=θ b5) (λ⟨F,e,g⟩=>F) (fu,0,ω 64 0) (by exact⟨e0.kp,d0⟩) ?_))));rintro⟨_|F,e,g⟩ o1 G ⟨V,d⟩
 ·exact absurd (show ι=θ _ from d) aA2
 rw[tH,awz]at d;refine sr (wp 1 (nq (cs (cd d (λe4 d=> ?_) (λe4 d=> ?_)))));refine ck (qn (cs (ce (sr (wp 2 (nq (cs ?_)))))));refine sr (wp 2 (nq (cd d (λe3 d=> ?_) (λe3 d=> ?_))));refine cs (gi d λk9 d=>gi d λk8 d=>gi d λk7 d=>gi d λk6 d=>gi d λk5 d=>gi d λk4 d=>gi d λk3 d=>gi d λk2 d=>gi d λk1 d=> ?_);refine gi d λk0 d=>gi d λj9 d=>gi d λj8 d=>gi d λj7 d=>gi d λj6 d=>gi d λj5 d=>Pz 30 (λC B o=>cE _ (λw'=>w'.heap[U]? =θ (.cells (dM 64 c).toArray 137 (0,0))) C B o/\cE [5,6,14,22,29,30,31] (λw'=>w'.heap[U]? =θ (.cells (dM 64 c).toArray 137 (0,0))) C B o/\cE [11,12,13,14,22,29,30,31] (λw'=>w'.heap[U]? =θ (.cells (dM 64 c).toArray 137 (0,0))) C B o/\cE [12,13,14,22,29,30,31] (λw'=>w'.heap[U]? =θ (.cells (dM 64 c).toArray 137 (0,0))) C B o/\cE [19,20,21,22,29,30,31] (λw'=>w'.heap[U]? =θ (.cells (dM 64 c).toArray 137 (0,0))) C B o/\cE [20,21,22,29,30,31] (λw'=>w'.heap[U]? =θ (.cells (dM 64 c).toArray 137 (0,0))) C B o/\cE [27,28,29,30,31] (λw'=>w'.heap[U]? =θ (.cells (dM 64 c).toArray 137 (0,0))) C B o/\cE [28,29,30,31] (λw'=>w'.heap[U]? =θ (.cells (dM 64 c).toArray 137 (0,0))) C B o/\True) _ (λ_ _=>⟨cE.same,cE.same,cE.same,cE.same,cE.same,cE.same,cE.same,cE.same,trivial⟩) aD aD V Τ (nR (nR (vA (nR (sZ (vA (sZ Ca))))))) λo0 D=>rp 28 [0,1] (rt 2 _ Τ Τ (dA Τ (by intro w i;exact(tV _ e aD aD k9))) (gU [μ,μ,μ,μ,ν,ν,ν,ν,ν,ν,ν,ν,ν,ν,ν,ν,ν,ν,ν,ν,ν,ν,ν,ν,ν,ν,ν,ν,ν,ν,ν,ν] 3 30 _ [4,5,6,14,22,29,30,31] (λ_ _ _ h=>h.1) _ Τ Τ aD aD aD aD aD Τ (dA Τ (by intro w i;exact(Rm ⟨U,0,ι⟩ 64 5 1 .i64 _ underlying137 aD aD aD k8 aA1))) (by exact D.bP 2 Τ) ?_));refine gU _ 4 31 _ _ (λ_ _ _ h=>h.2.1) _ Τ Τ aD aD aD aD aD Τ (dA Τ (by intro w i;exact(Vy U 0 64 _ [] [] c 137 _ i aD aD k7 aD aD))) (by exact D.bP 2 Τ) (rt 5 (π .u32 ((Υ c (4*e)).toNat:Int)) Τ Τ (dA Τ (by intro w i;exact(lh .u32 .u8 ((Υ c (4*e)).toNat:Int) underlying5 underlying134 aD (bhd _)))) (rt 6 (π .u32 (ο .u32 (((Υ c _).toNat)*16777216))) Τ Τ (dA Τ (by intro w i;exact(Ji .u32 .u64 ((Υ c (4*e)).toNat:Int) 24 16777216 aD aD aA1 aA1))) (rp 22 [7] (rt 8 _ Τ Τ (dA Τ (by intro w i;exact(tV _ e aD aD k6))) (rt 9 _ Τ Τ (dA Τ (by intro w i;exact(lH _ _ aD aD k5))) (gU _ 10 37 _ _ (λ_ _ _ h=>h.2.2.1) _ Τ Τ aD aD aD aD aD Τ (dA Τ (by intro w i;exact(Rm ⟨U,0,ι⟩ 64 5 1 .i64 _ underlying137 aD aD aD k4 aA1))) (by exact D.bP 2 Τ) (gU _ 11 38 _ _ (λ_ _ _ h=>h.2.2.2.1) _ Τ Τ aD aD aD aD aD Τ (dA Τ (by intro w i;exact(Vy U 0 64 _ [] [] c 137 _ i aD aD k3 aD aD))) (by exact D.bP 2 Τ) (rt 12 (π .u32 ((Υ c ((4*e)+1)).toNat:Int)) Τ Τ (dA Τ (by intro w i;exact(lh .u32 .u8 ((Υ c ((4*e)+1)).toNat:Int) underlying5 underlying134 aD (bhd _)))) (rt 13 (π .u32 (ο .u32 (((Υ c _).toNat)*65536))) Τ Τ (dA Τ (by intro w i;exact(Ji .u32 .u64 ((Υ c ((4*e)+1)).toNat:Int) 16 65536 aD aD aA1 aA1))) ?_)))))))));refine rt 14 (π .u32 (Pv .u32 (ο .u32 (((Υ c _).toNat)*16777216)) (ο .u32 (((Υ c _).toNat)*65536)))) Τ Τ (dA Τ (by intro w i;exact(QY .u32 (ο .u32 (((Υ c (4*e)).toNat:Int)*16777216)) (ο .u32 (((Υ c ((4*e)+1)).toNat:Int)*65536)) aD aD))) (rp 14 [15] (rt 16 _ Τ Τ (dA Τ (by intro w i;exact(tV _ e aD aD k2))) (rt 17 _ Τ Τ (dA Τ (by intro w i;exact(lH _ 2 aD aD k1))) (gU _ 18 45 _ _ (λ_ _ _ h=>h.2.2.2.2.1) _ Τ Τ aD aD aD aD aD Τ (dA Τ (by intro w i;exact(Rm ⟨U,0,ι⟩ 64 5 1 .i64 _ underlying137 aD aD aD k0 aA1))) (by exact D.bP 2 Τ) (gU _ 19 46 _ _ (λ_ _ _ h=>h.2.2.2.2.2.1) _ Τ Τ aD aD aD aD aD Τ (dA Τ (by intro w i;exact(Vy U 0 64 _ [] [] c 137 _ i aD aD j9 aD aD))) (by exact D.bP 2 Τ) (rt 20 (π .u32 ((Υ c ((4*e)+2)).toNat:Int)) Τ Τ (dA Τ (by intro w i;exact(lh .u32 .u8 ((Υ c ((4*e)+2)).toNat:Int) underlying5 underlying134 aD (bhd _)))) (rt 21 (π .u32 (ο .u32 (((Υ c _).toNat)*256))) Τ Τ (dA Τ (by intro w i;exact(Ji .u32 .u64 ((Υ c ((4*e)+2)).toNat:Int) 8 256 aD aD aA1 aA1))) (rt 22 (π .u32 (Pv .u32 (Pv .u32 (ο .u32 (((Υ c _).toNat)*16777216)) (ο .u32 (((Υ c _).toNat)*65536))) (ο .u32 (((Υ c _).toNat)*256)))) Τ Τ (dA Τ (by intro w i;exact(QY .u32 (Pv .u32 (ο .u32 (((Υ c (4*e)).toNat:Int)*16777216)) (ο .u32 (((Υ c ((4*e)+1)).toNat:Int)*65536))) (ο .u32 (((Υ c ((4*e)+2)).toNat:Int)*256)) aD aD))) (rp 6 [23] ?_)))))))));refine rt 24 _ Τ Τ (dA Τ (by intro w i;exact(tV 4 e aD aD j8))) (rt 25 _ Τ Τ (dA Τ (by intro w i;exact(lH _ 3 aD aD j7))) (gU _ 26 53 _ _ (λ_ _ _ h=>h.2.2.2.2.2.2.1) _ Τ Τ aD aD aD aD aD Τ (dA Τ (by intro w i;exact(Rm ⟨U,0,ι⟩ 64 5 1 .i64 _ underlying137 aD aD aD j6 aA1))) (by exact D.bP 2 Τ) (gU _ 27 54 _ _ (λ_ _ _ h=>h.2.2.2.2.2.2.2.1) _ Τ Τ aD aD aD aD aD Τ (dA Τ (by intro w i;exact(Vy U 0 64 _ [] [] c 137 _ i aD aD j5 aD aD))) (by exact D.bP 2 Τ) (rt 28 (π .u32 ((Υ c ((4*e)+3)).toNat:Int)) Τ Τ (dA Τ (by intro w i;exact(lh .u32 .u8 ((Υ c ((4*e)+3)).toNat:Int) underlying5 underlying134 aD (bhd _)))) (rt 29 (π .u32 (Pv .u32 (Pv .u32 (Pv .u32 (ο .u32 (((Υ c _).toNat)*16777216)) (ο .u32 (((Υ c _).toNat)*65536))) (ο .u32 (((Υ c _).toNat)*256))) ((Υ c _).toNat))) Τ Τ (dA Τ (by intro w i;exact(QY .u32 (Pv .u32 (Pv .u32 (ο .u32 (((Υ c (4*e)).toNat:Int)*16777216)) (ο .u32 (((Υ c ((4*e)+1)).toNat:Int)*65536))) (ο .u32 (((Υ c ((4*e)+2)).toNat:Int)*256))) ((Υ c ((4*e)+3)).toNat:Int) aD aD))) (By aD (gi d λj4 d=>oA ⟨s,0,ι⟩ 64 134 1 .i64 e underlying278 aD aD aD j4 aA1 (gi d λj3 d=> ?_))))))));refine HU D 0 s 0 64 _ [] [] .u32 g 278 e (Pv .u32 (Pv .u32 (Pv .u32 (ο .u32 (((Υ c (4*e)).toNat:Int)*16777216)) (ο .u32 (((Υ c ((4*e)+1)).toNat:Int)*65536))) (ο .u32 (((Υ c ((4*e)+2)).toNat:Int)*256))) ((Υ c ((4*e)+3)).toNat:Int)) [aX s (cK .u32 64 (Gm 64 g e (Pv .u32 (Pv .u32 (Pv .u32 (ο .u32 (((Υ c (4*e)).toNat:Int)*16777216)) (ο .u32 (((Υ c ((4*e)+1)).toNat:Int)*65536))) (ο .u32 (((Υ c ((4*e)+2)).toNat:Int)*256))) ((Υ c ((4*e)+3)).toNat:Int)))) 278,aX W (cK .u32 8 (ω 8 0)) 135,aX U (dM 64 c) 137,aX Q (cK .u32 8 p) 135] Τ aD aD j3 aD aD aD aD λn9 d9=>nq (Hm (Hn (Hl (qn (cr (gi d λj2 d=>qF e _ aD aD j2 ?_))))));refine wp 1 (wl (ql ?_));exact⟨(F,e+1,Gm 64 g e _),_,Τ,by kernel_rfl,⟨d9.kp,d⟩,aY _⟩;refine ck (qn (cs (gi d λj1 d=>gi d λj0 d=>gi d λi9 d=>gi d λi8 d=>gi d λi7 d=>gi d λi6 d=>Pz 9 (λC B o=>cE [3,8,9] (λw'=>w'.heap[s]? =θ (.cells (cK .u32 64 g).toArray 278 (0,0))) C B o/\cE [8,9] (λw'=>w'.heap[s]? =θ (.cells (cK .u32 64 g).toArray 278 (0,0))) C B o/\cE [7,9] (λw'=>w'.heap[s]? =θ (.cells (cK .u32 64 g).toArray 278 (0,0))) C B o/\cE [9] (λw'=>w'.heap[s]? =θ (.cells (cK .u32 64 g).toArray 278 (0,0))) C B o/\True) _ (λ_ _=>⟨cE.same,cE.same,cE.same,cE.same,trivial⟩) aD aD V Τ (nR (vA (nR (sZ (vA (sZ Ca)))))) λn8 H=> ?_)));refine rp 8 [0] (rt 1 _ Τ Τ (dA Τ (by intro w i;exact(lj e 2 aD aD j1))) (gU _ 2 60 _ _ (λ_ _ _ h=>h.1) _ Τ Τ aD aD aD aD aD Τ (dA Τ (by intro w i;exact(Rm ⟨s,0,ι⟩ 64 134 1 .i64 _ underlying278 aD aD aD j0 aA1))) (by exact H.bP 0 Τ) (gU _ 3 61 _ _ (λ_ _ _ h=>h.2.1) _ Τ Τ aD aD aD aD aD Τ (dA Τ (by intro w i;exact(QF s 0 64 _ [] [] .u32 g 278 _ i aD aD i9 aD aD))) (by exact H.bP 0 Τ) (rp 4 [4] (rt 5 _ Τ Τ (dA Τ (by intro w i;exact(lj e _ aD aD i8))) (gU _ 6 64 _ _ (λ_ _ _ h=>h.2.2.1) _ Τ Τ aD aD aD aD aD Τ (dA Τ (by intro w i;exact(Rm ⟨s,0,ι⟩ 64 134 1 .i64 _ underlying278 aD aD aD i7 aA1))) (by exact H.bP 0 Τ) (gU _ 7 65 _ [9] (λ_ _ _ h=>h.2.2.2.1) _ Τ Τ aD aD aD aD aD Τ (dA Τ (by intro w i;exact(QF s 0 64 _ [] [] .u32 g 278 _ i aD aD i6 aD aD))) (by exact H.bP 0 Τ) (rp 0 [8] (By aD ?_)))))))));refine wp 1 (nq (sr (wp 1 (bi d λN c7 d=>wc lW H (lu c7 (X.dI H)) λn7 b0=>wp 1 (bi d λM c6 d=> ?_)))));refine wc lW b0 (lu c6 (X.dI b0)) λn6 a9=>vL .u32 N M aD aD (wp 1 (AX .u32 .u64 (el g (e-2)) 10 1024 aD aD aA1 aA1 aA1 (vL .u32 (cU .u32 N M) ((el g (e-2))/1024) aD aD (wp 1 (nq (sr ?_))))));refine wp 1 (bi d λT c5 d=>wc lW a9 (lu c5 (X.dI a9)) λn5 a8=>wp 1 (bi d λS c4 d=>wc lW a8 (lu c4 (X.dI a8)) λn4 d8=>vL .u32 T S aD aD (wp 1 (AX .u32 .u64 (el g (e-15)) 3 8 aD aD aA1 aA1 aA1 (vL .u32 (cU .u32 T S) ((el g (e-15))/8) aD aD ?_)))));refine wp 1 (nq (gi d λi5 d=>gi d λi4 d=>gi d λi3 d=>gi d λi2 d=>gi d λi1 d=>gi d λi0 d=>Pz 14 (λC B o=>cE [5,6,8,13,14,15] (λw'=>w'.heap[s]? =θ (.cells (cK .u32 64 g).toArray 278 (0,0))) C B o/\cE [6,8,13,14,15] (λw'=>w'.heap[s]? =θ (.cells (cK .u32 64 g).toArray 278 (0,0))) C B o/\cE [12,13,14,15] (λw'=>w'.heap[s]? =θ (.cells (cK .u32 64 g).toArray 278 (0,0))) C B o/\cE [13,14,15] (λw'=>w'.heap[s]? =θ (.cells (cK .u32 64 g).toArray 278 (0,0))) C B o/\True) _ (λ_ _=>⟨cE.same,cE.same,cE.same,cE.same,trivial⟩) aD aD d8 Τ (vA (nR (sZ (vA (sZ Ca))))) λn3 P=> ?_));refine rp 11 [0,1,2] (rt 3 _ Τ Τ (dA Τ (by intro w i;exact(lj e 7 aD aD i5))) (gU [μ,μ,μ,μ,μ,ν,ν,ν,ν,ν,ν,ν,ν,ν,ν,ν] 4 86 _ _ (λ_ _ _ h=>h.1) _ Τ Τ aD aD aD aD aD Τ (dA Τ (by intro w i;exact(Rm ⟨s,0,ι⟩ 64 134 1 .i64 _ underlying278 aD aD aD i4 aA1))) (by exact P.bP 0 Τ) (gU [μ,μ,μ,μ,μ,μ,ν,ν,ν,ν,ν,ν,ν,ν,ν,ν] 5 87 _ _ (λ_ _ _ h=>h.2.1) _ Τ Τ aD aD aD aD aD Τ (dA Τ (by intro w i;exact(QF s 0 64 _ [] [] .u32 g 278 _ i aD aD i3 aD aD))) (by exact P.bP 0 Τ) (rt 6 (π .u32 (ο .u32 ((cU .u32 _ ((el g _)/1024))+(el g _)))) Τ Τ (dA Τ (by intro w i;exact(vK .u32 (cU .u32 (cU .u32 N M) ((el g (e-2))/1024)) (el g (e-7)) aD aD))) (rp 6 [7] (rt 8 (π .u32 (ο .u32 ((ο .u32 ((cU .u32 _ ((el g _)/1024))+(el g _)))+(cU .u32 _ ((el g _)/8))))) Τ Τ (dA Τ (by intro w i;exact(vK .u32 (ο .u32 ((cU .u32 (cU .u32 N M) ((el g (e-2))/1024))+(el g (e-7)))) (cU .u32 (cU .u32 T S) ((el g (e-15))/8)) aD aD))) (rp 4 [9] (rt 10 _ Τ Τ (dA Τ (by intro w i;exact(lj e _ aD aD i2))) (gU (Zz27) 11 93 _ _ (λ_ _ _ h=>h.2.2.1) _ Τ Τ aD aD aD aD aD Τ (dA Τ (by intro w i;exact(Rm ⟨s,0,ι⟩ 64 134 1 .i64 _ underlying278 aD aD aD i1 aA1))) (by exact P.bP 0 Τ) ?_)))))))));refine gU _ 12 94 _ _ (λ_ _ _ h=>h.2.2.2.1) _ Τ Τ aD aD aD aD aD Τ (dA Τ (by intro w i;exact(QF s 0 64 _ [] [] .u32 g 278 _ i aD aD i0 aD aD))) (by exact P.bP 0 Τ) (rt 13 (π .u32 (ο .u32 ((ο .u32 ((ο .u32 ((cU .u32 _ ((el g _)/1024))+(el g _)))+(cU .u32 _ ((el g _)/8))))+(el g _)))) Τ Τ (dA Τ (by intro w i;exact(vK .u32 (ο .u32 ((ο .u32 ((cU .u32 (cU .u32 N M) ((el g (e-2))/1024))+(el g (e-7))))+(cU .u32 (cU .u32 T S) ((el g (e-15))/8)))) (el g (e-16)) aD aD))) (By aD (gi d λh9 d=>oA ⟨s,0,ι⟩ 64 134 1 .i64 e underlying278 aD aD aD h9 aA1 (gi d λh8 d=>HU P 0 s 0 64 _ [] [] .u32 g 278 e (ο .u32 ((ο .u32 ((ο .u32 ((cU .u32 (cU .u32 N M) ((el g (e-2))/1024))+(el g (e-7))))+(cU .u32 (cU .u32 T S) ((el g (e-15))/8))))+(el g (e-16)))) [aX s (cK .u32 64 (Gm 64 g e (ο .u32 ((ο .u32 ((ο .u32 ((cU .u32 (cU .u32 N M) ((el g (e-2))/1024))+(el g (e-7))))+(cU .u32 (cU .u32 T S) ((el g (e-15))/8))))+(el g (e-16)))))) 278,aX W (cK .u32 8 (ω 8 0)) 135,aX U (dM 64 c) 137,aX Q (cK .u32 8 p) 135] Τ aD aD h8 aD aD aD aD λn2 d7=>wl (bn (qn ?_))))));refine cr (gi d λh7 d=>qF e 1 aD aD h7 (wp 1 (wl (ql ?_))));exact⟨(F,e+1,Gm 64 g e _),_,Τ,by kernel_rfl,⟨d7.kp,d⟩,aY _⟩;refine Hm (Hn (Jb (Hl (ql ?_))));obtain rfl:=oi d;exact⟨g,_,Τ,by kernel_rfl,(Hp.front (Hp.front (Hp.front V 3 _ Τ) 2 _ Τ) 2 _ Τ).kp,Τ⟩;rintro t n1 G ⟨a7,rfl⟩;refine sr (fI a7 2 Q 0 8 _ (cK .u32 8 p) 135 Τ aD aD aD aD aD (eX a7 (cK .u32 8 (ω 8 0)) 135 (λb=>υ (cW b)) Τ Τ aD λj n0 d6=>gS d6 0 j 0 (cK .u32 8 (ω 8 0)) (cK .u32 8 p) 135 [aX j (cK .u32 8 p) 135,aX s (cK .u32 64 t) 278,aX W (cK .u32 8 (ω 8 0)) 135,aX Q (cK .u32 8 p) 135] Τ (aK aD) aD aD aD aD aD λm9 d5=>nq (bi hr λb3 c9 hr=>cut (σ:=(δ Int)) [2,4,11] (λx=>[]) (λx w'=>Hp w [] [aX j (cK .u32 8 x) 135,aX W (cK .u32 8 (ω 8 0)) 135,aX Q (cK .u32 8 p) 135] w'/\x=b3) ?_ ?_)));refine sr (wp 1 (nq (ce (AJ (σ:=Nat×Int×_) [2,4,5,11,99] (λ⟨J,k,a⟩=>[(99,(π .i64 k))]) (λ⟨J,k,a⟩ w'=>Hp w [] [aX j (cK .u32 8 a) 135,aX s (cK .u32 64 t) 278,aX W (cK .u32 8 (ω 8 0)) 135,aX Q (cK .u32 8 p) 135] w'/\ash fu t J k a=θ b3) (λ⟨J,k,a⟩=>J) (fu,0,p) (by exact⟨d5.kp,c9⟩) ?_))));rintro⟨_|J,k,a⟩ m8 G ⟨a6,f⟩
 ·exact absurd (show ι=θ _ from f) aA2
 rw[tG,awy]at f;refine sr (wp 1 (nq (cs (cd f (λe2 f=> ?_) (λe2 f=> ?_)))));refine ck (qn (cs (ce (sr (wp 2 (nq (cs ?_)))))));refine gi f λh6 f=>gi f λh5 f=>gi f λh4 f=>gi f λh3 f=>gi f λh2 f=>gi f λh1 f=>gi f λh0 f=>gi f λg9 f=>Pz 11 (λC B o=>cE [1,8,9,10,11] (λw'=>w'.heap[j]? =θ (.cells (cK .u32 8 a).toArray 135 (0,0))) C B o/\cE [8,9,10,11] (λw'=>w'.heap[j]? =θ (.cells (cK .u32 8 a).toArray 135 (0,0))) C B o/\cE [3,9,10,11] (λw'=>w'.heap[j]? =θ (.cells (cK .u32 8 a).toArray 135 (0,0))) C B o/\cE [9,10,11] (λw'=>w'.heap[j]? =θ (.cells (cK .u32 8 a).toArray 135 (0,0))) C B o/\cE [5,10,11] (λw'=>w'.heap[j]? =θ (.cells (cK .u32 8 a).toArray 135 (0,0))) C B o/\cE [10,11] (λw'=>w'.heap[j]? =θ (.cells (cK .u32 8 a).toArray 135 (0,0))) C B o/\cE [7,11] (λw'=>w'.heap[j]? =θ (.cells (cK .u32 8 a).toArray 135 (0,0))) C B o/\cE [11] (λw'=>w'.heap[j]? =θ (.cells (cK .u32 8 a).toArray 135 (0,0))) C B o/\True) _ (λ_ _=>⟨cE.same,cE.same,cE.same,cE.same,cE.same,cE.same,cE.same,cE.same,trivial⟩) aD aD a6 Τ (nR (vA (nR (sZ (vA (sZ Ca)))))) λm7 A=>gU _ 0 102 _ [1,8,9,10,11] (λ_ _ _ h=>h.1) _ Τ Τ aD aD aD aD aD Τ (dA Τ (by intro w i;exact(Rm ⟨j,0,ι⟩ 8 134 1 .i64 _ underlying135 aD aD aD h6 aA1))) (by exact A.bP 0 Τ) ?_;refine gU _ 1 103 _ _ (λ_ _ _ h=>h.2.1) _ Τ Τ aD aD aD aD aD Τ (dA Τ (by intro w i;exact(QF j 0 8 _ [] [] .u32 a 135 _ i aD aD h5 aD aD))) (by exact A.bP 0 Τ) (gU _ 2 104 _ _ (λ_ _ _ h=>h.2.2.1) _ Τ Τ aD aD aD aD aD Τ (dA Τ (by intro w i;exact(Rm ⟨j,0,ι⟩ 8 134 1 .i64 _ underlying135 aD aD aD h4 aA1))) (by exact A.bP 0 Τ) (gU _ 3 105 _ _ (λ_ _ _ h=>h.2.2.2.1) _ Τ Τ aD aD aD aD aD Τ (dA Τ (by intro w i;exact(QF j 0 8 _ [] [] .u32 a 135 _ i aD aD h3 aD aD))) (by exact A.bP 0 Τ) (gU _ 4 106 _ _ (λ_ _ _ h=>h.2.2.2.2.1) _ Τ Τ aD aD aD aD aD Τ (dA Τ (by intro w i;exact(Rm ⟨j,0,ι⟩ 8 134 1 .i64 _ underlying135 aD aD aD h2 aA1))) (by exact A.bP 0 Τ) (gU _ 5 107 _ _ (λ_ _ _ h=>h.2.2.2.2.2.1) _ Τ Τ aD aD aD aD aD Τ (dA Τ (by intro w i;exact(QF j 0 8 _ [] [] .u32 a 135 2 i aD aD h1 aD aD))) (by exact A.bP 0 Τ) (gU _ 6 108 _ _ (λ_ _ _ h=>h.2.2.2.2.2.2.1) _ Τ Τ aD aD aD aD aD Τ (dA Τ (by intro w i;exact(Rm ⟨j,0,ι⟩ 8 134 1 .i64 _ underlying135 aD aD aD h0 aA1))) (by exact A.bP 0 Τ) (gU _ 7 109 _ [11] (λ_ _ _ h=>h.2.2.2.2.2.2.2.1) _ Τ Τ aD aD aD aD aD Τ (dA Τ (by intro w i;exact(QF j 0 8 _ [] [] .u32 a 135 _ i aD aD g9 aD aD))) (by exact A.bP 0 Τ) (rp 0 [8,9,10] (By aD (wp 1 ?_)))))))));refine nq (sr (wp 1 (bi f λz c3 f=>wc lW A (lu c3 (X.dI A)) λm6 a5=>wp 1 (bi f λy c2 f=>wc lW a5 (lu c2 (X.dI a5)) λm5 a4=> ?_))));refine vL .u32 z y aD aD (wp 1 (bi f λu c1 f=>wc lW a4 (lu c1 (X.dI a4)) λm4 a3=>vL .u32 (cU .u32 z y) u aD aD (wp 1 (nq (sr ?_)))));refine wp 1 (bi f λL c0 f=>wc lW a3 (lu c0 (X.dI a3)) λm3 a2=>wp 1 (bi f λK b9 f=>wc lW a2 (lu b9 (X.dI a2)) λm2 a1=>vL .u32 L K aD aD (wp 1 (bi f λR b8 f=>wc lW a1 (lu b8 (X.dI a1)) λm1 d4=> ?_))));refine vL .u32 (cU .u32 L K) R aD aD (wp 1 (nq (cs (gi f λg8 f=>gi f λg7 f=>gi f λg6 f=>gi f λg5 f=>gi f λg4 f=> ?_))));refine gi f λg3 f=>gi f λg2 f=>gi f λg1 f=>gi f λg0 f=>gi f λf9 f=>Pz 22 (λC B o=>cE [1,3,14,18,22,23] (λw'=>w'.heap[j]? =θ (.cells (cK .u32 8 a).toArray 135 (0,0))) C B o/\cE [3,14,18,22,23] (λw'=>w'.heap[j]? =θ (.cells (cK .u32 8 a).toArray 135 (0,0))) C B o/\cE [6,7,13,14,18,22,23] (λw'=>w'.heap[j]? =θ (.cells (cK .u32 8 a).toArray 135 (0,0))) C B o/\cE [7,13,14,18,22,23] (λw'=>w'.heap[j]? =θ (.cells (cK .u32 8 a).toArray 135 (0,0))) C B o/\cE [11,12,13,14,18,22,23] (λw'=>w'.heap[j]? =θ (.cells (cK .u32 8 a).toArray 135 (0,0))) C B o/\cE [12,13,14,18,22,23] (λw'=>w'.heap[j]? =θ (.cells (cK .u32 8 a).toArray 135 (0,0))) C B o/\cE [18,22,23] (λw'=>Rd w' (θ ⟨7,0,ι⟩) (Η (eI .u32) Jd)) C B o/\cE [21,22,23] (λw'=>w'.heap[s]? =θ (.cells (cK .u32 64 t).toArray 278 (0,0))) C B o/\cE [22,23] (λw'=>w'.heap[s]? =θ (.cells (cK .u32 64 t).toArray 278 (0,0))) C B o/\True) _ (λ_ _=>⟨cE.same,cE.same,cE.same,cE.same,cE.same,cE.same,cE.same,cE.same,cE.same,trivial⟩) aD aD d4 Τ (nR (vA (nR (sZ (vA (sZ Ca)))))) λm0 m=>gU _ 0 126 _ [1,3,14,18,22,23] (λ_ _ _ h=>h.1) _ Τ Τ aD aD aD aD aD Τ (dA Τ (by intro w i;exact(Rm ⟨j,0,ι⟩ 8 134 1 .i64 7 underlying135 aD aD aD g8 aA1))) (by exact m.bP 0 Τ) (gU _ 1 127 _ [3,14,18,22,23] (λ_ _ _ h=>h.2.1) _ Τ Τ aD aD aD aD aD Τ (dA Τ (by intro w i;exact(QF j 0 8 _ [] [] .u32 a 135 7 i aD aD g7 aD aD))) (by exact m.bP 0 Τ) (rp 19 [2] (rt 3 (π .u32 (ο .u32 ((el a 7)+(cU .u32 _ u)))) Τ Τ (dA Τ (by intro w i;exact(vK .u32 (el a 7) (cU .u32 (cU .u32 z y) u) aD aD))) ?_)));refine rp 17 [4] (gU _ 5 131 _ _ (λ_ _ _ h=>h.2.2.1) _ Τ Τ aD aD aD aD aD Τ (dA Τ (by intro w i;exact(Rm ⟨j,0,ι⟩ 8 134 1 .i64 5 underlying135 aD aD aD g6 aA1))) (by exact m.bP 0 Τ) (gU _ 6 132 _ _ (λ_ _ _ h=>h.2.2.2.1) _ Τ Τ aD aD aD aD aD Τ (dA Τ (by intro w i;exact(QF j 0 8 _ [] [] .u32 a 135 5 i aD aD g5 aD aD))) (by exact m.bP 0 Τ) (rt 7 (π .u32 (fM .u32 (el a 4) (el a 5))) Τ Τ (dA Τ (by intro w i;exact(AS .u32 (el a _) (el a 5) aD aD))) (rp 13 [8] (rt 9 (π .u32 (cU .u32 4294967295 _)) Τ Τ (dA Τ (by intro w i;exact(x_cmpl .u32 (el a 4) 4294967295 aD Τ Τ))) (gU _ 10 136 _ _ (λ_ _ _ h=>h.2.2.2.2.1) _ Τ Τ aD aD aD aD aD Τ (dA Τ (by intro w i;exact(Rm ⟨j,0,ι⟩ 8 134 1 .i64 _ underlying135 aD aD aD g4 aA1))) (by exact m.bP 0 Τ) (gU _ 11 137 _ _ (λ_ _ _ h=>h.2.2.2.2.2.1) _ Τ Τ aD aD aD aD aD Τ (dA Τ (by intro w i;exact(QF j 0 8 _ [] [] .u32 a 135 _ i aD aD g3 aD aD))) (by exact m.bP 0 Τ) (rt 12 (π .u32 (fM .u32 (cU .u32 4294967295 (el a 4)) (el a _))) Τ Τ (dA Τ (by intro w i;exact(AS .u32 (cU .u32 4294967295 (el a 4)) (el a 6) aD aD))) (rt 13 (π .u32 (cU .u32 (fM .u32 (el a _) (el a 5)) (fM .u32 (cU .u32 4294967295 _) (el a _)))) Τ Τ (dA Τ (by intro w i;exact(xl .u32 (fM .u32 (el a 4) (el a 5)) (fM .u32 (cU .u32 4294967295 (el a 4)) (el a 6)) aD aD))) ?_)))))))));refine rt 14 (π .u32 (ο .u32 ((ο .u32 ((el a 7)+(cU .u32 _ u)))+(cU .u32 (fM .u32 (el a _) (el a 5)) (fM .u32 (cU .u32 4294967295 _) (el a _)))))) Τ Τ (dA Τ (by intro w i;exact(vK .u32 (ο .u32 ((el a 7)+(cU .u32 (cU .u32 z y) u))) (cU .u32 (fM .u32 (el a 4) (el a 5)) (fM .u32 (cU .u32 4294967295 (el a 4)) (el a 6))) aD aD))) (rp 5 [15,19] (gU [μ,μ,μ,μ,μ,μ,μ,μ,μ,μ,μ,μ,μ,μ,μ,μ,ν,ν,ν,μ,μ,ν,ν,ν] 20 146 _ _ (λ_ _ _ h=>h.2.2.2.2.2.2.2.1) _ Τ Τ aD aD aD aD aD Τ (dA Τ (by intro w i;exact(Rm ⟨s,0,ι⟩ 64 134 1 .i64 k underlying278 aD aD aD g0 aA1))) (by exact m.bP 1 Τ) (gU [μ,μ,μ,μ,μ,μ,μ,μ,μ,μ,μ,μ,μ,μ,μ,μ,ν,ν,ν,μ,μ,μ,ν,ν] 21 147 _ _ (λ_ _ _ h=>h.2.2.2.2.2.2.2.2.1) _ Τ Τ aD aD aD aD aD Τ (dA Τ (by intro w i;exact(QF s 0 64 _ [] [] .u32 t 278 k i aD aD f9 aD aD))) (by exact m.bP 1 Τ) (ro 16 Τ (oA ⟨7,0,ι⟩ 64 134 1 .i64 k underlying278 aD aD aD g2 aA1 (wl (VW (by exact⟨cE.new (m.bP 0 Τ),cE.new (m.bP 0 Τ),cE.new (m.bP 0 Τ),cE.new (m.bP 0 Τ),cE.new (m.bP 0 Τ),cE.new (m.bP 0 Τ),cE.new (X.rounds.rd.hp m),cE.new (m.bP 1 Τ),cE.new (m.bP 1 Τ),trivial⟩) (gU [μ,μ,μ,μ,μ,μ,μ,μ,μ,μ,μ,μ,μ,μ,μ,μ,μ,μ,ν,μ,μ,μ,ν,ν] 17 143 (π .u32 (el Jd k)) _ (λ_ _ _ h=>h.2.2.2.2.2.2.1) _ Τ Τ aD aD aD aD aD Τ (dA Τ (by intro w i;exact(HQ _ _ Jd 1 k (enc_I .u32) i (π .u32 (el Jd k)) g1 aA1 aD aD aD))) (by exact(X.rounds.rd.hp m)) (rt 18 (π .u32 (ο .u32 ((ο .u32 ((ο .u32 ((el a _)+(cU .u32 _ u)))+(cU .u32 (fM .u32 (el a 4) _) (fM .u32 (cU .u32 4294967295 _) (el a _)))))+(el Jd k)))) Τ Τ (dA Τ (by intro w i;exact(vK .u32 (ο .u32 ((ο .u32 ((el a 7)+(cU .u32 (cU .u32 z y) u)))+(cU .u32 (fM .u32 (el a 4) (el a 5)) (fM .u32 (cU .u32 4294967295 (el a 4)) (el a 6))))) (el Jd k) aD aD))) ?_)))))))));refine By aD (Sd .u32 (ο .u32 ((ο .u32 ((ο .u32 ((el a 7)+(cU .u32 (cU .u32 z y) u)))+(cU .u32 (fM .u32 (el a 4) (el a 5)) (fM .u32 (cU .u32 4294967295 (el a 4)) (el a 6)))))+(el Jd k))) (el t k) aD aD (wp 1 (nq (sr (wp 3 (MT .u32 (el a 0) (el a 1) aD aD (wp 2 ?_)))))));refine MT .u32 (el a 0) (el a 2) aD aD (vL .u32 (fM .u32 (el a 0) (el a 1)) (fM .u32 (el a 0) (el a 2)) aD aD (wp 2 (MT .u32 (el a 1) (el a 2) aD aD (vL .u32 (cU .u32 (fM .u32 (el a 0) (el a 1)) (fM .u32 (el a 0) (el a 2))) (fM .u32 (el a 1) (el a 2)) aD aD (Sd .u32 (cU .u32 (cU .u32 L K) R) (cU .u32 (cU .u32 (fM .u32 (el a 0) (el a 1)) (fM .u32 (el a 0) (el a 2))) (fM .u32 (el a 1) (el a 2))) aD aD (wp 1 (nq (cr ?_))))))));refine wp 2 (Sd .u32 (ο .u32 ((ο .u32 ((ο .u32 ((ο .u32 ((el a 7)+(cU .u32 (cU .u32 z y) u)))+(cU .u32 (fM .u32 (el a 4) (el a 5)) (fM .u32 (cU .u32 4294967295 (el a 4)) (el a 6)))))+(el Jd k)))+(el t k))) (ο .u32 ((cU .u32 (cU .u32 L K) R)+(cU .u32 (cU .u32 (fM .u32 (el a 0) (el a 1)) (fM .u32 (el a 0) (el a 2))) (fM .u32 (el a 1) (el a 2))))) aD aD (wp 3 (gi f λf8 f=>oA ⟨j,0,ι⟩ 8 134 1 .i64 _ underlying135 aD aD aD f8 aA1 (gi f λf7 f=>Wf m 0 j 0 8 _ [] [] .u32 a 135 _ Τ aD aD f7 aD aD (wp 1 (Sd .u32 (el a 3) (ο .u32 ((ο .u32 ((ο .u32 ((ο .u32 ((el a 7)+(cU .u32 (cU .u32 z y) u)))+(cU .u32 (fM .u32 (el a 4) (el a 5)) (fM .u32 (cU .u32 4294967295 (el a 4)) (el a 6)))))+(el Jd k)))+(el t k))) aD aD (wp 1 ?_)))))));refine gi f λf6 f=>oA ⟨j,0,ι⟩ 8 134 1 .i64 _ underlying135 aD aD aD f6 aA1 (gi f λf5 f=>Wf m 0 j 0 8 _ [] [] .u32 a 135 5 Τ aD aD f5 aD aD (gi f λf4 f=>oA ⟨j,0,ι⟩ 8 134 1 .i64 _ underlying135 aD aD aD f4 aA1 (gi f λf3 f=>Wf m 0 j 0 8 _ [] [] .u32 a 135 _ Τ aD aD f3 aD aD (wp 1 (gS m 0 j 0 _ (cK .u32 8 [ο .u32 ((ο .u32 ((ο .u32 ((ο .u32 ((ο .u32 ((el a (7:Int))+(cU .u32 (cU .u32 z y) u)))+(cU .u32 (fM .u32 (el a (4:Int)) (el a (5:Int))) (fM .u32 (cU .u32 4294967295 (el a (4:Int))) (el a (6:Int))))))+(el Jd k)))+(el t k)))+(ο .u32 ((cU .u32 (cU .u32 L K) R)+(cU .u32 (cU .u32 (fM .u32 (el a (0:Int)) (el a (1:Int))) (fM .u32 (el a (0:Int)) (el a (2:Int)))) (fM .u32 (el a (1:Int)) (el a (2:Int))))))),el a (0:Int),el a (1:Int),el a (2:Int),ο .u32 ((el a (3:Int))+(ο .u32 ((ο .u32 ((ο .u32 ((ο .u32 ((el a (7:Int))+(cU .u32 (cU .u32 z y) u)))+(cU .u32 (fM .u32 (el a (4:Int)) (el a (5:Int))) (fM .u32 (cU .u32 4294967295 (el a (4:Int))) (el a (6:Int))))))+(el Jd k)))+(el t k)))),el a (4:Int),el a (5:Int),el a (6:Int)]) 135 [aX j (cK .u32 8 [ο .u32 ((ο .u32 ((ο .u32 ((ο .u32 ((ο .u32 ((el a (7:Int))+(cU .u32 (cU .u32 z y) u)))+(cU .u32 (fM .u32 (el a (4:Int)) (el a (5:Int))) (fM .u32 (cU .u32 4294967295 (el a (4:Int))) (el a (6:Int))))))+(el Jd k)))+(el t k)))+(ο .u32 ((cU .u32 (cU .u32 L K) R)+(cU .u32 (cU .u32 (fM .u32 (el a (0:Int)) (el a (1:Int))) (fM .u32 (el a (0:Int)) (el a (2:Int)))) (fM .u32 (el a (1:Int)) (el a (2:Int))))))),el a (0:Int),el a (1:Int),el a (2:Int),ο .u32 ((el a (3:Int))+(ο .u32 ((ο .u32 ((ο .u32 ((ο .u32 ((el a (7:Int))+(cU .u32 (cU .u32 z y) u)))+(cU .u32 (fM .u32 (el a (4:Int)) (el a (5:Int))) (fM .u32 (cU .u32 4294967295 (el a (4:Int))) (el a (6:Int))))))+(el Jd k)))+(el t k)))),el a (4:Int),el a (5:Int),el a (6:Int)]) 135,aX s (cK .u32 64 t) 278,aX W (cK .u32 8 (ω 8 0)) 135,aX Q (cK .u32 8 p) 135] Τ (aK aD) aD aD aD aD aD λl9 d3=> ?_)))));refine wl (bn (qn (cr (gi f λf2 f=>qF k 1 aD aD f2 (wp 1 (wl (ql ?_)))))));exact⟨(J,k+1,[ο .u32 ((ο .u32 ((ο .u32 ((ο .u32 ((ο .u32 ((el a (7:Int))+(cU .u32 (cU .u32 z y) u)))+(cU .u32 (fM .u32 (el a (4:Int)) (el a (5:Int))) (fM .u32 (cU .u32 4294967295 (el a (4:Int))) (el a (6:Int))))))+(el Jd k)))+(el t k)))+(ο .u32 ((cU .u32 (cU .u32 L K) R)+(cU .u32 (cU .u32 (fM .u32 (el a (0:Int)) (el a (1:Int))) (fM .u32 (el a (0:Int)) (el a (2:Int)))) (fM .u32 (el a (1:Int)) (el a (2:Int))))))),el a (0:Int),el a (1:Int),el a (2:Int),ο .u32 ((el a (3:Int))+(ο .u32 ((ο .u32 ((ο .u32 ((ο .u32 ((el a (7:Int))+(cU .u32 (cU .u32 z y) u)))+(cU .u32 (fM .u32 (el a (4:Int)) (el a (5:Int))) (fM .u32 (cU .u32 4294967295 (el a (4:Int))) (el a (6:Int))))))+(el Jd k)))+(el t k)))),el a (4:Int),el a (5:Int),el a (6:Int)]),_,Τ,by kernel_rfl,⟨d3.kp,f⟩,aY _⟩;refine Hm (Hn (Jb (Hl (ql ?_))));obtain rfl:=oi f;exact⟨a,_,Τ,by kernel_rfl,(Hp.front (Hp.front (Hp.front a6 3 _ Τ) 3 _ Τ) 2 _ Τ).kp,Τ⟩;rintro x l8 G ⟨d2,rfl⟩;refine bi hr λb2 c8 hr=>cut (σ:=(δ Int)) [2,4] (λE=>[]) (λE w'=>Hp w [] [aX W (cK .u32 8 (ω 8 (0:Int))) 135,aX Q (cK .u32 8 E) 135] w'/\E=b2) ?_ ?_;refine sr (wp 1 (nq (ce (AJ (σ:=Nat×Int×(δ Int)) [2,4,11,179] (λ⟨I,l,q⟩=>[(179,(π .i64 l))]) (λ⟨I,l,q⟩ w'=>Hp w [] [aX j (cK .u32 8 x) 135,aX W (cK .u32 8 (ω 8 (0:Int))) 135,aX Q (cK .u32 8 q) 135] w'/\asf fu x I l q=θ b2) (λ⟨I,l,q⟩=>I) (fu,(0:Int),p) (by exact⟨d2.kp,c8⟩) ?_))));rintro⟨_|I,l,q⟩ l7 G ⟨a0,n⟩
 ·exact absurd (show ι=θ _ from n) aA2
 rw[tF,awx]at n;refine sr (wp 1 (nq (cs (cd n (λe1 n=> ?_) (λe1 n=> ?_)))));refine ck (qn (cs (ce (sr (wp 2 (nq (gi n λf1 n=> ?_)))))));refine gi n λf0 n=>gi n λe9 n=>gi n λe8 n=>Pz 6 (λC B o=>cE [2,6,7,8] (λw'=>w'.heap[Q]? =θ (.cells (cK .u32 8 q).toArray 135 (0,0))) C B o/\cE [6,7,8] (λw'=>w'.heap[Q]? =θ (.cells (cK .u32 8 q).toArray 135 (0,0))) C B o/\cE [5,6,7,8] (λw'=>w'.heap[j]? =θ (.cells (cK .u32 8 x).toArray 135 (0,0))) C B o/\cE [6,7,8] (λw'=>w'.heap[j]? =θ (.cells (cK .u32 8 x).toArray 135 (0,0))) C B o/\True) [ν,ν,ν,ν,ν,ν,ν,ν,ν] (λ_ _=>⟨cE.same,cE.same,cE.same,cE.same,trivial⟩) aD aD a0 Τ (vA (nR (sZ (vA (sZ Ca))))) λl6 O=>rp 5 [0] (gU [μ,μ,ν,ν,ν,ν,ν,ν,ν] 1 183 (υ (θ (ea (cW Q) ((l).toNat*1)))) [2,6,7,8] (λ_ _ _ h=>h.1) _ Τ Τ aD aD aD aD aD Τ (dA Τ (by intro w i;exact(Rm ⟨Q,0,ι⟩ 8 134 1 .i64 l underlying135 aD aD aD f1 aA1))) (by exact O.bP 2 Τ) (gU [μ,μ,μ,ν,ν,ν,ν,ν,ν] 2 184 (π .u32 (el q l)) [6,7,8] (λ_ _ _ h=>h.2.1) _ Τ Τ aD aD aD aD aD Τ (dA Τ (by intro w i;exact(QF Q 0 8 (cK .u32 8 q) [] [] .u32 q 135 l i aD aD f0 aD aD))) (by exact O.bP 2 Τ) (rp 2 [3] (gU [μ,μ,μ,μ,μ,ν,ν,ν,ν] 4 186 (υ (θ (ea (cW j) ((l).toNat*1)))) [5,6,7,8] (λ_ _ _ h=>h.2.2.1) _ Τ Τ aD aD aD aD aD Τ (dA Τ (by intro w i;exact(Rm ⟨j,0,ι⟩ 8 134 1 .i64 l underlying135 aD aD aD e9 aA1))) (by exact O.bP 0 Τ) (gU [μ,μ,μ,μ,μ,μ,ν,ν,ν] 5 187 (π .u32 (el x l)) [6,7,8] (λ_ _ _ h=>h.2.2.2.1) _ Τ Τ aD aD aD aD aD Τ (dA Τ (by intro w i;exact(QF j 0 8 (cK .u32 8 x) [] [] .u32 x 135 l i aD aD e8 aD aD))) (by exact O.bP 0 Τ) ?_)))));refine By aD (Sd .u32 (el q l) (el x l) aD aD (gi n λe7 n=>oA ⟨Q,0,ι⟩ 8 134 1 .i64 l underlying135 aD aD aD e7 aA1 (gi n λe6 n=>HU O 2 Q 0 8 (cK .u32 8 q) [] [] .u32 q 135 l (ο .u32 ((el q l)+(el x l))) [aX j (cK .u32 8 x) 135,aX W (cK .u32 8 (ω 8 (0:Int))) 135,aX Q (cK .u32 8 (Gm 8 q l (ο .u32 ((el q l)+(el x l))))) 135] Τ aD aD e6 aD aD aD aD λl5 d1=>wl (bn (qn (cr ?_))))));refine gi n λe5 n=>qF l (1:Int) aD aD e5 (wp 1 (wl (ql ?_)));exact⟨(I,l+(1:Int),Gm 8 q l (ο .u32 ((el q l)+(el x l)))),_,Τ,by kernel_rfl,⟨d1.kp,n⟩,aY _⟩;refine Hm (Hn (Jb (Hl (ql ?_))));obtain rfl:=oi n;exact⟨q,_,Τ,by kernel_rfl,(Hp.front (Hp.front a0 2 _ Τ) 2 _ Τ).kp,Τ⟩;rintro E l4 G ⟨Z,rfl⟩;refine sr (fI Z 1 Q 0 8 (cK .u32 8 E) (cK .u32 8 E) 135 Τ aD aD aD aD aD (gS Z 0 W 0 (cK .u32 8 (ω 8 (0:Int))) (cK .u32 8 E) 135 [aX W (cK .u32 8 E) 135,aX Q (cK .u32 8 E) 135] Τ (aK aD) aD aD aD aD aD λl3 Y=>nq (ct ?_)));obtain rfl:=oi hr;refine Em _ [Κ (cK .u32 8 E).toArray] (Κ (cK .u32 8 E).toArray) Τ Τ (lD (Es Y 0 W 135 (cK .u32 8 E) Τ aD aD aD) xT) Τ ?_;exact⟨oM,Y.kp⟩
variable{r:((δ Int)×Int×(δ ζ))}
theorem wG(y:ε Ζ)(H:Nat)(o:Nat){b1:((δ Int)×Int×(δ ζ))}(z:bik fu r c=θ b1)(hG:Gl w)(I:H=γ c)(L:Rd w y (Η eB c))(N:H<=o)(J:y=ι->o=0):CR prog 202 [Κ (cK .u32 8 r.1++([π .u64 r.2.1]++dM 64 r.2.2)).toArray,ξ y H o] w λv w'=>v=(Κ (cK .u32 8 b1.1++([π .u64 b1.2.1]++dM 64 b1.2.2)).toArray)/\Hp w [] [] w':=by
 subst I;refine enter (k:=50) func202 Τ Τ (aK Τ) ?_;unfold bik at z;refine sr (eX (Hp.refl w) (cK .u32 8 r.1++([π .u64 r.2.1]++dM 64 r.2.2)) 139 (λb=>υ (cW b)) Τ Τ aD λx w2 W=>eX W (cK .u32 8 (ω 8 (0:Int))++([π .u64 (0:Int)]++dM 64 (ω 64 (0:ζ)))) 139 (λb=>υ (cW b)) Τ Τ aD λu w5 M=>nq (sr (wp 1 (fI M 1 x 0 8 (cK .u32 8 r.1++([π .u64 r.2.1]++dM 64 r.2.2)) (cK .u32 8 r.1) 139 Τ aD aD aD aD aD ?_))));refine wp 1 (sX M 1 x 8 (cK .u32 8 r.1++([π .u64 r.2.1]++dM 64 r.2.2)) 139 (π .u64 r.2.1) Τ aD aD aD (wp 2 (Wg .u64 .i64 (γ c:Int) underlying3 underlying136 aD (Sd .u64 r.2.1 (ο .u64 (γ c:Int)) aD aD (wp 1 (eX M (cK .u32 8 (ω 8 (0:Int))++([π .u64 (0:Int)]++dM 64 (ω 64 (0:ζ)))) 139 (λb=>υ (cW b)) Τ Τ aD λp w8 V=>gS V 0 p 0 (cK .u32 8 (ω 8 (0:Int))++([π .u64 (0:Int)]++dM 64 (ω 64 (0:ζ)))) (cK .u32 8 r.1++([π .u64 (ο .u64 (r.2.1+(ο .u64 (γ c:Int))))]++dM 64 (ω 64 (0:ζ)))) 139 [aX p (cK .u32 8 r.1++([π .u64 (ο .u64 (r.2.1+(ο .u64 (γ c:Int))))]++dM 64 (ω 64 (0:ζ)))) 139,aX u (cK .u32 8 (ω 8 (0:Int))++([π .u64 (0:Int)]++dM 64 (ω 64 (0:ζ)))) 139,aX x (cK .u32 8 r.1++([π .u64 r.2.1]++dM 64 r.2.2)) 139] Τ (aK aD) aD aD aD aD aD λb2 F=>nq ?_))))));refine sr (wp 1 (sX F 2 x 8 (cK .u32 8 r.1++([π .u64 r.2.1]++dM 64 r.2.2)) 139 (π .u64 r.2.1) Τ aD aD aD (gi z λO z=>xx .u64 r.2.1 (64:Int) aD aD O.1.1 O.1.2 O.2 (Wg .i64 .u64 (r.2.1%(64:Int)) underlying136 underlying3 aD (wp 1 (nq ?_))))));refine cs (gi z λa2 z=>gi z λa1 z=>cdr 6 F (nR Ca) λb0 E=>rp 4 [0,1] (rt 2 (ξ (θ ⟨p,9,ι⟩) (Α (ο .i64 (r.2.1%(64:Int)))) 64) Τ Τ (dA Τ (by intro w U;exact(YL p 9 64 5 .i64 (ο .i64 (r.2.1%(64:Int))) underlying137 aD aD aD a2))) (rp 1 [3,4] (rt 5 (ξ (θ ⟨x,9,ι⟩) (Α (ο .i64 (r.2.1%(64:Int)))) 64) Τ Τ (dA Τ (by intro w U;exact(YL x 9 64 5 .i64 (ο .i64 (r.2.1%(64:Int))) underlying137 aD aD aD a1))) (By aD (ZH E 0 p 9 64 0 64 (θ ⟨x,9,ι⟩) 64 5 139 (cK .u32 8 r.1++([π .u64 (ο .u64 (r.2.1+(ο .u64 (γ c:Int))))]++dM 64 (ω 64 (0:ζ)))) (cK .u32 8 r.1++[π .u64 (ο .u64 (r.2.1+(ο .u64 (γ c:Int))))]) [] (ω 64 (0:ζ)) (Μ (Α (ο .i64 (r.2.1%(64:Int)))) (List.drop 0 (xK 64 r.2.2))) (Α (ο .i64 (r.2.1%(64:Int)))) [aX p (cK .u32 8 r.1++([π .u64 (ο .u64 (r.2.1+(ο .u64 (γ c:Int))))]++dM 64 (jJ 64 (ω 64 (0:ζ)) 0 (Μ (Α (ο .i64 (r.2.1%(64:Int)))) (Μ (Α (ο .i64 (r.2.1%(64:Int)))) (List.drop 0 (xK 64 r.2.2))))))) 139,aX u (cK .u32 8 (ω 8 (0:Int))++([π .u64 (0:Int)]++dM 64 (ω 64 (0:ζ)))) 139,aX x (cK .u32 8 r.1++([π .u64 r.2.1]++dM 64 r.2.2)) 139] Τ aD aD underlying23 aD aD (dB (b:=(ξ (θ ⟨x,9,ι⟩) (Α (ο .i64 (r.2.1%(64:Int)))) 64)) aD (Je aA6)) aA0 (yk (cs:=(cK .u32 8 r.1++([π .u64 r.2.1]++dM 64 r.2.2))) (A:=(cK .u32 8 r.1++[π .u64 r.2.1])) (B:=[]) (m:=64) (l:=r.2.2) E (k:=2) Τ aD aD 0 (Α (ο .i64 (r.2.1%(64:Int)))) aA0) aD λa9 T=> ?_))))));refine nq (ce (AJ (σ:=Nat×(δ ζ)×Int×(δ Int)×(δ ζ)×(ε Ζ)×Nat) [1,4,5,6] (λ⟨n,f,a,e,d,i,g⟩=>[(1,(ξ i (γ f) g)),(6,(π .i64 a))]) (λ⟨n,f,a,e,d,i,g⟩ w'=>Hp w [] [aX p (cK .u32 8 e++([π .u64 (ο .u64 (r.2.1+(ο .u64 (γ c:Int))))]++dM 64 d)) 139,aX u (cK .u32 8 (ω 8 (0:Int))++([π .u64 (0:Int)]++dM 64 (ω 64 (0:ζ)))) 139] w'/\(Rd w i (Η eB f)/\γ f<=g/\(i=ι->g=0))/\ayv fu r c n f a e d=θ b1) (λ⟨n,f,a,e,d,i,g⟩=>n) (fu,c,ο .i64 (r.2.1%(64:Int)),r.1,jJ 64 (ω 64 (0:ζ)) 0 (Μ (Α (ο .i64 (r.2.1%(64:Int)))) (Μ (Α (ο .i64 (r.2.1%(64:Int)))) (List.drop 0 (xK 64 r.2.2)))),y,o) (by exact⟨T.kp,⟨(L),N,J⟩,z⟩) ?_));rintro⟨_|n,f,a,e,d,i,g⟩ a8 G ⟨D,⟨t,s,K⟩,h⟩
 ·exact absurd (show ι=θ _ from h) aA2
 rw[Bl,bbm]at h;refine ce (sr (wp 2 (gi h λa0 h=>ZI p 9 64 5 .i64 a underlying137 aD aD aD a0 (wp 1 (ZH D 0 p 9 64 (Α a) (64-(Α a)) i g 5 139 (cK .u32 8 e++([π .u64 (ο .u64 (r.2.1+(ο .u64 (γ c:Int))))]++dM 64 d)) (cK .u32 8 e++[π .u64 (ο .u64 (r.2.1+(ο .u64 (γ c:Int))))]) [] d f (64-(Α a)) (Zz11 p e r.2.1 (γ c) d a f u) Τ aD aD underlying23 aD aD aD aA0 (t.hp D) aD λa7 j=>wp 1 (wl ?_))))));refine qn (sr (wp 2 (gi h λZ h=>qF a ((Ν (γ f) (64-(Α a)):Nat):Int) aD aD Z (wp 1 (nq (cs ?_))))));refine cr (wp 2 (gi h λY h=>Jp i (γ f) g 5 1 .i64 ((Ν (γ f) (64-(Α a)):Nat):Int) underlying23 aD aD aD f Τ Y (wp 1 (nq (cs (sr ?_))))));refine wp 2 (nq (cd h (λX h=> ?_) (λX h=> ?_)));refine sr (fI j 0 p 0 73 (cK .u32 8 e++([π .u64 (ο .u64 (r.2.1+(ο .u64 (γ c:Int))))]++dM 64 (jJ 64 d (Α a) (Μ (64-(Α a)) f)))) (cK .u32 8 e++([π .u64 (ο .u64 (r.2.1+(ο .u64 (γ c:Int))))]++dM 64 (jJ 64 d (Α a) (Μ (64-(Α a)) f)))) 139 Τ aD aD aD aD aD (gS j 1 u 0 (cK .u32 8 (ω 8 (0:Int))++([π .u64 (0:Int)]++dM 64 (ω 64 (0:ζ)))) (cK .u32 8 e++([π .u64 (ο .u64 (r.2.1+(ο .u64 (γ c:Int))))]++dM 64 (jJ 64 d (Α a) (Μ (64-(Α a)) f)))) 139 [aX p (cK .u32 8 e++([π .u64 (ο .u64 (r.2.1+(ο .u64 (γ c:Int))))]++dM 64 (jJ 64 d (Α a) (Μ (64-(Α a)) f)))) 139,aX u (cK .u32 8 e++([π .u64 (ο .u64 (r.2.1+(ο .u64 (γ c:Int))))]++dM 64 (jJ 64 d (Α a) (Μ (64-(Α a)) f)))) 139] Τ (aK aD) aD aD aD aD aD λa6 C=>nq (ct (st (uO (Vf ?_))))));refine uO ?_;obtain rfl:=oi h;refine Em _ [Κ (cK .u32 8 e++([π .u64 (ο .u64 (r.2.1+(ο .u64 (γ c:Int))))]++dM 64 (jJ 64 d (Α a) (Μ (64-(Α a)) f)))).toArray] (Κ (cK .u32 8 e++([π .u64 (ο .u64 (r.2.1+(ο .u64 (γ c:Int))))]++dM 64 (jJ 64 d (Α a) (Μ (64-(Α a)) f)))).toArray) Τ Τ (lD (Es C 1 u 139 (cK .u32 8 e++([π .u64 (ο .u64 (r.2.1+(ο .u64 (γ c:Int))))]++dM 64 (jJ 64 d (Α a) (Μ (64-(Α a)) f)))) Τ aD aD aD) xT) Τ ?_;exact⟨oM,C.kp⟩;refine ck (qn (sr (wp 1 (fI j 0 p 0 8 (cK .u32 8 e++([π .u64 (ο .u64 (r.2.1+(ο .u64 (γ c:Int))))]++dM 64 (jJ 64 d (Α a) (Μ (64-(Α a)) f)))) (cK .u32 8 e) 139 Τ aD aD aD aD aD (wp 1 (fI j 0 p 9 64 (cK .u32 8 e++([π .u64 (ο .u64 (r.2.1+(ο .u64 (γ c:Int))))]++dM 64 (jJ 64 d (Α a) (Μ (64-(Α a)) f)))) (dM 64 (jJ 64 d (Α a) (Μ (64-(Α a)) f))) 139 Τ aD aD aD aD aD (bi h λq P h=>wc ent279 j (Fa P (hG.dI j)) λa5 S=> ?_)))))));refine wp 1 (gS S 0 p 0 (cK .u32 8 e++([π .u64 (ο .u64 (r.2.1+(ο .u64 (γ c:Int))))]++dM 64 (jJ 64 d (Α a) (Μ (64-(Α a)) f)))) (cK .u32 8 q) 139 (Zz11 p q r.2.1 (γ c) d a f u) Τ (aK aD) aD aD aD aD aD λa4 R=>nq (sr (wp 2 (gS R 0 p 9 (cK .u32 8 q++([π .u64 (ο .u64 (r.2.1+(ο .u64 (γ c:Int))))]++dM 64 (jJ 64 d (Α a) (Μ (64-(Α a)) f)))) (dM 64 (ω 64 (0:ζ))) 139 [aX p (cK .u32 8 q++([π .u64 (ο .u64 (r.2.1+(ο .u64 (γ c:Int))))]++dM 64 (ω 64 (0:ζ)))) 139,aX u (cK .u32 8 (ω 8 (0:Int))++([π .u64 (0:Int)]++dM 64 (ω 64 (0:ζ)))) 139] Τ (aK aD) aD aD aD aD aD λa3 Q=>nq ?_))));refine cr (wp 1 (wl (bn (ql ?_))));exact⟨(n,List.drop (Α ((Ν (γ f) (64-(Α a)):Nat):Int)) f,(0:Int),q,ω 64 (0:ζ),(kB i g (Α ((Ν (γ f) (64-(Α a)):Nat):Int)) 1),(g-(Α ((Ν (γ f) (64-(Α a)):Nat):Int)))),_,Τ,(mc (dB (b:=(ξ (kB i g (Α ((Ν (γ f) (64-(Α a)):Nat):Int)) 1) (γ f-(Α ((Ν (γ f) (64-(Α a)):Nat):Int))) (g-(Α ((Ν (γ f) (64-(Α a)):Nat):Int))))) aD (Je (by(try simp only[bD])<;>first|rfl|omega|(simp only[bD]at*;omega)|simp))) (mc aD (mc aD (mc aD Τ)))),⟨Q.kp,⟨(Rd.vY Bw g _ (gB (gC Τ) s) (t)),(gB (gC (by first|rfl|(simp;done)|omega)) (kU s _)),(oh K)⟩,h⟩,aY _⟩
theorem Hw(o:bij fu r=θ c)(hG:Gl w):CR prog 201 [Κ (cK .u32 8 r.1++([π .u64 r.2.1]++dM 64 r.2.2)).toArray] w λv w'=>v=(Κ (dM 32 c).toArray)/\Hp w [] [] w':=by
 refine enter func201 Τ Τ (aK Τ) ?_;unfold bij at o;refine sr (eX (Hp.refl w) (cK .u32 8 r.1++([π .u64 r.2.1]++dM 64 r.2.2)) 139 (λb=>υ (cW b)) Τ Τ aD λz w2 a9=>eX a9 (dM 32 (ω 32 (0:ζ))) 84 (λb=>υ (cW b)) Τ Τ aD λD w5 Q=>nq (sr (wp 1 (sX Q 1 z 8 _ 139 (π .u64 r.2.1) Τ aD aD aD ?_))));refine gi o λg7 o=>xx .u64 r.2.1 64 aD aD g7.1.1 g7.1.2 g7.2 (Wg .i64 .u64 (r.2.1%64) underlying136 underlying3 aD (wp 1 (nq (sr (wp 1 (gi o λg8 o=> ?_))))));refine XI _ _ aD aD g8 (gi o λg9 o=>ZE _ 64 aD aD g9 (wp 1 (nq (sr (wp 1 (gi o λc1 o=> ?_))))));refine qF (1:Int) (((119:Int)-(ο .i64 (r.2.1%(64:Int))))%(64:Int)) aD aD c1 (gi o λc0 o=>qF ((1:Int)+(((119:Int)-(ο .i64 (r.2.1%(64:Int))))%(64:Int))) (8:Int) aD aD c0 (gi o λb9 o=>MR (f:=eB) Q 5 1 1 .i64 .i64 ((1+((119-(ο .i64 (r.2.1%64)))%64))+8) 0 underlying23 aB0 aA1 aA1 aD aD aD b9 λt n h d2 F=>wp 1 (nq (sr ?_))));refine wp 1 (gi o λb8 o=>Pw n _ h 5 1 .i64 0 underlying23 aD aD aD _ Τ b8 (F.cP 0 Τ) Bw aA1 (gi o λb7 o=>ZD F 0 t n h 5 _ _ 128 Τ Bw (bt 128) b7 aD aD aD aD λa7 y=> ?_));replace y:Hp w [] [bN eB 5 1 t n h _,aX D _ 84,aX z (cK .u32 8 r.1++([π .u64 r.2.1]++dM 64 r.2.2)) 139] a7:=y;refine nq (sr (wp 1 (sX y 2 z 8 _ 139 (π .u64 r.2.1) Τ aD aD aD (w_mul .u64 8 r.2.1 aD aD (wp 1 (nq ?_))))));refine bi o λO P o=>cut (σ:=(δ ζ)) [1,2,5] (λs=>[(5,(ξ n (γ s) h))]) (λs w'=>Hp w [] (Zz14 D z r.1 r.2.1 r.2.2 t n h s) w'/\γ s=γ (Ξ (ω (Α ((1+((119-(ο .i64 (r.2.1%64)))%64))+8)) (0:ζ)) (Α (0:Int)) 128)/\s=O) ?_ ?_;refine sr (wp 1 (nq (ce (AJ (σ:=Nat×_×Int) [1,2,4,5,6,26] (λ⟨q,a,j⟩=>[(5,(ξ n (γ a) h)),(26,(π .i64 j))]) (λ⟨q,a,j⟩ w'=>Hp w [] (Zz14 D z r.1 r.2.1 r.2.2 t n h a) w'/\γ a=γ (Ξ _ (Α (0:Int)) (128:ζ))/\auo fu r q a j=θ O) (λ⟨q,a,j⟩=>q) (fu,Ξ (ω (Α (((1:Int)+(((119:Int)-(ο .i64 (r.2.1%(64:Int))))%(64:Int)))+(8:Int))) (0:ζ)) (Α (0:Int)) (128:ζ),(0:Int)) (by exact⟨(Hp.front (Hp.front y 2 _ Τ) 2 _ Τ).kp,(by(try simp only[bD])<;>first|rfl|omega|(simp only[bD]at*;omega)),P⟩) ?_ (mc aD (mc aD (mc aD (mc (dB aD (Je (by(try simp only[bD])<;>first|rfl|omega|(simp only[bD]at*;omega)|simp))) (mc aD (mc aD Τ))))))))));rintro⟨_|q,a,j⟩ d1 G ⟨A,d0,e⟩
 ·exact absurd (show ι=θ _ from e) aA2
 rw[vI,ayu]at e;refine sr (wp 1 (nq (cs (cd e (λb0 e=> ?_) (λb0 e=> ?_)))));refine ck (qn (cs (ce (sr (wp 2 (nq (cr ?_)))))));refine wp 2 (gi e λb5 e=>qF 1 _ aD aD b5 (wp 1 (gi e λb3 e=>qF _ j aD aD b3 (wp 2 (gi e λb2 e=>We _ j aD aD b2 (gi e λa6 e=> ?_))))));refine XI _ _ aD aD a6 (gi e λa5 e=>AX .u64 .i64 (ο .u64 (8*r.2.1)) _ ((2^(min _ _):Nat):Int) aD aD a5 (NZ _) (JC _) (HT .u64 ((ο .u64 (8*r.2.1))/((2^(min (Α (56-(8*j))) (IntKind.bits .u64)):Nat):Int)) underlying136 underlying5 aD (gi e λa4 e=>Pw n (γ a) h 5 1 .i64 _ underlying23 aD aD aD a Τ a4 (A.cP 2 Τ) Bw aA1 (gi e λa3 e=>ZD A 2 t n h 5 _ a (AH ((ο .u64 (8*r.2.1))/((2^(min (Α (56-(8*j))) (IntKind.bits .u64)):Nat):Int))) Τ Bw (bt (AH ((ο .u64 (8*r.2.1))/((2^(min (Α (56-(8*j))) (IntKind.bits .u64)):Nat):Int)))) a3 aD aD aD aD λN x=> ?_))));replace x:Hp w [] [aX D _ 84,aX z (cK .u32 8 r.1++([π .u64 r.2.1]++dM 64 r.2.2)) 139,bN eB 5 1 t n h _] N:=x;refine wl (bn (qn (cr (gi e λa2 e=>qF j _ aD aD a2 (wp 1 (wl (ql ?_)))))));exact⟨(q,Ξ a _ _,j+1),_,Τ,(mc aD (mc aD (mc aD (mc (dB aD (Je (by(try simp only[bD])<;>first|rfl|omega|(simp only[bD]at*;omega)|simp))) (mc aD (mc aD Τ)))))),⟨x.kp,(by(try simp only[bD])<;>first|rfl|omega|(simp only[bD]at*;omega)),e⟩,aY _⟩;refine Hm (Hn (Jb (Hl (ql ?_))));obtain rfl:=oi e;exact⟨a,_,Τ,by kernel_rfl,A.kp,(by(try simp only[bD])<;>first|rfl|omega|(simp only[bD]at*;omega)),Τ⟩;rintro s c9 G ⟨k,a8,rfl⟩;refine sr (fI k 1 z 0 73 _ (cK .u32 8 r.1++([π .u64 r.2.1]++dM 64 r.2.2)) 139 Τ aD aD aD aD aD (wp 1 (bi o λg H o=>wc fm k (wG n (γ s) h H (hG.dI k) Τ (k.cP 2 Τ) (k.bZ 2 Τ) (k.zrw 2 Τ)) λc8 M=>gS M 1 z 0 _ (cK .u32 8 g.1++([π .u64 g.2.1]++dM 64 g.2.2)) 139 (Zz14 D z g.1 g.2.1 g.2.2 t n h s) Τ (aK aD) aD aD aD aD aD λc7 L=>nq (cs ?_))));refine cr (eX L (dM 32 (ω 32 (0:ζ))) 84 (λb=>υ (cW b)) Τ Τ aD λp c6 K=>nq (bi o λE I o=>cut (σ:=(δ ζ)) [2,8] (λm=>[]) (λm w'=>Hp w [] [aX p (dM 32 m) 84,aX D (dM 32 (ω 32 (0:ζ))) 84] w'/\m=E) ?_ ?_));refine sr (wp 1 (nq (ce (AJ (σ:=Nat×Int×_) [1,2,8,45] (λ⟨l,d,i⟩=>[(45,(π .i64 d))]) (λ⟨l,d,i⟩ w'=>Hp w [] [aX p (dM 32 i) 84,aX D (dM 32 (ω 32 (0:ζ))) 84,aX z (cK .u32 8 g.1++([π .u64 g.2.1]++dM 64 g.2.2)) 139] w'/\aun fu g l d i=θ E) (λ⟨l,d,i⟩=>l) (fu,0,ω 32 (0:ζ)) (by exact⟨K.kp,I⟩) ?_))));rintro⟨_|l,d,i⟩ c5 G ⟨u,b1⟩
 ·exact absurd (show ι=θ _ from b1) aA2
 rw[vH,ayt]at b1;refine sr (wp 1 (nq (cs (cd b1 (λR b1=> ?_) (λR b1=> ?_)))));refine ck (qn (cs (ce (sr (wp 2 (nq (cr ?_)))))));refine wp 2 (gi b1 λa1 b1=>w_quoT d _ aD aD a1 (wp 1 (gi b1 λa0 b1=>oA ⟨z,0,ι⟩ 8 134 1 .i64 _ underlying135 aD aD aD a0 aA1 (gi b1 λZ b1=>Wf u 2 z 0 8 _ [] ([π .u64 g.2.1]++dM 64 g.2.2) .u32 g.1 139 _ Τ aD aD Z aD aD (wp 1 (gi b1 λY b1=> ?_))))));refine ZE d _ aD aD Y (gi b1 λX b1=>We _ _ aD aD X (gi b1 λW b1=>XI _ _ aD aD W (gi b1 λV b1=>AX .u32 .i64 (el g.1 (d/4)) _ ((2^(min _ _):Nat):Int) aD aD V (NZ _) (JC _) (HT .u32 ((el g.1 (d/4))/((2^(min (Α (24-(8*(d%4)))) (IntKind.bits .u32)):Nat):Int)) underlying134 underlying5 aD (gi b1 λU b1=>oA ⟨p,0,ι⟩ 32 5 1 .i64 d underlying84 aD aD aD U aA1 ?_)))));refine gi b1 λT b1=>w_stRB u 0 p 0 32 _ [] [] i 84 d (AH ((el g.1 (d/4))/((2^(min (Α (24-(8*(d%4)))) (IntKind.bits .u32)):Nat):Int))) [aX p (dM 32 (SI 32 i d (AH ((el g.1 (d/4))/((2^(min (Α (24-(8*(d%4)))) (IntKind.bits .u32)):Nat):Int))))) 84,aX D (dM 32 (ω 32 (0:ζ))) 84,aX z (cK .u32 8 g.1++([π .u64 g.2.1]++dM 64 g.2.2)) 139] Τ aD aD T aD aD aD aD λc4 J=>wl (bn (qn (cr (gi b1 λS b1=>qF d _ aD aD S (wp 1 (wl ?_))))));refine ql ?_;exact⟨(l,d+1,SI 32 i d _),_,Τ,by kernel_rfl,⟨J.kp,b1⟩,aY _⟩;refine Hm (Hn (Jb (Hl (ql ?_))));obtain rfl:=oi b1;exact⟨i,_,Τ,by kernel_rfl,u.kp,Τ⟩;rintro m c3 G ⟨C,rfl⟩;refine sr (fI C 0 p 0 32 _ (dM 32 m) 84 Τ aD aD aD aD aD (gS C 1 D 0 _ (dM 32 m) 84 [aX p (dM 32 m) 84,aX D (dM 32 m) 84] Τ (aK aD) aD aD aD aD aD λc2 B=>nq (ct ?_)));obtain rfl:=oi o;refine Em _ [Κ _] (Κ _) Τ Τ (lD (Es B 1 D 84 _ Τ aD aD aD) xT) Τ ?_;exact⟨oM,B.kp⟩
theorem Ph(e:oX fu=θ r)(h:Gl w):CR prog 203 [] w λv w'=>v=(Κ (cK .u32 8 r.1++([π .u64 r.2.1]++dM 64 r.2.2)).toArray)/\Hp w [] [] w':=by refine enter func203 Τ Τ (aK Τ) ?_;unfold oX at e;refine sr (eX (Hp.refl w) (cK .u32 8 (ω 8 (0:Int))++([π .u64 (0:Int)]++dM 64 (ω 64 (0:ζ)))) 139 (λb=>υ (cW b)) Τ Τ aD λd g c=>nq (sr (wp 2 (gS c 0 d 0 _ (cK .u32 8 ((Zz29):δ Int)++([π .u64 (0:Int)]++dM 64 (ω 64 (0:ζ)))) 139 [aX d (cK .u32 8 ((Zz29):δ Int)++([π .u64 (0:Int)]++dM 64 (ω 64 (0:ζ)))) 139] Τ (aK aD) aD aD aD aD aD λf a=>wl ?_))));refine qn (ct ?_);obtain rfl:=oi e;refine Em _ [Κ _] (Κ _) Τ Τ (lD (Es a 0 d 139 _ Τ aD aD aD) xT) Τ ?_;exact⟨oM,a.kp⟩
theorem Zy(d:ε Ζ)(h:Nat)(a:Nat){r:δ ζ}(e:xZ fu c=θ r)(u:Gl w)(i:h=γ c)(k:Rd w d (Η eB c))(m:h<=a)(j:d=ι->a=0):CR prog 131 [ξ d h a] w λv w'=>v=(Κ (dM 32 r).toArray)/\Hp w [] [] w':=by subst i;refine enter func131 Τ Τ (aK Τ) ?_;unfold xZ at e;refine sr (eX (Hp.refl w) (dM 32 (ω 32 (0:ζ))) 84 (λb=>υ (cW b)) Τ Τ aD λx E q=>nq (sr (bi e λC t e=>wc ent203 q (Ph t (u.dI q)) λD l=>wp 1 ?_)));refine bi e λB p e=>wc fm l (wG d (γ c) a p (u.dI l) Τ (k.hp l) m j) λA g=>bi e λn o e=>wc ent201 g (Hw o (u.dI g)) λz s=>gS s 0 x 0 _ (dM 32 n) 84 [aX x (dM 32 n) 84] Τ (aK aD) aD aD aD aD aD λy f=>nq (ct ?_);obtain rfl:=oi e;refine Em _ [Κ _] (Κ _) Τ Τ (lD (Es f 0 x 84 _ Τ aD aD aD) xT) Τ ?_;exact⟨oM,f.kp⟩
theorem Rr(f:bii fu h=θ t)(p:Gl w):CR prog 61 [str h] w λv w'=>v=(str t)/\Hp w [] [] w':=by refine enter func61 Τ Τ (aK Τ) ?_;unfold bii at f;refine sr (wp 1 (nq (sr (wp 1 (Sb (Hp.refl w) h 5 underlying9 underlying23 underlying5 aD λq e z a=>bi f λj n f=> ?_)))));refine wc ent131 a (Zy q (γ h) e n (p.dI a) Τ (Rd.eE (a.eQ 0 Τ)) (a.capbr 0 Τ) (a.zbr 0 Τ)) λy o=>eX o (dM 32 (ω 32 (0:ζ))) 84 (λb=>υ (cW b)) Τ Τ aD λd x i=>gS i 0 d 0 _ (dM 32 j) 84 [aX d (dM 32 j) 84,jX (ξ q (γ h) e) (γ h) h] Τ (aK aD) aD aD aD aD aD λu c=>nq (sr (nj d 0 32 5 underlying84 aD aD (bi f λs g f=>wc ent132 c (Zz (cW d) 32 32 g (p.dI c) aA6 (yk (cs:=(dM 32 j)) (A:=[]) (B:=[]) (m:=32) (l:=j) c (k:=0) Τ aD aD 0 32 aA0) aA0) λC r=> ?_)));refine wp 1 (nq (ct ?_));obtain rfl:=oi f;exact rv r.kp
noncomputable def Yj(fu:Nat):=kl func61 ⟨[.s'],[.r' (.s')],λx=>.one (bii fu x)⟩ (KY (λx=>[str x]) (λy=>str y) λw S x y b a=>Rr a b.1)
section
variable(fu:Nat)
noncomputable def rV:=kf fu func15 [aol,avi fu,Di fu,Dh fu,My fu,Rb fu,Yj fu,bbg] [.pr .s' (.pr .s' (.pr Χ (.pr .s' (.pr (.r' (.pr .s' .s')) (.r' .c')))))] [.r' (.s')] (λx=>bic fu x) (Φ (Φ (Φ (Φ (Φ (.j' [.s' 6 Χ] [] .n' (Φ (Φ (Φ (Φ (Φ (.j' [.o' 3 0 (.z'),.o' 3 1 (.l' 5 1 .c')] [] (Φ (.l' [.s' 48 Χ,.o' 3 0 (.z'),.o' 3 1 (.l' 5 1 .c')] .n')) .n'))))))))))))
noncomputable def akw:=kf fu func94 [aps fu] [.s',.f' 95 .u'] [.r' (.s')] (λx=>aek fu x.1) (Φ (Φ (.j' [.w' 5 (.y')] [] (Φ (.l' [.w' 5 (.y'),.s' 12 Χ] .n')) .n')))
noncomputable def Ac:=kf fu func142 [bfx,bcw] [.s'] [.r' (.s'),.r' (.s'),.r' (.b')] (λx=>nT fu x) (Φ (Φ (.s' (.j' [.s' 21 (.b')] [0,1,2] .n' (.y' .n')) .n')))
noncomputable def Ra:=kf fu func68 [akx fu,agi fu,ahd fu,akw fu,aps fu,bfk fu,axs fu,bab fu,azp fu,axt fu,awj,Ac fu,bgh fu] [.s'] [.r' (.pr .s' (.pr .s' (.pr Χ (.pr .s' dL)))),.r' (.c')] (λx=>Bk fu x) (Φ (Φ (.s' (.j' [.s' 30 (.b')] [0,2,3] .n' (.z' .n')) (Φ (Φ (.s' (.j' [.s' 43 (.b')] [0,1,2] .n' (.z' .n')) (Φ (Φ (.s' (Φ (Φ (.y' .n'))) (Φ (Φ (.s' (Φ (.z' .n')) (Φ (.s' (Φ (.z' .n')) (Φ (.s' (Φ (.z' .n')) .n'))))))))))))))))
noncomputable def bek:=kf fu func69 [aol] [.s',.i' .i64] [.r' (.s')] (λx=>aop fu x.1 x.2) (Φ (.j' [.s' 1 Χ] [] .n' .n'))
noncomputable def axu:=kf fu func144 [] [.s',.s'] [.r' (.b')] (λx=>anq fu x.1 x.2) (Φ (.j' [.s' 4 (.b')] [0,2,4,5,16] .n' .n'))
noncomputable def rT:=kf fu func70 [axu fu] [.s',.s'] [.r' (.b')] (λx=>bdh fu x.1 x.2) (.n')
noncomputable def Dg:=kf fu func19 [rV fu,avi fu,Ra fu,bek fu,rT fu] [.pr .s' (.pr .s' (.pr Χ (.pr .s' (.pr (.r' (.pr .s' .s')) (.r' .c'))))),.s'] [.r' (.b')] (λx=>pQ fu x.1 x.2) (Φ (Φ (Φ (.r' [] [] (Φ (.l' [.s' 17 Χ] (Φ (Φ (.s' (Φ (Φ (.j' [.s' 44 (.b')] [0,1,2,11] .n' .n'))) .n'))))) .n'))))
noncomputable def bfz:=kf fu func17 [rV fu] [.s',.pr .s' (.pr .s' (.pr Χ (.pr .s' (.pr (.r' (.pr .s' .s')) (.r' .c')))))] [.r' (.s')] (λx=>bbl fu x.1 x.2) (.n')
noncomputable def axv:=kf fu func173 [ban fu] [.pr .s' (.pr .s' .b'),.pr .s' (.pr .s' .b')] [.r' Χ] (λx=>Bj fu x.1 x.2) (.n')
noncomputable def akp:=kf fu func310 [axv fu] [.l' 108 40 qS,.i' .i64,.i' .i64,.f' 173 .u'] [.w' 0 dL] (λx=>alb fu x.1 x.2.1 x.2.2.1) (Φ (.l' [.w' 0 dL,.s' 8 Χ] (Φ (.j' [.w' 0 dL] [] (Φ (.l' [.w' 0 dL,.s' 9 Χ] (.s' (.j' [.s' 34 (.b')] [] .n' .n') .n'))) .n'))))
noncomputable def aom:=kf fu func244 [axv fu,aeq fu,akp fu] [.l' 108 40 qS,.i' .i64,.f' 173 .u'] [.w' 0 dL] (λx=>apk fu x.1 x.2.1) (Φ (Φ (.j' [.w' 0 dL,.s' 7 Χ] [] (.l' [.w' 0 dL,.s' 7 Χ,.s' 8 Χ] .n') (Φ (.l' [.w' 0 dL,.s' 6 Χ] (.s' (Φ (.z' .n')) .n'))))))
noncomputable def ans:=kf fu func166 [axv fu,age fu,aom fu] [.l' 108 40 qS,.f' 173 .u'] [.w' 0 dL] (λx=>adp fu x.1) (.n')
end
theorem ent166:Go.Wk.Enters prog 166:=⟨Tryz.f166,_,func166,Τ,by kernel_rfl⟩
theorem ent171:Go.Wk.Enters prog 171:=⟨Tryz.f171,_,func171,Τ,by kernel_rfl⟩
theorem ent172:Go.Wk.Enters prog 172:=⟨Tryz.f172,_,func172,Τ,by kernel_rfl⟩
theorem ent249:Go.Wk.Enters prog 249:=⟨Tryz.f249,_,func249,Τ,by kernel_rfl⟩
theorem ent250:Go.Wk.Enters prog 250:=⟨Tryz.f250,_,func250,Τ,by kernel_rfl⟩
theorem ent313:Go.Wk.Enters prog 313:=⟨Tryz.f313,_,func313,Τ,by kernel_rfl⟩
variable{j e:LQ}
theorem ano(c:ε Nat)(d:ε Ζ)(a:Nat)(f:adp fu j=θ e)(i:Gl w)(h:Hp w (eR [bN dZ 108 3 c d a j]) [bN dZ 108 3 c d a j] w)(g:∀b∈eR [bN dZ 108 3 c d a j],12<=b):CR prog 166 [ξ d (γ j) a,Λ (.func 173) #[] #[]] w λv w'=>v=(Value.tuple #[])/\γ e=γ j/\Hp w (eR [bN dZ 108 3 c d a j]) [bN dZ 108 3 c d a e] w':=
 KD (ans fu).ok f ⟨i,g⟩ h
theorem ahc(i:Nat)(f:Loop)(l:Nat)(t:ε Nat)(k:ε Ζ)(a:Nat)(o:Nat)(m:ε Ζ)(V:Nat)(d:Nat){r:(LQ×Nat)}(hr:abq fu j e=θ r)(hG:Gl w)(R:V=γ e)(C:Rd w m (Η dZ e))(a5:V<=d)(hM:Hp w (eR [gX i 0 f,aX l [ξ k (γ j) a] 54,aX o [ξ m (γ e) d] 54,bN dZ 108 3 t k a j]) [gX i 0 f,aX l [ξ k (γ j) a] 54,aX o [ξ m (γ e) d] 54,bN dZ 108 3 t k a j] w)(hS:∀b∈eR [gX i 0 f,aX l [ξ k (γ j) a] 54,aX o [ξ m (γ e) d] 54,bN dZ 108 3 t k a j],12<=b)(D:Η dZ e≠[]->∀p,m=θ p->p.block∉eR [gX i 0 f,aX l [ξ k (γ j) a] 54,aX o [ξ m (γ e) d] 54,bN dZ 108 3 t k a j])(Y:∀(J:PQ) (H:LQ) (U:ε Nat) (L:ε Ζ) (x:Nat) (w_:φ),Hp w (eR [gX i 0 f,aX l [ξ k (γ j) a] 54,aX o [ξ m (γ e) d] 54,bN dZ 108 3 t k a j]) [gX i 0 f,aX l [ξ L (γ H) x] 54,bN dZ 108 3 U L x H] w_->∀(S:(Nat×LQ)),acv fu J H=θ S->YR prog i [Κ #[str J.1,str J.2.1,ψ J.2.2]] w_ λv Z=>∃(a4:ε Nat),∃(T:ε Ζ),∃(B:Nat),v=ψ (decide (S.1=0))/\Hp w_ (eR [gX i 0 f,aX l [ξ L (γ H) x] 54,bN dZ 108 3 U L x H]) [gX i S.1 f,aX l [ξ T (γ S.2) B] 54,bN dZ 108 3 a4 T B S.2] Z):CR prog 250 [Λ (.yield i) #[] #[],υ (cW o)] w λv w'=>∃(o0:ε Nat),∃(a0:ε Ζ),∃(P:Nat),v=(Value.tuple #[])/\Hp w (eR [gX i 0 f,aX l [ξ k (γ j) a] 54,aX o [ξ m (γ e) d] 54,bN dZ 108 3 t k a j]) [aX l [ξ a0 (γ r.1) P] 54,aX o [ξ m (γ e) d] 54,bN dZ 108 3 o0 a0 P r.1,gX i r.2 f] w':=by
 subst R;have hH:=hM;refine fe func250 Τ Τ (aK Τ) ?_;unfold abq at hr;refine sr (sX hH 2 o 0 _ 54 _ Τ Τ aD aD (wp 2 (nq (ce (AJ (σ:=Nat×Int×(δ _)×(ε Nat)×(ε Ζ)×Nat) [0,5,6,7] (λ⟨s,g,n,z,q,h⟩=>[(7,(π .i64 g))]) (λ⟨s,g,n,z,q,h⟩ w'=>Hp w (eR [gX i 0 f,aX l [ξ k (γ j) a] 54,aX o _ 54,bN dZ 108 3 t k a j]) [gX i 0 f,aX l [ξ q (γ n) h] 54,aX o [ξ m (γ e) d] 54,bN dZ 108 3 z q h n] w'/\aas fu e s g n=θ r) (λ⟨s,g,n,z,q,h⟩=>s) (fu,(0:Int),j,t,k,a) (by exact⟨hH.kp,hr⟩) ?_)))));rintro⟨_|s,g,n,z,q,h⟩ b4 G ⟨A,c⟩
 ·exact absurd (show ι=θ _ from c) aA2
 rw[agc,abh]at c;refine sr (wp 1 (nq (cs (cd c (λa6 c=> ?_) (λa6 c=> ?_)))));refine ck (qn (cs (ce (sr (gi c λa9 c=>Pw m (γ e) d 108 3 .i64 g underlying54 aD aD aD e Τ a9 (C.dj A D) GJ aA1 (gi c λa8 c=>AZ m dZ e 3 g GJ (C.dj A D) (xe e g) a8 aD aD aD aD aA1 ?_))))));refine eX A [str [],str [],ψ ν] 108 (λb=>υ (cW b)) Τ Τ aD λI b3 X=>gS X 0 I 0 _ (xe e g) 108 _ Τ (aK Τ) aD aD Τ aD Τ λa3 O=>nq (sr (wp 1 (fI O 0 I 0 3 _ _ 108 Τ Τ Τ aD aD aD (bi c λy W c=> ?_))));have N:=((O.front 4 _ Τ).front 3 _ Τ).front 3 _ Τ;refine Wb i _ _ aD aD (Y _ n z q h a3 (Hp.JR (L1:=[gX i 0 f,aX l _ 54,bN dZ 108 3 z q h n]) (L2:=[aX I (xe e g) 108,aX o [ξ m (γ e) d] 54]) N) y W) ?_;rintro _ a2 ⟨Q,K,u,rfl,M⟩;have E:Hp w (eR [gX i 0 f,aX l [ξ k (γ j) a] 54,aX o [ξ m (γ e) d] 54,bN dZ 108 3 t k a j]) [gX i y.1 f,aX l [ξ K (γ y.2) u] 54,bN dZ 108 3 Q K u y.2,aX I (xe e g) 108,aX o [ξ m (γ e) d] 54] a2:=Hp.cM (L1:=[gX i 0 f,aX l [ξ q (γ n) h] 54,bN dZ 108 3 z q h n]) (L2:=[aX I (xe e g) 108,aX o [ξ m (γ e) d] 54]) N M;clear M;by_cases F:y.1=0;replace c:=UK F c;rw[F]at E;rw[show decide (y.1=0)=μ from(aH F)];refine wp 1 (nq (XG aD (ck (bn (qn (cr (gi c λa7 c=>qF g _ aD aD a7 ?_)))))));refine wp 1 (wl (ql ?_));exact⟨(s,g+1,y.2,Q,K,u),_,Τ,by kernel_rfl,⟨(Hp.front (Hp.front (Hp.front (Hp.front E 2 _ Τ) 4 _ Τ) 3 _ Τ) 3 _ Τ).kp,c⟩,aY _⟩;replace c:=UL F c;rw[show decide (y.1=0)=ν from(aG F)];refine wp 1 (nq (sU aD (ct (uO (st (Vf (uO ?_)))))));obtain rfl:=oi c;refine JB Τ ?_;exact⟨Q,K,u,oM,(Hp.front (Hp.front (Hp.front E 2 _ Τ) 4 _ Τ) 3 _ Τ).kp⟩;refine Hm (Hn (Jb (Hl ?_)));obtain rfl:=oi c;refine zM Τ ?_;exact⟨z,q,h,oM,(Hp.front (Hp.front (Hp.front A 3 _ Τ) 3 _ Τ) 3 _ Τ).kp⟩
theorem aus{s_0:LQ}(k:ε Nat)(g:ε Ζ)(a:Nat)(b_3:Nat)(f:ε Ζ)(T:Nat)(c:Nat)(G:afw fu s_0 j=θ e)(hG:Gl w)(O:T=γ j)(t:Rd w f (Η dZ j))(P:T<=c)(hM:Hp w (eR [aX b_3 [ξ f (γ j) c] 54,bN dZ 108 3 k g a s_0]) [aX b_3 [ξ f (γ j) c] 54,bN dZ 108 3 k g a s_0] w)(hS:∀b∈eR [aX b_3 [ξ f (γ j) c] 54,bN dZ 108 3 k g a s_0],12<=b)(u:Η dZ j≠[]->∀p,f=θ p->p.block∉eR [aX b_3 [ξ f (γ j) c] 54,bN dZ 108 3 k g a s_0]):CR prog 313 [ξ g (γ s_0) a,Λ (.func 250) #[] #[υ (cW b_3)]] w λv w'=>∃(o0:ε Nat),∃(a0:ε Ζ),∃(M:Nat),v=(ξ a0 (γ e) M)/\Hp w (eR [aX b_3 [ξ f (γ j) c] 54,bN dZ 108 3 k g a s_0]) [aX b_3 [ξ f (γ j) c] 54,bN dZ 108 3 o0 a0 M e] w':=by
 subst O;have hH:=hM;refine fc func313 Τ Τ (aK Τ) ?_;unfold afw at G;refine sr (eX hH [ξ g (γ s_0) a] 54 (λb=>υ (cW b)) Τ Τ aD λB w2 c1=>wp 1 (nq (cs (sr (wp 1 ?_)))));refine nq (ce (Gc c1 250 [υ (cW b_3)] aD ent250 λD H n b8 Y X W V a5=>bi G λm U G=> ?_));have i:=(((a5.front 4 _ Τ).front 4 _ Τ).front 4 _ Τ).front 3 _ Τ;have c4:∀h l (E:ε Nat) (q:ε Ζ) (r:Nat) (w_:φ),Hp b8 (eR [gX H 0 n,aX B [ξ g (γ s_0) a] 54,aX b_3 [ξ f (γ j) c] 54,bN dZ 108 3 k g a s_0]) [gX H 0 n,aX B [ξ q (γ l) r] 54,bN dZ 108 3 E q r l] w_->∀(R:(Nat×(δ _))),acv fu h l=θ R->YR prog H [Κ #[str h.1,str h.2.1,ψ h.2.2]] w_ λv b2=>∃b9,∃S,∃s,v=ψ (decide (R.1=0))/\Hp w_ (eR [gX H 0 n,aX B [ξ q (γ l) r] 54,bN dZ 108 3 E q r l]) [gX H R.1 n,aX B [ξ S (γ R.2) s] 54,bN dZ 108 3 b9 S s R.2] b2:=by intro h l E q r b7 o R F;have z:=Hp.cM i o;have a6:=hG;replace hG:=hG.hp z hS;have d4:=Hp.lM z a6 hS 3 Τ;unfold acv at F;refine AR (Hp.hand (L2:=[]) (by simpa using o)) 0 Τ Y X W V Τ ?_;have hH:=Hp.hand (L2:=[]) (by simpa using o);clear z o;refine cr (eX hH [str [],str [],ψ ν] 108 (λb=>υ (cW b)) Τ Τ aD λa8 d2 a4=>gS a4 0 a8 0 _ [str h.1,str h.2.1,ψ h.2.2] 108 _ Τ (aK Τ) aD aD Τ aD Τ λd1 a3=>wl (GA a3 1 Τ λd0 y=>ce (cr (sX y 2 B 0 _ 54 _ Τ Τ aD aD (fI y 0 a8 0 3 _ _ 108 Τ Τ Τ aD aD aD (eX y [str h.1,str h.2.1,ψ h.2.2] 108 (λb=>ξ (cW b) 1 1) Τ Τ aD λd6 c9 L=> ?_))))));refine gi F λc3 F=>GF L 4 E q (θ _) r 1 108 3 40 l _ GJ Τ underlying54 aB0 aA1 aA1 aD (dB aD (Je aA6)) (L.gP 0 Τ) c3 λc0 a9 A b6 x=> ?_;replace x:Hp b7 _ _ b6:=x;refine Py x 3 B 0 _ 54 (ξ a9 (γ (l++[h])) A) _ Τ (bU (aY _) (aK Τ)) aD aD Τ aD Τ λc8 a2=>wl (bn ?_);obtain rfl:=oi F;refine Ko a2 2 Τ λc7 a1=> ?_;exact⟨c0,a9,A,aD1,(Hp.front (Hp.front (Hp.front a1 4 _ Τ) 4 _ Τ) 4 _ Τ).kp⟩
 refine CR.mono (ahc H n B k g a b_3 f (γ j) c U (hG.hp i hS) Τ (t.dj i u) P (i.hand) (i.lM hG hS 4 Τ) (i.uR 4 t u Τ) c4) ?_;rintro _ b5 ⟨N,C,d,rfl,I⟩;have Z:Hp w (eR [aX b_3 [ξ f (γ j) c] 54,bN dZ 108 3 k g a s_0]) [aX B [ξ C (γ m.1) d] 54,aX b_3 [ξ f (γ j) c] 54,bN dZ 108 3 N C d m.1,gX H m.2 n,gk D] b5:=Hp.cM (L1:=[gX H 0 n,aX B [ξ g (γ s_0) a] 54,aX b_3 [ξ f (γ j) c] 54,bN dZ 108 3 k g a s_0]) (L2:=[gk D]) i I;clear I;refine⟨m.2,[aX B _ 54,aX b_3 _ 54,bN dZ 108 3 N C d m.1,gk D],(Z.front 3 _ Τ),?_⟩;intro c6 K;by_cases Q:m.2=0;replace G:=UK Q G;refine rg0 Q (bn (qn (sr (sX K 0 B 0 _ 54 _ Τ Τ aD aD (wp 1 (nq (ct ?_)))))));obtain rfl:=oi G;refine JK K 3 D Τ _ _ (ξ C (γ m.1) d) Τ Τ (λb4 J=>lD (aux aD) xT) Τ λb4 J=> ?_;exact⟨N,C,d,oM,(Hp.front (Hp.front J 2 _ Τ) 2 _ Τ).kp⟩;replace G:=UL Q G;exact absurd G aA2
theorem avs(d:Nat)(r:ε Ζ)(q:Nat)(a:Nat)(t:aha fu j=θ e)(B:Gl w)(l:q=γ j)(h:Rd w r (Η dZ j))(n:q<=a)(F:Hp w (eR [aX d [ξ r (γ j) a] 54]) [aX d [ξ r (γ j) a] 54] w)(A:∀b∈eR [aX d [ξ r (γ j) a] 54],12<=b)(i:Η dZ j≠[]->∀p,r=θ p->p.block∉eR [aX d [ξ r (γ j) a] 54]):CR prog 249 [Λ (.func 250) #[] #[υ (cW d)]] w λv w'=>∃(E:ε Nat),∃(C:ε Ζ),∃(c:Nat),v=(ξ C (γ e) c)/\Hp w (eR [aX d [ξ r (γ j) a] 54]) [aX d [ξ r (γ j) a] 54,bN dZ 108 3 E C c e] w':=by subst l;refine enter (k:=5) func249 Τ Τ (aK Τ) ?_;unfold aha at t;refine sr (wp 1 (nq (sr (wp 1 ?_))));have m:=F.lK dZ 108 3 ι;replace m:Hp w (eR (Zu d r (γ j) a)) [bN dZ 108 3 ι ι 0 ([]:LQ),aX d [ξ r (γ j) a] 54] w:=m;refine bi t λy u t=> ?_;have g:Hp w (eR (Zu d r (γ j) a)) [aX d [ξ r (γ j) a] 54,bN dZ 108 3 ι ι 0 ([]:LQ)] w:=m.front 1 _ Τ;refine kS 313 #[] [ξ ι 0 0,Λ (.func 250) #[] #[υ (cW d)]] _ ent313 aD aD (aus (s_0:=([]:LQ)) ι ι 0 d r (γ j) a u (B.hp g A) Τ (h.dj g i) n (g.hand (L1:=[aX d [ξ r (γ j) a] 54,bN dZ 108 3 ι ι 0 ([]:LQ)]) (L2:=[])) (g.lM B A 2 Τ) (g.uR 2 h i Τ)) ?_;rintro _ D ⟨z,o,f,rfl,s⟩;have x:Hp w (eR (Zu d r (γ j) a)) [aX d [ξ r (γ j) a] 54,bN dZ 108 3 z o f y] D:=Hp.cM (L1:=[aX d [ξ r (γ j) a] 54,bN dZ 108 3 ι ι 0 ([]:LQ)]) (L2:=[]) g s;clear s;refine wp 1 (nq (ct ?_));obtain rfl:=oi t;refine Ja (ξ o (γ y) f) Τ aD ?_;exact⟨z,o,f,oM,x.kp⟩
theorem ahu(r:Nat)(d:ε Ζ)(t:Nat)(a:Nat)(o:abx fu j=θ e)(B:Gl w)(l:t=γ j)(h:Rd w d (Η dZ j))(m:t<=a)(K:Hp w (eR [aX r [ξ d (γ j) a] 54]) [aX r [ξ d (γ j) a] 54] w)(A:∀b∈eR [aX r [ξ d (γ j) a] 54],12<=b)(i:Η dZ j≠[]->∀p,d=θ p->p.block∉eR [aX r [ξ d (γ j) a] 54]):CR prog 171 [Λ (.func 250) #[] #[υ (cW r)],Λ (.func 173) #[] #[]] w λv w'=>∃(J:ε Nat),∃(G:ε Ζ),∃(k:Nat),v=(ξ G (γ e) k)/\Hp w (eR [aX r [ξ d (γ j) a] 54]) [aX r [ξ d (γ j) a] 54,bN dZ 108 3 J G k e] w':=by subst l;have q:=K;refine enter func171 Τ Τ (aK Τ) ?_;unfold abx at o;refine sr (wp 1 (nq (sr (wp 1 (bi o λz D o=>kS 249 #[] [Λ _ #[] #[υ _]] _ ent249 aD aD (avs r d (γ j) a D (B.hp q A) Τ (h.dj q i) m (q.hand) (q.lM B A 1 Τ) (q.uR 1 h i Τ)) ?_)))));rintro _ I ⟨s,n,f,rfl,x⟩;have E:Hp w (eR (Zu r d (γ j) a)) [aX r [ξ d (γ j) a] 54,bN dZ 108 3 s n f z] I:=Hp.cM (L1:=(Zu r d (γ j) a)) (L2:=[]) q x;clear x;refine wp 1 (nq (sr (wp 2 (bi o λH u o=> ?_))));have g:=E.front 1 _ Τ;refine kS 166 #[] [ξ n (γ z) f,Λ _ #[] #[]] _ ent166 aD aD (ano s n f u (B.hp g A) (g.hand) (g.lM B A 1 Τ)) ?_;rintro _ C ⟨rfl,F,c⟩;have y:Hp w (eR (Zu r d (γ j) a)) [bN dZ 108 3 s n f H,aX r [ξ d (γ j) a] 54] C:=Hp.cM (L1:=[bN dZ 108 3 s n f z]) (L2:=(Zu r d (γ j) a)) g c;clear c;refine nq (sr (wp 2 (nq (ct ?_))));obtain rfl:=oi o;refine Ja (ξ n (γ z) f) Τ aD ?_;exact⟨s,n,f,oM,(Hp.front y 1 _ Τ).kp⟩
theorem bil(c:ε Ζ)(d:Nat)(a:Nat)(i:asz fu j=θ e)(m:Gl w)(n:d=γ j)(f:Rd w c (Η dZ j))(h:d<=a):CR prog 172 [ξ c d a] w λv w'=>∃(k:Nat),v=(Λ (.func 250) #[] #[υ (cW k)])/\Hp w [] [aX k [ξ c (γ j) a] 54] w':=by subst n;refine enter func172 Τ Τ (aK Τ) ?_;unfold asz at i;refine sr (eX (Hp.refl w) [ξ c (γ j) a] 54 (λb=>υ (cW b)) Τ Τ aD λr l g=>wp 1 (nq (sr (wp 2 (wl ?_)))));refine qn (ct ?_);obtain rfl:=oi i;refine Ja (Λ (.func 250) #[] #[υ (cW r)]) Τ aD ?_;exact⟨r,oM,g.kp⟩
theorem Bp(c:ε Ζ)(k:Nat)(a:Nat)(n:ayr fu j=θ e)(y:Gl w)(l:k=γ j)(d:Rd w c (Η dZ j))(g:k<=a):CR prog 93 [ξ c k a] w λv w'=>∃(D:ε Nat),∃(A:ε Ζ),∃(b:Nat),v=(ξ A (γ e) b)/\Hp w [] [bN dZ 108 3 D A b e] w':=by subst l;have x:=Hp.refl w;refine enter func93 Τ Τ (aK Τ) ?_;unfold ayr at n;refine sr (wp 1 (nq (sr (wp 1 (bi n λE u n=>kS 172 #[] [ξ c (γ j) a] _ ent172 aD aD (bil c (γ j) a u (y.dI x) Τ (d.hp x) g) ?_)))));rintro _ C ⟨s,rfl,p⟩;have f:Hp w [] (Zu s c (γ j) a) C:=Hp.cM (L1:=[]) (L2:=[]) x p;clear p;refine bi n λz t n=>kS 171 #[] [Λ _ #[] #[υ _],Λ _ #[] #[]] _ ent171 aD aD (ahu s c (γ j) a t (y.dI f) Τ (d.hp f) g (f.hand) (f.lM y (λ_ h=>absurd h aA2) 1 Τ) (f.uR 1 d (λ_ _ _ h=>absurd h aA2) Τ)) ?_;rintro _ B ⟨o,m,r,rfl,i⟩;have q:Hp w [] [aX s [ξ c (γ j) a] 54,bN dZ 108 3 o m r z] B:=Hp.cM (L1:=(Zu s c (γ j) a)) (L2:=[]) f i;clear i;refine wp 1 (nq (ct ?_));obtain rfl:=oi n;refine Ja (ξ m (γ z) r) Τ aD ?_;exact⟨o,m,r,oM,(Hp.front q 1 _ Τ).kp⟩
noncomputable def Ds(fu:Nat):=kl func93 ⟨[.r' qS],[.r' dL],λx=>.one (ayr fu x)⟩ (nG (e:=108) (b:=40) (t:=.pr .s' (.pr .s' .b')) (λx=>x) (λy=>y) λw S x y a n cap h c d g f=>Bp a n cap c h.1 d g f)
noncomputable def oO(fu:Nat):=kf fu func92 [aiq fu,bbg,akx fu,wq fu,baa fu,bbh fu] [.r' qS] [.r' (.s'),.r' (.c')] (λx=>bay fu x) (Φ (.s' (Φ (.z' .n')) (Φ (.j' [.o' 4 0 (.z'),.o' 4 1 (.l' 5 1 .c')] [] (Φ (.l' [.s' 17 Χ,.o' 4 0 (.z'),.o' 4 1 (.l' 5 1 .c')] (Φ (Φ (.s' (Φ (.s' (.j' [.s' 41 (.b')] [] .n' (.z' .n')) (Φ (.s' (Φ (.z' .n')) (Φ (.s' (Φ (.j' [.s' 75 (.b')] [0,2,3] .n' (.z' .n'))) .n')))))) .n'))))) .n'))))
noncomputable def xH(fu:Nat):=kf fu func32 [aol,akx fu,baa fu,oO fu,Ds fu,agi fu,ahd fu,akw fu,aps fu] [.pr .s' (.pr .s' (.pr Χ (.pr .s' (.r' qS))))] [.r' (.s'),.r' (.c')] (λx=>bgw fu x) (Φ (Φ (.s' (.j' [.s' 34 (.b')] [0,1,2,8,13] .n' .n') (Φ (.j' [.s' 6 dL] [] (Φ (.l' [.s' 6 dL,.s' 38 Χ] .n')) (.j' [.s' 6 dL] [] .n' (Φ (Φ (.j' [.s' 4 (.s')] [] .n' .n')))))))))
noncomputable def bfy(fu:Nat):=kf fu func33 [JP,JO] [.pr .s' (.pr .s' (.pr Χ (.pr .s' (.pr (.r' (.pr .s' .s')) (.r' .c')))))] [.r' (.pr .s' (.pr .s' (.pr Χ (.pr .s' (.pr (.l' 47 32 (.pr .s' .s')) (.l' 5 1 .c'))))))] (λx=>alx fu x) (.n')
theorem fh:Go.Wk.Enters prog 98:=⟨Tryz.f98,_,func98,Τ,by kernel_rfl⟩
theorem fg:Go.Wk.Enters prog 99:=⟨Tryz.f99,_,func99,Τ,by kernel_rfl⟩
theorem ft:Go.Wk.Enters prog 104:=⟨Tryz.f104,_,func104,Τ,by kernel_rfl⟩
theorem KK:Go.Wk.Enters prog 174:=⟨Tryz.f174,_,func174,Τ,by kernel_rfl⟩
theorem fp:Go.Wk.Enters prog 175:=⟨Tryz.f175,_,func175,Τ,by kernel_rfl⟩
theorem ent176:Go.Wk.Enters prog 176:=⟨Tryz.f176,_,func176,Τ,by kernel_rfl⟩
theorem ent180:Go.Wk.Enters prog 180:=⟨Tryz.f180,_,func180,Τ,by kernel_rfl⟩
theorem bbo{r:aC×ζ}(d:zz fu h=θ r)(f:Gl w):CR prog 174 [str h] w λv c=>v=.tuple #[str r.1,bt r.2]/\Hp w [] [] c:=
 WA (x:=h) (y:=r) (axw fu).ok (λx=>[str x]) (λr=>.tuple #[str r.1,bt r.2]) ⟨f,λb e=>by cases e⟩ d
variable{a b:(aC×aC×Int×aC×(δ (aC×aC))×(δ ζ))}
theorem bfe(k:ε Ζ)(x:Nat)(d:Nat)(g:ε Ζ)(u:Nat)(c:Nat)(C:aqv fu a=θ b)(Z:Gl w)(z:x=γ a.2.2.2.2.1)(B:Rd w k (Η cV a.2.2.2.2.1))(M:x<=d)(y:u=γ a.2.2.2.2.2)(A:Rd w g (Η eB a.2.2.2.2.2))(L:u<=c):CR prog 104 [Κ #[str a.1,str a.2.1,π .i64 a.2.2.1,str a.2.2.2.1,ξ k x d,ξ g u c]] w λv w'=>∃(V:ε Nat),∃(P:ε Ζ),∃(q:Nat),∃(U:ε Nat),∃(O:ε Ζ),∃(p:Nat),v=(Κ #[str b.1,str b.2.1,π .i64 b.2.2.1,str b.2.2.2.1,ξ P (γ b.2.2.2.2.1) q,ξ O (γ b.2.2.2.2.2) p])/\Hp w [] [bN cV 47 2 V P q b.2.2.2.2.1,bN eB 5 1 U O p b.2.2.2.2.2] w':=by subst z;subst y;refine enter func104 Τ Τ (aK Τ) ?_;unfold aqv at C;refine sr (eX (Hp.refl w) (Vt a.1 a.2.1 a.2.2.1 a.2.2.2.1 k (γ a.2.2.2.2.1) d g (γ a.2.2.2.2.2) c) 25 (λa0=>υ (cW a0)) Τ Τ aD λs Y K=>eX K (kb) 25 (λa0=>υ (cW a0)) Τ Τ aD λG X D=>nq (sr (wp 1 (sX D 1 s 4 _ 25 _ Τ Τ aD aD ?_))));refine wp 1 (gi C λW C=>MR (f:=cV) D 47 2 32 .i64 .i64 (γ a.2.2.2.2.1) (([]:aC),([]:aC)) underlying22 aB0 aA1 aA1 aD aD aD W λF t r T j=>wp 1 (nq (sr (wp 2 (sX j 2 s 4 _ 25 _ Τ Τ aD aD ?_)))));refine mz j 0 F t k r d 47 2 _ a.2.2.2.2.1 pP Τ underlying22 aD aD aD (B.hp j) λI i=> ?_;replace i:Hp w [] [bN cV 47 2 F t r _,aX G _ 25,aX s (Vt a.1 a.2.1 a.2.2.1 a.2.2.2.1 k (γ a.2.2.2.2.1) d g (γ a.2.2.2.2.2) c) 25] I:=i;refine nq (sr (wp 2 (Py i 2 s 4 _ 25 (ξ t (γ (ω (Α (γ a.2.2.2.2.1:Int)) (([]:aC),([]:aC)))) r) _ Τ (bU (aY _) (aK Τ)) aD aD Τ aD Τ λH h=>nq (sr ?_))));refine wp 1 (sX h 2 s 5 _ 25 _ Τ Τ aD aD (gi C λN C=>kS 180 #[] [ξ g (γ a.2.2.2.2.2) c] _ ent180 aD aD (BM a.2.2.2.2.2 H g (γ a.2.2.2.2.2) c Τ (A.hp h) N) ?_));rintro _ S ⟨J,l,e,rfl,m⟩;have E:=Hp.cM (L1:=[]) (L2:=[bN cV 47 2 F t r (XE (ω (Α (γ a.2.2.2.2.1:Int)) (([]:aC),([]:aC))) a.2.2.2.2.1),aX G (kb) 25,aX s (Zz28 a.1 a.2.1 a.2.2.1 a.2.2.2.1 t (γ a.2.2.2.2.1) r g (γ a.2.2.2.2.2) c) 25]) h m;clear m;refine wp 1 (Py E 3 s 5 _ 25 (ξ l (γ a.2.2.2.2.2) e) _ Τ (bU (aY _) (aK Τ)) aD aD Τ aD Τ λR o=>nq (sr (fI o 3 s 0 6 _ _ 25 Τ Τ Τ aD aD aD (gS o 2 G 0 _ (Zz28 a.1 a.2.1 a.2.2.1 a.2.2.2.1 t (γ a.2.2.2.2.1) r l (γ a.2.2.2.2.2) e) 25 _ Τ (aK Τ) aD aD Τ aD Τ λQ n=>nq ?_))));refine ct ?_;obtain rfl:=oi C;refine Em _ [Κ #[str a.1,str a.2.1,π .i64 a.2.2.1,str a.2.2.2.1,ξ t _ r,ξ l (γ a.2.2.2.2.2) e]] _ Τ Τ (lD (Es n 2 G 25 _ Τ aD aD aD) xT) Τ ?_;exact⟨F,t,r,J,l,e,oM,(Hp.front n 1 _ Τ).kp⟩
theorem azw{r:(ζ×aC)}(f:ly fu h=θ r)(t:Gl w):CR prog 99 [str h] w λv w'=>∃(o:Nat),∃(n:Nat),v=(Λ (.func 175) #[] #[υ (cW o),υ (cW n)])/\Hp w [] [aX o [bt r.1] 30,aX n [str r.2] 9] w':=by have m:=Hp.refl w;refine enter func99 Τ Τ (aK Τ) ?_;unfold ly at f;refine sr (wp 1 (nq (sr (wp 1 (bi f λl g f=>wc KK m (bbo g (t.dI m)) λx i=> ?_)))));refine wp 3 (eX i [str ([]:aC)] 9 (λb=>υ (cW b)) Τ Τ aD λk u a=>eX a [bt (0:ζ)] 30 (λb=>υ (cW b)) Τ Τ aD λj s e=>Py e 1 k 0 _ 9 (str l.1) _ Τ (bU (aY _) (aK Τ)) aD aD Τ aD Τ λq d=>Py d 0 j 0 _ 30 (bt l.2) _ Τ (bU (aY _) (aK Τ)) aD aD Τ aD Τ λp c=>nq (sr (wp 2 ?_)));refine nq (ct ?_);obtain rfl:=oi f;refine Ja (Λ (.func 175) #[] #[υ (cW j),υ (cW k)]) Τ aD ?_;exact⟨j,k,oM,c.kp⟩
theorem bdv{c:(aC×aC)}(f:Nat)(e:Nat)(k:agv fu c d h=θ u)(x:Gl w)(r:Hp w (eR [aX f [bt d] 30,aX e [str h] 9]) [aX f [bt d] 30,aX e [str h] 9] w)(t:∀b∈eR [aX f [bt d] 30,aX e [str h] 9],12<=b):CR prog 175 [Κ #[str c.1,str c.2],υ (cW f),υ (cW e)] w λv w'=>v=(ψ u)/\Hp w (eR [aX f [bt d] 30,aX e [str h] 9]) [aX f [bt d] 30,aX e [str h] 9] w':=by refine enter func175 Τ Τ (aK Τ) ?_;unfold agv at k;refine sr (eX r [str c.1,str c.2] 47 (λb=>υ (cW b)) Τ Τ aD λy A j=>wp 1 (nq (sr (wp 1 (sX j 0 y 0 _ 47 _ Τ Τ aD aD ?_)))));refine bi k λq n k=>wc KK j (bbo n (x.hp j t)) λz i=>wp 5 (nq (bi k λm a k=>cut (σ:=η) [4] (λg=>[(4,(ψ g))]) (λg w'=>Hp w (eR [aX f [bt d] 30,aX e [str h] 9]) [aX f [bt d] 30,aX e [str h] 9] w'/\g=m) ?_ ?_));refine cr (sX i 1 f 0 _ 30 _ Τ Τ aD aD (Zn d 0 aD aD (wd a (λp a=> ?_) (λp a=> ?_))));refine wp 1 (gy 15 (Zn q.2 0 aD aD (wp 1 (wd a (λo a=> ?_) (λo a=> ?_)))));refine wp 1 (gy 19 (sX i 2 e 0 _ 9 _ Τ Τ aD aD (wp 3 (wl (ql ?_)))));obtain rfl:=oi a;exact⟨(decide (q.1=h)),_,Τ,by kernel_rfl,(Hp.front (Hp.front i 2 _ Τ) 2 _ Τ).kp,Τ⟩;refine wp 5 (wl (ql ?_));obtain rfl:=oi a;exact⟨ν,_,Τ,by kernel_rfl,(Hp.front (Hp.front i 2 _ Τ) 2 _ Τ).kp,Τ⟩;refine wp 9 (wl (ql ?_));obtain rfl:=oi a;exact⟨ν,_,Τ,by kernel_rfl,(Hp.front (Hp.front i 2 _ Τ) 2 _ Τ).kp,Τ⟩;rintro g s G ⟨l,rfl⟩;refine ct ?_;obtain rfl:=oi k;refine Ja (ψ g) Τ aD ?_;exact⟨oM,l.kp⟩
variable{g:δ (aC×aC)}
theorem aee(l:ε Ζ)(q:Nat)(Q:Nat)(b_3:Nat)(e:Nat)(x:xd fu g d h=θ m)(K:Gl w)(s:q=γ g)(j:Rd w l (Η cV g))(B:q<=Q)(P:Hp w (eR [aX b_3 [bt d] 30,aX e [str h] 9]) [aX b_3 [bt d] 30,aX e [str h] 9] w)(I:∀b∈eR [aX b_3 [bt d] 30,aX e [str h] 9],12<=b)(k:Η cV g≠[]->∀p,l=θ p->p.block∉eR [aX b_3 [bt d] 30,aX e [str h] 9]):CR prog 98 [ξ l q Q,Λ (.func 175) #[] #[υ (cW b_3),υ (cW e)]] w λv w'=>v=(π .i64 m)/\Hp w (eR [aX b_3 [bt d] 30,aX e [str h] 9]) [aX b_3 [bt d] 30,aX e [str h] 9] w':=by subst s;have J:=P;refine enter func98 Τ Τ (aK Τ) ?_;unfold xd at x;refine sr (wp 1 (nq (bi x λA u x=>gu J A [4] (λz=>[]) ?_ ?_)));refine sr (wp 3 (nq (ce (lpS (λo c=>aaw fu g d h o c) _ J u [0,1,4,7,8] (λc=>[(8,(π .i64 c))]) (λ_=>rfl) ?_))));rintro o c O G i a;rw[adb,abg]at a;refine sr (wp 1 (nq (cs (cd a (λD a=> ?_) (λD a=> ?_)))));refine ck (qn (cs (ce (sr (wp 2 (nq (cs ?_)))))));refine cr (wp 3 (gi a λH a=>Pw l (γ g) Q 47 2 .i64 c underlying22 aD aD aD g Τ H (j.dj i k) pP aA1 (gi a λF a=>AZ l cV g 2 c pP (j.dj i k) [str ((el g c).1),str ((el g c).2)] F aD aD aD aD aA1 (bi a λL t a=> ?_))));have f:=(i.front 1 _ Τ).front 1 _ Τ;refine kS 175 #[υ (cW b_3),υ (cW e)] [Κ #[str ((el g c).1),str ((el g c).2)],υ (cW b_3),υ (cW e)] _ fp aD aD (bdv b_3 e t (K.hp f I) (f.hand) (f.lM K I 2 Τ)) ?_;rintro _ N ⟨rfl,r⟩;have n:=Hp.cM f r;clear r;refine nq (cb a (λC a=> ?_) (λC a=> ?_));refine sr (wp 2 (nq (ct (uO (st (Vf (uO ?_)))))));refine Vf ?_;obtain rfl:=oi a;obtain rfl:=oi x;refine Ja (π .i64 c) Τ aD ?_;exact⟨oM,n.kp⟩;exact ck (bn (qn (cr (gi a λE a=>qF c _ aD aD E (wp 1 (wl (ql (le' _ n.kp a))))))));refine Hm (Hn (Jb (Hl (ql ?_))));obtain rfl:=oi a;exact je1 Τ i.kp;rintro z M G y rfl;refine sr (wp 1 (nq (ct ?_)));obtain rfl:=oi x;refine Ja (π .i64 (-1:Int)) Τ aD ?_;exact⟨oM,y.kp⟩
theorem apl(i:ε Nat)(f:ε Ζ)(c:Nat)(b_3:Nat)(k:Nat){r:δ (aC×aC)}(x:abt fu g d h=θ r)(Y:Gl w)(hM:Hp w (eR [aX b_3 [bt d] 30,aX k [str h] 9,bN cV 47 2 i f c g]) [aX b_3 [bt d] 30,aX k [str h] 9,bN cV 47 2 i f c g] w)(X:∀b∈eR [aX b_3 [bt d] 30,aX k [str h] 9,bN cV 47 2 i f c g],12<=b):CR prog 176 [ξ f (γ g) c,Λ (.func 175) #[] #[υ (cW b_3),υ (cW k)]] w λv w'=>∃(o0:ε Nat),∃(a0:ε Ζ),∃(B:Nat),v=(ξ a0 (γ r) B)/\Hp w (eR [aX b_3 [bt d] 30,aX k [str h] 9,bN cV 47 2 i f c g]) [aX b_3 [bt d] 30,aX k [str h] 9,bN cV 47 2 o0 a0 B r] w':=by
 refine enter func176 Τ Τ (aK Τ) ?_;unfold abt at x;refine sr (wp 1 (nq (sr (wp 2 (bi x λZ a1 x=> ?_)))));have t:=(hM.front 1 _ Τ).front 1 _ Τ;refine kS 98 #[] [ξ f (γ g) c,Λ _ #[] #[υ _,υ _]] _ fh aD aD (aee f (γ g) c b_3 k a1 (Y.hp t X) Τ (t.cP 2 Τ) (t.bZ 2 Τ) (t.hand) (t.lM Y X 2 Τ) (t.wa 2 2 Τ Τ Τ)) ?_;rintro _ w3 ⟨rfl,K⟩;have L:Hp w (eR (WL b_3 d k h i f c g)) (WL b_3 d k h i f c g) w3:=Hp.cM (L1:=[aX b_3 [bt d] 30,aX k [str h] 9]) (L2:=[bN cV 47 2 i f c g]) t K;clear K;refine wp 1 (nq (cs (sr (wp 2 (nq (cd x (λh8 x=> ?_) (λh8 x=> ?_)))))));refine sr (wp 2 (nq (ct (st ?_))));obtain rfl:=oi x;refine Ja (ξ f (γ g) c) Τ aD ?_;exact⟨i,f,c,oM,L.kp⟩;refine ck (qn (bi x λJ y x=>cut (σ:=((δ (aC×aC))×Int)) [0,4,5] (λl=>[(0,(ξ f (γ l.1) c)),(5,(π .i64 l.2))]) (λl w'=>Hp w (eR (WL b_3 d k h i f c g)) (WL b_3 d k h i f c l.1) w'/\γ l.1=γ g/\l=J) ?_ ?_));refine sr (wp 1 (gi y λa4 y=>qF Z _ aD aD a4 (wp 1 (nq (ce (AJ (σ:=Nat×_×Int×Int) [0,1,4,5,6] (λ⟨m,a,b0,e⟩=>[(0,(ξ f (γ a) c)),(5,(π .i64 b0)),(6,(π .i64 e))]) (λ⟨m,a,b0,e⟩ w'=>Hp w (eR [aX b_3 [bt d] 30,aX k _ 9,bN cV 47 2 i f c g]) (WL b_3 d k h i f c a) w'/\γ a=γ g/\aau fu d h m a b0 e=θ J) (λ⟨m,a,b0,e⟩=>m) (fu,g,Z,Z+(1:Int)) (by exact⟨L.kp,(by(try simp only[bD])<;>first|rfl|omega|(simp only[bD]at*;omega)),y⟩) ?_))))));rintro⟨_|m,a,b0,e⟩ a9 G ⟨q,a3,j⟩
 ·exact absurd (show ι=θ _ from j) aA2
 rw[acw,abe]at j;refine cs (sr (wp 4 (nq (cd j (λN j=> ?_) (λN j=> ?_)))));refine ck (qn (cs (ce (sr (wp 2 (gi j λW j=>Pw f (γ a) c 47 2 .i64 e underlying22 aD aD aD a Τ W (q.cP 2 Τ) pP aA1 (gi j λV j=> ?_)))))));refine AZ f cV a 2 e pP (q.cP 2 Τ) [str ((el a e).1),str ((el a e).2)] V aD aD aD aD aA1 (eX q [str [],str []] 47 (λb=>υ (cW b)) Τ Τ aD λs a8 E=>gS E 0 s 0 _ [str ((el a e).1),str ((el a e).2)] 47 _ Τ (aK Τ) aD aD Τ aD Τ λa7 A=>nq (sr (wp 1 (fI A 0 s 0 2 _ _ 47 Τ Τ Τ aD aD aD (bi j λa5 C j=> ?_)))));have o:=(A.front 2 _ Τ).front 2 _ Τ;refine kS 175 #[υ (cW b_3),υ (cW k)] [Κ #[str _,str _],υ _,υ _] _ fp aD aD (bdv b_3 k C (Y.hp o X) (o.hand) (o.lM Y X 2 Τ)) ?_;rintro _ I ⟨rfl,z⟩;have p:Hp w (eR (WL b_3 d k h i f c g)) [aX b_3 [bt d] 30,aX k [str h] 9,aX s [str ((el a e).1),str ((el a e).2)] 47,bN cV 47 2 i f c a] I:=Hp.cM (L1:=[aX b_3 [bt d] 30,aX k [str h] 9]) (L2:=[aX s [str ((el a e).1),str ((el a e).2)] 47,bN cV 47 2 i f c a]) o z;clear z;refine wp 1 (nq (cb j (λM j=> ?_) (λM j=> ?_)));refine sr (wp 2 (fI p 2 s 0 2 _ _ 47 Τ Τ Τ aD aD aD (gi j λU j=>Pw f (γ a) c 47 2 .i64 b0 underlying22 aD aD aD a Τ U (p.cP 3 Τ) pP aA1 (gi j λT j=>w_stE p 3 i f c 47 2 b0 a (el a e) Τ pP [str ((el a e).1),str ((el a e).2)] T aD aD aD aA1 aD λH u=> ?_))));replace u:Hp w _ _ H:=u;refine nq (cr (wp 1 (gi j λS j=>qF b0 _ aD aD S (wp 1 (wl (bn (qn ?_)))))));refine cr (wp 1 (gi j λR j=>qF e _ aD aD R (wp 1 (wl (ql ?_)))));exact⟨(m,Ξ a _ _,b0+1,e+1),_,Τ,(mc (dB aD (Je (by(try simp only[bD])<;>first|rfl|omega|(simp only[bD]at*;omega)|simp))) (mc aD (mc aD (mc aD (mc aD Τ))))),⟨(Hp.front (Hp.front (Hp.front u 3 _ Τ) 2 _ Τ) 2 _ Τ).kp,(by(try simp only[bD])<;>first|rfl|omega|(simp only[bD]at*;omega)),j⟩,aY _⟩;refine ck (bn (qn (cr (wp 1 (gi j λQ j=>qF e _ aD aD Q (wp 1 (wl (ql ?_))))))));exact⟨(m,a,b0,e+1),_,Τ,by kernel_rfl,⟨(Hp.front (Hp.front (Hp.front p 3 _ Τ) 2 _ Τ) 2 _ Τ).kp,(by(try simp only[bD])<;>first|rfl|omega|(simp only[bD]at*;omega)),j⟩,aY _⟩;refine Hm (Hn (Jb (Hl (ql ?_))));obtain rfl:=oi j;exact⟨(a,b0),_,Τ,by kernel_rfl,q.kp,(by(try simp only[bD])<;>first|rfl|omega|(simp only[bD]at*;omega)),Τ⟩;rintro l a6 G ⟨D,a2,rfl⟩;refine sr (wp 2 (gi x λP x=>Jp f (γ l.1) c 47 2 .i64 l.2 underlying22 aD aD aD l.1 Τ P (RD D 2 i f c 47 2 l.1 (Α l.2) (([]:aC),([]:aC)) pP Τ underlying22 trivial aA1 aD aD (by first|omega|(simp;omega)) λF n=> ?_)));replace n:Hp w _ _ F:=n;refine nq (sr (wp 2 (gi x λO x=>HV f (γ l.1) c 47 2 .i64 l.2 underlying22 aD aD aD _ aA6 O (gB (gC (by first|rfl|(simp;done)|omega)) (n.bZ 2 Τ)) (wp 1 (nq ?_)))));refine ct ?_;obtain rfl:=oi x;refine Ja (ξ f (Α l.2) c) Τ aD ?_;exact⟨i,f,c,oM,(Hp.cuts n pP 2 Τ (Α l.2)).kp⟩
theorem nV(m:ε Ζ)(G:Nat)(e:Nat)(l:ε Ζ)(F:Nat)(d:Nat)(s:anj fu a h=θ b)(U:Gl w)(I:G=γ a.2.2.2.2.1)(K:Rd w m (Η cV a.2.2.2.2.1))(M:G<=e)(H:F=γ a.2.2.2.2.2)(J:Rd w l (Η eB a.2.2.2.2.2))(L:F<=d):CR prog 100 [Κ #[str a.1,str a.2.1,π .i64 a.2.2.1,str a.2.2.2.1,ξ m G e,ξ l F d],str h] w λv w'=>∃(o0:ε Nat),∃(a0:ε Ζ),∃(C:Nat),∃(o1:ε Nat),∃(a1:ε Ζ),∃(B:Nat),v=(Κ #[str b.1,str b.2.1,π .i64 b.2.2.1,str b.2.2.2.1,ξ a0 (γ b.2.2.2.2.1) C,ξ a1 (γ b.2.2.2.2.2) B])/\Hp w [] [bN cV 47 2 o0 a0 C b.2.2.2.2.1,bN eB 5 1 o1 a1 B b.2.2.2.2.2] w':=by subst I;subst H;refine enter func100 Τ Τ (aK Τ) ?_;unfold anj at s;refine sr (eX (Hp.refl w) (Vt a.1 a.2.1 a.2.2.1 a.2.2.2.1 m (γ a.2.2.2.2.1) e l (γ a.2.2.2.2.2) d) 25 (λa5=>υ (cW a5)) Τ Τ aD λD w2 a2=>eX a2 (kb) 25 (λa5=>υ (cW a5)) Τ Τ aD λV w5 o=>nq (sr (fI o 1 D 0 6 _ _ 25 Τ Τ Τ aD aD aD (bi s λr Y s=> ?_))));refine kS 104 #[] [Κ #[str a.1,str a.2.1,π .i64 a.2.2.1,str a.2.2.2.1,ξ m (γ a.2.2.2.2.1) e,ξ l (γ a.2.2.2.2.2) d]] _ ft aD aD (bfe m (γ a.2.2.2.2.1) e l (γ a.2.2.2.2.2) d Y (U.dI o) Τ (K.hp o) M Τ (J.hp o) L) ?_;rintro _ w9 ⟨O,n,f,N,j,c,rfl,x⟩;have T:=Hp.cM (L1:=[]) (L2:=[aX V (kb) 25,aX D (Vt a.1 a.2.1 a.2.2.1 a.2.2.2.1 m (γ a.2.2.2.2.1) e l (γ a.2.2.2.2.2) d) 25]) o x;clear x;refine gS T 3 D 0 _ (Vt r.1 r.2.1 r.2.2.1 r.2.2.2.1 n (γ r.2.2.2.2.1) f j (γ r.2.2.2.2.2) c) 25 _ Τ (aK Τ) aD aD Τ aD Τ λb6 S=>nq (cs (bi s λa7 Q s=>Pz 4 (λj_ w_ W=>cE [4,5,6] (λw'=>w'.heap[D]? =θ (.cells (Vt r.1 r.2.1 r.2.2.1 r.2.2.2.1 n (γ r.2.2.2.2.1) f j (γ r.2.2.2.2.2) c).toArray 25 (0,0))) j_ w_ W/\True) _ (λ_ _=>⟨cE.same,trivial⟩) aD aD S Τ (nR Ca) λb3 p=>rp 3 [0] (gU _ 1 8 _ _ (λ_ _ _ g=>g.1) _ Τ Τ aD aD aD aD aD Τ (dA Τ (by intro w Z;exact(yM D 4 _ 25 _ Z Τ aD aD))) (by exact p.bP 3 Τ) (rp 1 [2] (ro 3 Τ ?_)))));refine kS 99 #[] [str h] _ fg aD aD (azw Q (U.dI p)) ?_;rintro _ b5 ⟨a4,a3,rfl,u⟩;have A:=Hp.cM (L1:=[]) (L2:=[bN cV 47 2 O n f r.2.2.2.2.1,bN eB 5 1 N j c r.2.2.2.2.2,aX V (kb) 25,aX D (Vt r.1 r.2.1 r.2.2.1 r.2.2.2.1 n (γ r.2.2.2.2.1) f j (γ r.2.2.2.2.2) c) 25]) p u;clear u;refine wl (VW (by exact⟨cE.new (A.bP 5 Τ),trivial⟩) (By aD (bi s λE P s=> ?_)));have k:=((A.front 2 _ Τ).front 2 _ Τ).front 2 _ Τ;refine kS 176 #[] [ξ n (γ r.2.2.2.2.1) f,Λ (.func 175) #[] #[υ _,υ _]] _ ent176 aD aD (apl O n f a4 a3 P (U.dI k) (k.hand) (k.lM U (λ_ g=>absurd g aA2) 3 Τ)) ?_;rintro _ b2 ⟨X,q,i,rfl,t⟩;have R:=Hp.cM k t;clear t;refine wp 1 (Py R 5 D 4 _ 25 (ξ q (γ E) i) _ Τ (bU (aY _) (aK Τ)) aD aD Τ aD Τ λb0 z=>nq (sr (fI z 5 D 0 6 _ _ 25 Τ Τ Τ aD aD aD (gS z 4 V 0 _ (Vt r.1 r.2.1 r.2.2.1 r.2.2.2.1 q (γ E) i j (γ r.2.2.2.2.2) c) 25 _ Τ (aK Τ) aD aD Τ aD Τ λa9 y=>nq ?_))));refine ct ?_;obtain rfl:=oi s;refine Em _ [Κ #[str r.1,str r.2.1,π .i64 r.2.2.1,str r.2.2.2.1,ξ q (γ E) i,ξ j (γ r.2.2.2.2.2) c]] _ Τ Τ (lD (Es y 4 V 25 _ Τ aD aD aD) xT) Τ ?_;exact⟨X,q,i,N,j,c,oM,(Hp.front (Hp.front y 3 _ Τ) 3 _ Τ).kp⟩
noncomputable def He(fu:Nat):=kl func100 ⟨[.pr .s' (.pr .s' (.pr (.i' .i64) (.pr .s' (.pr (.r' (.pr .s' .s')) (.r' .c'))))),.s'],[.r' (.pr .s' (.pr .s' (.pr (.i' .i64) (.pr .s' (.pr (.l' 47 32 (.pr .s' .s')) (.l' 5 1 .c'))))))],λx=>.one (anj fu x.1 x.2)⟩ (KE 2 47 32 (.pr .s' .s') 5 1 .c' (λy=>y.2.2.2.2.1) (λy=>y.2.2.2.2.2) (λb x=>[Κ #[str x.1.1,str x.1.2.1,π .i64 x.1.2.2.1,str x.1.2.2.2.1,ξ (b 0).a (b 0).ln (b 0).cap,ξ (b 1).a (b 1).ln (b 1).cap],str x.2]) (λy k g e j f d=>Κ #[str y.1,str y.2.1,π .i64 y.2.2.1,str y.2.2.2.1,ξ k g e,ξ j f d]) λw S b x y i h c=>nV (b 0).a (b 0).ln (b 0).cap (b 1).a (b 1).ln (b 1).cap h i.1 (c 0 _ _ Τ).1 (c 0 _ _ Τ).2.1 (c 0 _ _ Τ).2.2 (c 1 _ _ Τ).1 (c 1 _ _ Τ).2.1 (c 1 _ _ Τ).2.2)
end Go.Proofs
