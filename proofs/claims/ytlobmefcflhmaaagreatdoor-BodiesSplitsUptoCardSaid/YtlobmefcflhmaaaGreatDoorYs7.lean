/-
  The law BodiesSplits holds (part 7 of 9).
-/
import Derived.Test.YtlobmefcflhmaaaGreatDoorYs6
import Derived.Test.YtlobmefcflhmaaaGreatDoorProg
open Go renaming Value → ξ, World → ο
open Go.Value renaming int → Δ
open List renaming flatMap → Η
open Option renaming none → ι, some → θ
set_option linter.unusedVariables false
namespace Go.Proofs
open Go.Wk Go.Px
def Vr(w:ο)(g:Nat)(cs:δ ξ):Prop:=∃t f,w.heap[g]? =θ (.cells cs.toArray t f)
variable{w b:ο}{g:Nat}{a:δ ξ}{S:δ Nat}{L:δ cF}
theorem Vr.hp(h:Vr w g a)(d:Hp w S L b)(c:g∉S):Vr b g a:=by obtain⟨t,f,e⟩:=h;exact⟨t,f,by rw[d.below g (cG.1 e).1 c];exact e⟩
theorem Vr.rd(h:Vr w g a):Rd w (θ ⟨g,0,ι⟩) a:=by obtain⟨t,f,e⟩:=h;intro j v c;exact⟨_,Τ,by cases j<;>simp[World.cell?,e,Addr.add,c]⟩
structure Gl (w:ο):Prop where
 gs:9<=w.heap.size
 specials:Vr w 0 (Η eS bo)
 kinds:Vr w 3 (Η Fi vD)
 classes:Vr w 8 (Η eS dv)
 pow10:Vr w 2 (Lib.pow10Tab.map λz=>Δ .u64 z)
 maxlen:∃m,Vr w 1 [.int .i64 m]
theorem Gl.hp{w w':ο}{S:δ Nat}{L:δ cF}(h:Gl w)(c:Hp w S L w')(d:∀b∈S,9<=b):Gl w' where
 gs:=tN h.gs c.size
 specials:=h.specials.hp c (λa=>absurd (d 0 a) aA1)
 kinds:=h.kinds.hp c (λa=>absurd (d 3 a) aA1)
 classes:=h.classes.hp c (λa=>absurd (d 8 a) aA1)
 pow10:=h.pow10.hp c (λa=>absurd (d 2 a) aA1)
 maxlen:=let ⟨m,a⟩:=h.maxlen;⟨m,a.hp c (λa=>absurd (d 1 a) aA1)⟩
theorem Gl.iY(h:Gl w)(a:Hp w [] L b):Gl b:=h.hp a aA2
theorem _root_.Go.Wk.Hp.sM{L1:δ cF}(h:Hp w S L b)(i:Gl w)(f:∀x∈S,9<=x)(m:Nat)(g:L.take m=L1):∀j∈eP L1,9<=j:=by
 intro j d;obtain⟨r,c,e⟩:=nB d;subst g;rcases((h.res r (Cs c)).2 j e).2 with a|a
 ·exact tN i.gs a
 ·exact f j a
theorem Gl.cell(h:Gl w):∃m,w.cell? ⟨1,0,ι⟩=θ (.int .i64 m):=by obtain⟨m,t,f,e⟩:=h.maxlen;exact⟨m,by simp[World.cell?,e]⟩
end Go.Proofs
