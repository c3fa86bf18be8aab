/-
  The law BodiesBack holds (part 7 of 9).
-/
import Derived.Test.YtomjpealmhpciaaGreatDoorYe6
import Derived.Test.YtomjpealmhpciaaGreatDoorProg
open Go renaming Value → θ, World → ν
open Go.Value renaming int → υ
open Option renaming none → ε, some → δ
set_option linter.unusedVariables false
namespace Go.Proofs
open Go.Wk Go.Px
def Vr(w:ν)(g:Nat)(cs:List θ):Prop:=∃t f,w.heap[g]? =δ (.cells cs.toArray t f)
variable {w b:ν}{g:Nat}{a:List θ}{S:List Nat}{L:List cB}
theorem Vr.hp(h:Vr w g a)(d:Hp w S L b)(c:g∉S):Vr b g a:=by obtain⟨t,f,e⟩:=h;exact⟨t,f,by rw [d.below g (bW.1 e).1 c];exact e⟩
theorem Vr.rd(h:Vr w g a):Rd w (δ ⟨g,0,ε⟩) a:=by obtain⟨t,f,e⟩:=h;intro j v c;exact⟨_,rfl,by cases j<;>simp [World.cell?,e,Addr.add,c]⟩
structure Gl (w:ν):Prop where
 gs:9<=w.heap.size
 specials:Vr w 0 (List.flatMap eS W6)
 kinds:Vr w 2 (List.flatMap Fp Iq)
 classes:Vr w 4 (List.flatMap eS z7)
 pow10:Vr w 3 (Lib.pow10Tab.map λz=>υ .u64 z)
 maxlen:∃m,Vr w 1 [.int .i64 m]
theorem Gl.hp{w w':ν}{S:List Nat}{L:List cB}(h:Gl w)(c:Hp w S L w')(d:∀b∈S,9<=b):Gl w' where
 gs:=Ja h.gs c.size
 specials:=h.specials.hp c (λa=>absurd (d 0 a) aA1)
 kinds:=h.kinds.hp c (λa=>absurd (d 2 a) aA1)
 classes:=h.classes.hp c (λa=>absurd (d 4 a) aA1)
 pow10:=h.pow10.hp c (λa=>absurd (d 3 a) aA1)
 maxlen:=let ⟨m,a⟩:=h.maxlen;⟨m,a.hp c (λa=>absurd (d 1 a) aA1)⟩
theorem Gl.iJ(h:Gl w)(a:Hp w [] L b):Gl b:=h.hp a aA2
theorem _root_.Go.Wk.Hp.qW{L1:List cB}(h:Hp w S L b)(i:Gl w)(f:∀x∈S,9<=x)(m:Nat)(g:L.take m=L1):∀j∈dE L1,9<=j:=by
 intro j d;obtain⟨r,c,e⟩:=nZ d;subst g;rcases((h.res r (Cw c)).2 j e).2 with a|a
 ·exact Ja i.gs a
 ·exact f j a
theorem Gl.cell(h:Gl w):∃m,w.cell? ⟨1,0,ε⟩=δ (.int .i64 m):=by obtain⟨m,t,f,e⟩:=h.maxlen;exact⟨m,by simp [World.cell?,e]⟩
end Go.Proofs
