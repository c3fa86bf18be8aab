/-
  The law BodiesApart holds (part 6 of 8).
-/
import Derived.Test.YtbljlpflaehacaaGreatDoorYc5
import Derived.Test.YtbljlpflaehacaaGreatDoorProg
set_option linter.unusedVariables false
namespace Go.Proofs
open Go.Wk Go.Px
def Vr(w:World)(g:Nat)(cs:List Value):Prop:=∃t f,w.heap[g]? =some (.cells cs.toArray t f)
theorem Vr.hp{w w':World}{g:Nat}{cs:List Value}{S:List Nat}{L:List bX}(h:Vr w g cs)(b:Hp w S L w')(a:g∉S):Vr w' g cs:=by obtain⟨t,f,e⟩:=h;exact⟨t,f,by rw [b.below g (cA.1 e).1 a];exact e⟩
theorem Vr.rd{w:World}{g:Nat}{cs:List Value}(h:Vr w g cs):Rd w (some ⟨g,0,none⟩) cs:=by obtain⟨t,f,e⟩:=h;intro j v a;exact⟨_,rfl,by cases j<;>simp [World.cell?,e,Addr.add,a]⟩
structure Gl (w:World):Prop where
 gs:9<=w.heap.size
 specials:Vr w 0 (List.flatMap eS YA)
 kinds:Vr w 2 (List.flatMap Aa Kd)
 classes:Vr w 6 (List.flatMap eS XZ)
 pow10:Vr w 3 (Lib.pow10Tab.map fun z=>Value.int .u64 z)
 maxlen:∃m,Vr w 1 [.int .i64 m]
theorem Gl.hp{w w':World}{S:List Nat}{L:List bX}(h:Gl w)(c:Hp w S L w')(d:∀b∈S,9<=b):Gl w' where
 gs:=DH h.gs c.size
 specials:=h.specials.hp c (fun a=>absurd (d 0 a) aA1)
 kinds:=h.kinds.hp c (fun a=>absurd (d 2 a) aA1)
 classes:=h.classes.hp c (fun a=>absurd (d 6 a) aA1)
 pow10:=h.pow10.hp c (fun a=>absurd (d 3 a) aA1)
 maxlen:=let ⟨m,a⟩:=h.maxlen;⟨m,a.hp c (fun a=>absurd (d 1 a) aA1)⟩
theorem Gl.hO{w w':World}{L:List bX}(h:Gl w)(a:Hp w [] L w'):Gl w':=h.hp a aA2
theorem _root_.Go.Wk.Hp.qF{w0 w:World}{S:List Nat}{L L1:List bX}(h:Hp w0 S L w)(g:Gl w0)(d:∀x∈S,9<=x)(m:Nat)(f:L.take m=L1):∀b∈cR L1,9<=b:=by
 intro b c;obtain⟨r,a,e⟩:=lI c;subst f;rcases((h.res r (yE a)).2 b e).2 with h1|h1
 ·exact DH g.gs h1
 ·exact d b h1
theorem Gl.cell{w:World}(h:Gl w):∃m,w.cell? ⟨1,0,none⟩=some (.int .i64 m):=by obtain⟨m,t,f,e⟩:=h.maxlen;exact⟨m,by simp [World.cell?,e]⟩
end Go.Proofs
