/-
  The law BodiesRound holds (part 6 of 8).
-/
import Derived.Test.YtbljlpflaehacaaGreatDoorYd5
import Derived.Test.YtbljlpflaehacaaGreatDoorProg
set_option linter.unusedVariables false
namespace Go.Proofs
open Go.Wk Go.Px
def Vr(w:World)(g:Nat)(cs:List Value):Prop:=∃t f,w.heap[g]? =some (.cells cs.toArray t f)
variable {w b:World}{g:Nat}{a:List Value}{S:List Nat}{L:List cF}
theorem Vr.hp(h:Vr w g a)(c:Hp w S L b)(d:g∉S):Vr b g a:=by obtain⟨t,f,e⟩:=h;exact⟨t,f,by rw [c.below g (cI.1 e).1 d];exact e⟩
theorem Vr.rd(h:Vr w g a):Rd w (some ⟨g,0,none⟩) a:=by obtain⟨t,f,e⟩:=h;intro j v c;exact⟨_,rfl,by cases j<;>simp [World.cell?,e,Addr.add,c]⟩
structure Gl (w:World):Prop where
 gs:9<=w.heap.size
 specials:Vr w 0 (List.flatMap eS N9)
 kinds:Vr w 2 (List.flatMap Dt Gn)
 classes:Vr w 6 (List.flatMap eS N7)
 pow10:Vr w 3 (Lib.pow10Tab.map fun z=>Value.int .u64 z)
 maxlen:∃m,Vr w 1 [.int .i64 m]
theorem Gl.hp{w w':World}{S:List Nat}{L:List cF}(h:Gl w)(c:Hp w S L w')(d:∀b∈S,9<=b):Gl w' where
 gs:=IZ h.gs c.size
 specials:=h.specials.hp c (fun a=>absurd (d 0 a) aA1)
 kinds:=h.kinds.hp c (fun a=>absurd (d 2 a) aA1)
 classes:=h.classes.hp c (fun a=>absurd (d 6 a) aA1)
 pow10:=h.pow10.hp c (fun a=>absurd (d 3 a) aA1)
 maxlen:=let ⟨m,a⟩:=h.maxlen;⟨m,a.hp c (fun a=>absurd (d 1 a) aA1)⟩
theorem Gl.hY(h:Gl w)(a:Hp w [] L b):Gl b:=h.hp a aA2
theorem _root_.Go.Wk.Hp.sE{L1:List cF}(h:Hp w S L b)(i:Gl w)(f:∀x∈S,9<=x)(m:Nat)(g:L.take m=L1):∀j∈dC L1,9<=j:=by
 intro j d;obtain⟨r,c,e⟩:=nF d;subst g;rcases((h.res r (Bd c)).2 j e).2 with a|a
 ·exact IZ i.gs a
 ·exact f j a
theorem Gl.cell(h:Gl w):∃m,w.cell? ⟨1,0,none⟩=some (.int .i64 m):=by obtain⟨m,t,f,e⟩:=h.maxlen;exact⟨m,by simp [World.cell?,e]⟩
end Go.Proofs
