/-
  The law RoutingArrives holds (part 7 of 9).
-/
import Derived.Test.YtiefafeoagcedaaGreatDoorYa6
import Derived.Test.YtiefafeoagcedaaGreatDoorProg
open Go renaming Value → ς, World → φ
open Go.Value renaming int → π
open List renaming flatMap → Η
open Option renaming none → ι, some → θ
set_option linter.unusedVariables false
namespace Go.Proofs
open Go.Wk Go.Px
def Vr(w:φ)(g:Nat)(cs:δ ς):Prop:=∃t f,w.heap[g]? =θ (.cells cs.toArray t f)
variable{w b:φ}{g:Nat}{a:δ ς}{S:δ Nat}{L:δ cL}
theorem Vr.hp(h:Vr w g a)(d:Hp w S L b)(c:g∉S):Vr b g a:=by obtain⟨t,f,e⟩:=h;exact⟨t,f,by rw[d.below g (bY.1 e).1 c];exact e⟩
theorem Vr.rd(h:Vr w g a):Rd w (θ ⟨g,0,ι⟩) a:=by obtain⟨t,f,e⟩:=h;intro j v c;exact⟨_,Τ,by cases j<;>simp[World.cell?,e,Addr.add,c]⟩
structure Gl (w:φ):Prop where
 gs:12<=w.heap.size
 specials:Vr w 1 (Η eS zt)
 kinds:Vr w 6 (Η Eh Et)
 classes:Vr w 4 (Η eS lr)
 rounds:Vr w 7 (Η (eI .u32) Jd)
 pow10:Vr w 5 (Lib.pow10Tab.map λz=>π .u64 z)
 errS:∃te pe,Vr w 2 [.iface te pe]
 errR:∃te pe,Vr w 3 [.iface te pe]
 maxlen:∃m,Vr w 0 [.int .i64 m]
theorem Gl.hp{w w':φ}{S:δ Nat}{L:δ cL}(h:Gl w)(c:Hp w S L w')(d:∀b∈S,12<=b):Gl w' where
 gs:=gB h.gs c.size
 specials:=h.specials.hp c (λa=>absurd (d 1 a) aA1)
 kinds:=h.kinds.hp c (λa=>absurd (d 6 a) aA1)
 classes:=h.classes.hp c (λa=>absurd (d 4 a) aA1)
 rounds:=h.rounds.hp c (λa=>absurd (d 7 a) aA1)
 pow10:=h.pow10.hp c (λa=>absurd (d 5 a) aA1)
 errS:=let ⟨e,f,a⟩:=h.errS;⟨e,f,a.hp c (λa=>absurd (d 2 a) aA1)⟩
 errR:=let ⟨e,f,a⟩:=h.errR;⟨e,f,a.hp c (λa=>absurd (d 3 a) aA1)⟩
 maxlen:=let ⟨m,a⟩:=h.maxlen;⟨m,a.hp c (λa=>absurd (d 0 a) aA1)⟩
theorem Gl.dI(h:Gl w)(a:Hp w [] L b):Gl b:=h.hp a aA2
theorem _root_.Go.Wk.Hp.lM{L1:δ cL}(h:Hp w S L b)(i:Gl w)(f:∀x∈S,12<=x)(m:Nat)(g:L.take m=L1):∀j∈eR L1,12<=j:=by
 intro j d;obtain⟨r,c,e⟩:=bhm d;subst g;rcases((h.res r (Bt c)).2 j e).2 with a|a
 ·exact gB i.gs a
 ·exact f j a
theorem Gl.cell(h:Gl w):∃m,w.cell? ⟨0,0,ι⟩=θ (.int .i64 m):=by obtain⟨m,t,f,e⟩:=h.maxlen;exact⟨m,by simp[World.cell?,e]⟩
end Go.Proofs
