/-
  The law MessageKeeps holds for a message and texts of at most 1048576 letters together (part 5 of 8).
-/
import Derived.Test.YtfkbagnbkppmjaaGreatDoorMq4
import Derived.Test.YtfkbagnbkppmjaaGreatDoorProg
set_option linter.unusedVariables false
namespace Go.Proofs
open Go.Wk Go.Px
def Vr(w:World)(g:Nat)(cs:List Value):Prop:=∃t f,w.heap[g]? =some (.cells cs.toArray t f)
theorem Vr.hp{w w':World}{g:Nat}{cs:List Value}{S:List Nat}{L:List Res}(h:Vr w g cs)(hH:Hp w S L w')(hS:g∉S):Vr w' g cs:=by
 obtain⟨t,f,e⟩:=h;exact⟨t,f,by rw [hH.below g (Array.getElem?_eq_some_iff.1 e).1 hS];exact e⟩
theorem Vr.rd{w:World}{g:Nat}{cs:List Value}(h:Vr w g cs):Rd w (some ⟨g,0,none⟩) cs:=by
 obtain⟨t,f,e⟩:=h;intro j v hv;exact⟨_,rfl,by cases j<;>simp [World.cell?,e,Addr.add,hv]⟩
structure Gl (w:World):Prop where
 gs:12<=w.heap.size
 specials:Vr w 0 (List.flatMap eS ada)
 kinds:Vr w 2 (List.flatMap ais acn)
 pow10:Vr w 3 (Lib.pow10Tab.map fun z=>Value.int .u64 z)
 maxlen:∃m,Vr w 1 [.int .i64 m]
theorem Gl.hp{w w':World}{S:List Nat}{L:List Res}(h:Gl w)(hH:Hp w S L w')(hS:∀b∈S,12<=b):Gl w' where
 gs:=Nat.le_trans h.gs hH.size
 specials:=h.specials.hp hH (fun hm=>absurd (hS 0 hm) (by decide))
 kinds:=h.kinds.hp hH (fun hm=>absurd (hS 2 hm) (by decide))
 pow10:=h.pow10.hp hH (fun hm=>absurd (hS 3 hm) (by decide))
 maxlen:=let ⟨m,hm⟩:=h.maxlen;⟨m,hm.hp hH (fun hm=>absurd (hS 1 hm) (by decide))⟩
theorem Gl.hp0{w w':World}{L:List Res}(h:Gl w)(hH:Hp w [] L w'):Gl w':=h.hp hH (by simp)
theorem _root_.Go.Wk.Hp.highs{w0 w:World}{S:List Nat}{L L1:List Res}(h:Hp w0 S L w)(hG:Gl w0)(hS:∀x∈S,12<=x)(m:Nat)(hL:L.take m=L1):∀b∈ahs L1,12<=b:=by
 intro b hb;obtain⟨r,hr,e⟩:=mem_owns hb;subst hL
 rcases((h.res r (List.mem_of_mem_take hr)).2 b e).2 with h1|h1
 ·exact Nat.le_trans hG.gs h1
 ·exact hS b h1
theorem Gl.cell{w:World}(h:Gl w):∃m,w.cell? ⟨1,0,none⟩=some (.int .i64 m):=by
 obtain⟨m,t,f,e⟩:=h.maxlen;exact⟨m,by simp [World.cell?,e]⟩
end Go.Proofs
