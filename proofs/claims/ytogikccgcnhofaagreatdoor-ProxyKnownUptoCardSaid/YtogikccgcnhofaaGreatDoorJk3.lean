/-
  The law ProxyKnown holds: the card of its second form (part 3 of 23).
-/
import Derived.Test.YtogikccgcnhofaaGreatDoorJk2
import Derived.Test.YtogikccgcnhofaaGreatDoorProg
set_option linter.unusedVariables false
namespace Go.Proofs
open Go.Wk Go.Px
def Vr(w:World)(g:Nat)(cs:List Value):Prop:=∃t f,w.heap[g]? =some (.cells cs.toArray t f)
theorem Vr.hp{w w':World}{g:Nat}{cs:List Value}{S:List Nat}{L:List Res}(h:Vr w g cs)(hH:Hp w S L w')(hS:g∉S):Vr w' g cs:=by
 obtain⟨t,f,e⟩:=h;exact⟨t,f,by rw [hH.below g (Array.getElem?_eq_some_iff.1 e).1 hS];exact e⟩
theorem Vr.rd{w:World}{g:Nat}{cs:List Value}(h:Vr w g cs):Rd w (some ⟨g,0,none⟩) cs:=by
 obtain⟨t,f,e⟩:=h;intro j v hv;exact⟨_,rfl,by cases j<;>simp [World.cell?,e,Addr.add,hv]⟩
structure Gl (w:World):Prop where
 gs:12<=w.heap.size
 specials:Vr w 1 (List.flatMap eS gl_specials)
 kinds:Vr w 6 (List.flatMap enamekind gl_kinds)
 classes:Vr w 4 (List.flatMap eS gl_classes)
 rounds:Vr w 7 (List.flatMap (eI .u32) gl_rounds)
 pow10:Vr w 5 (Lib.pow10Tab.map fun z=>Value.int .u64 z)
 maxlen:∃m,Vr w 0 [.int .i64 m]
theorem Gl.hp{w w':World}{S:List Nat}{L:List Res}(h:Gl w)(hH:Hp w S L w')(hS:∀b∈S,12<=b):Gl w' where
 gs:=Nat.le_trans h.gs hH.size
 specials:=h.specials.hp hH (fun hm=>absurd (hS 1 hm) (by decide))
 kinds:=h.kinds.hp hH (fun hm=>absurd (hS 6 hm) (by decide))
 classes:=h.classes.hp hH (fun hm=>absurd (hS 4 hm) (by decide))
 rounds:=h.rounds.hp hH (fun hm=>absurd (hS 7 hm) (by decide))
 pow10:=h.pow10.hp hH (fun hm=>absurd (hS 5 hm) (by decide))
 maxlen:=let ⟨m,hm⟩:=h.maxlen;⟨m,hm.hp hH (fun hm=>absurd (hS 0 hm) (by decide))⟩
theorem Gl.hp0{w w':World}{L:List Res}(h:Gl w)(hH:Hp w [] L w'):Gl w':=h.hp hH (by simp)
theorem Gl.cell{w:World}(h:Gl w):∃m,w.cell? ⟨0,0,none⟩=some (.int .i64 m):=by
 obtain⟨m,t,f,e⟩:=h.maxlen;exact⟨m,by simp [World.cell?,e]⟩
end Go.Proofs
