/-
  The law HeaderItems holds, second form: for every text and every item of at most 1048576 values and letters the call returns true; no condition beyond the statement's own (part 2 of 7).
-/
import Derived.Test.YtbfppjfgcjpknaaGreatDoorHj1
import Derived.Lib.SplitLaws
import Derived.Lib.Split
import Derived.Test.YtbfppjfgcjpknaaGreatDoorProg
set_option linter.unusedSimpArgs false
set_option linter.unusedVariables false
namespace Go.Px
open Go.Wk
def spl (c : UInt8) : List UInt8 → List (List UInt8)
  | [] => [[]]
  | b :: l => if b = c then [] :: spl c l else match spl c l with | x :: r => (b :: x) :: r | [] => [[b]]
theorem spl_ne (c : UInt8) : ∀ l, spl c l ≠ []
  | [] => by simp [spl]
  | b :: l => by unfold spl; split; simp; split <;> simp
theorem splitK_spl (c : UInt8) : ∀ (s : List UInt8) (k : Nat), s.count c ≤ k → Lib.splitK [c] 0 k s = spl c s
  | [], k, _ => by cases k <;> simp [Lib.splitK, Lib.index, spl]
  | b :: l, k, h => by
    by_cases hb : b = c
    · subst hb
      obtain ⟨k, rfl⟩ : ∃ j, k = j + 1 := ⟨k - 1, by simp at h; omega⟩
      have ih := splitK_spl b l k (by simp at h; omega)
      simp [Lib.splitK, Lib.index, spl, ih]
    · have hc : (b :: l).count c = l.count c := by simp [List.count_cons, hb]
      rw [hc] at h
      have ih := splitK_spl c l k h
      unfold spl
      rw [if_neg hb, ← ih]
      cases k with
      | zero => simp [Lib.splitK]
      | succ k =>
        have hi : Lib.index (b :: l) [c] = if Lib.index l [c] == -1 then -1 else Lib.index l [c] + 1 := by
          conv => lhs; unfold Lib.index
          rw [if_neg (by simp; exact fun h => hb h.symm)]
        have hg := Lib.index_ge l [c]
        unfold Lib.splitK
        rw [hi]
        by_cases h1 : Lib.index l [c] = -1
        · simp [h1]
        · have h2 : ¬ (Lib.index l [c] + 1) = -1 := by omega
          have h3 : (Lib.index l [c] + 1).toNat = (Lib.index l [c]).toNat + 1 := by omega
          simp [h1, h2, h3]
theorem split_spl (s : List UInt8) (c : UInt8) : (Lib.splitB ⟨#[c]⟩ 0 (Lib.countB ⟨s.toArray⟩ ⟨#[c]⟩) ⟨s.toArray⟩).map Value.string = (spl c s).map str := by
  have h := Lib.splitB_data ⟨#[c]⟩ 0 (Lib.countB ⟨s.toArray⟩ ⟨#[c]⟩) ⟨s.toArray⟩
  have e : Lib.splitK [c] 0 (Lib.countB ⟨s.toArray⟩ ⟨#[c]⟩) s = spl c s := splitK_spl c s _ (Nat.le_of_eq (Lib.count_one c s).symm)
  have h' : (Lib.splitB ⟨#[c]⟩ 0 (Lib.countB ⟨s.toArray⟩ ⟨#[c]⟩) ⟨s.toArray⟩).map (·.data.toList) = spl c s := h.trans e
  rw [← h', List.map_map]
  refine List.map_congr_left fun x _ => ?_
  rfl
theorem split_spl_len (s : List UInt8) (c : UInt8) : Lib.countB ⟨s.toArray⟩ ⟨#[c]⟩ + 1 = (spl c s).length := by
  have : ∀ s : List UInt8, s.count c + 1 = (spl c s).length := by
    intro s
    induction s with
    | nil => rfl
    | cons b l ih =>
      unfold spl
      by_cases hb : b = c
      · subst hb; simp; omega
      · rw [if_neg hb]
        have hc : (b :: l).count c = l.count c := by simp [List.count_cons, hb]
        rw [hc, ih]
        split
        · rename_i h; rw [h]; simp
        · rename_i h; exact absurd h (spl_ne c l)
  show Lib.count s [c] + 1 = _
  rw [Lib.count_one, this]
theorem apz (c : UInt8) : ∀ s : List UInt8, (spl c s).length ≤ s.length + 1 ∧ ∀ x ∈ spl c s, x.length ≤ s.length
  | [] => by simp [spl]
  | b :: l => by
    have ih := apz c l
    unfold spl
    split
    · simp; exact ⟨ih.1, fun x hx => by have := ih.2 x hx; omega⟩
    · split
      · rename_i x r h
        rw [h] at ih
        simp at ih ⊢
        exact ⟨by omega, by omega, fun a ha => by have := ih.2.2 a ha; omega⟩
      · simp
theorem row_strs {w : World} (a : Addr) (xs : List (List UInt8)) (h : Rd w (some a) (xs.map str)) : ∀ (j : Nat) x, (xs.map fun l => (⟨l.toArray⟩ : ByteArray))[j]? = some x → w.cell? (a.add j) = some (.string x) := by
  intro j x hx
  simp only [List.getElem?_map, Option.map_eq_some_iff] at hx
  obtain ⟨l, hl, rfl⟩ := hx
  obtain ⟨p, e, hc⟩ := h j (str l) (by simp [hl])
  cases e
  exact hc
theorem rd_spot {w : World} {p : Addr} {v : Value} (h : w.cell? p = some v) : p.spot = none := by
  unfold World.cell? at h
  split at h
  · by_cases hs : p.spot.isSome = true
    · simp [hs] at h
    · simpa using hs
  · simp at h
theorem join_len (sep : List UInt8) (m : Nat) : ∀ xs : List (List UInt8), (∀ x ∈ xs, x.length ≤ m) → (Lib.join xs sep).length ≤ xs.length * (m + sep.length)
  | [], _ => by simp [Lib.join_nil]
  | x :: r, h => by
    rw [Lib.join_cons]
    have hr : (Lib.joinTail sep r).length ≤ r.length * (m + sep.length) := by
      have hr' : ∀ y ∈ r, y.length ≤ m := fun y hy => h y (List.mem_cons_of_mem _ hy)
      clear h
      induction r with
      | nil => simp [Lib.joinTail]
      | cons y r ih =>
        have := ih (fun z hz => hr' z (List.mem_cons_of_mem _ hz))
        have hy := hr' y (by simp)
        simp only [Lib.joinTail, List.map_cons, List.flatten_cons, List.length_append, List.length_cons, Nat.add_mul, Nat.one_mul] at *
        omega
    have hx := h x (by simp)
    rw [List.length_append, List.length_cons, Nat.add_mul, Nat.one_mul]
    omega
def amb (g : List UInt8) : Bool := decide (1 ≤ g.length) && decide (g.length ≤ 4) && g.all hexB
def grpN (g : List UInt8) : List UInt8 := if Lib.trimLeftS (lowP g) [48] = [] then [48] else Lib.trimLeftS (lowP g) [48]
theorem grpN_len (g : List UInt8) (h : amb g = true) : (grpN g).length ≤ 4 := by
  unfold amb at h
  simp only [Bool.and_eq_true, decide_eq_true_eq] at h
  unfold grpN
  split
  · simp
  · have := trimLeftS_len (lowP g) [48]; simp at this; omega
def ahw (s : List UInt8) : List (List UInt8) × Bool := if (spl 58 s).all amb then ((spl 58 s).map grpN, true) else ([], false)
theorem grpList_bd (s : List UInt8) : (ahw s).1.length ≤ s.length + 1 ∧ ∀ x ∈ (ahw s).1, x.length ≤ 4 := by
  have h := apz 58 s
  unfold ahw
  split
  · rename_i ha
    refine ⟨by simp; exact h.1, fun x hx => ?_⟩
    simp at hx
    obtain ⟨y, hy, rfl⟩ := hx
    exact grpN_len y (List.all_eq_true.1 ha y hy)
  · simp
theorem el_app {α : Type} [Inhabited α] (a b : List α) (k : Nat) (h : a.length = k) : el (a ++ b) (k : Int) = el b 0 := by
  subst h; simp only [el, Int.toNat_natCast, List.getD_eq_getElem?_getD]; rw [List.getElem?_append_right (Nat.le_refl _)]; simp
theorem el_drop0 {α : Type} [Inhabited α] (l : List α) (k : Nat) : el (l.drop k) 0 = el l (k : Int) := by simp [el]
def aow (X : List (List UInt8)) (k : Nat) : List (List UInt8) := List.map grpN (List.take k X) ++ List.drop k X
theorem grpMix_len (X : List (List UInt8)) (k : Nat) (h : k ≤ X.length) : (aow X k).length = X.length := by simp [aow]; omega
theorem grpMix_zero (X : List (List UInt8)) : aow X 0 = X := by simp [aow]
theorem grpMix_all (X : List (List UInt8)) : aow X X.length = X.map grpN := by simp [aow]
theorem grp_step (X : List (List UInt8)) (k : Nat) (v : List UInt8) (h : k < X.length) (hv : v = grpN (el X (k : Int))) :
    aow X (k + 1) = List.set (aow X k) (k : Int).toNat v := by
  unfold aow
  have hl : (List.map grpN (List.take k X)).length = k := by simp; omega
  rw [Int.toNat_natCast, List.set_append_right _ _ (by omega), hl, Nat.sub_self, take_snoc' X k h, hv]
  rw [List.drop_eq_getElem_cons h]
  simp only [List.map_append, List.map_cons, List.map_nil, List.append_assoc, List.cons_append, List.nil_append, List.set_cons_zero]
theorem grp_el (X : List (List UInt8)) (k : Nat) (h : k < X.length) : el (aow X k) (k : Int) = el X (k : Int) := by
  unfold aow
  rw [el_app _ _ k (by simp; omega), el_drop0]
theorem grpN_zero (g : List UInt8) (h : Lib.trimLeftS (g.map akf) [48] = []) : [48] = grpN g := by unfold grpN; rw [if_pos h]
theorem grpN_else (g : List UInt8) (h : ¬ Lib.trimLeftS (g.map akf) [48] = []) : Lib.trimLeftS (g.map akf) [48] = grpN g := by unfold grpN; rw [if_neg h]
theorem grpOk_no1 (g : List UInt8) (h : (g.length : Int) < 1 ∨ 4 < (g.length : Int)) : amb g = false := by
  unfold amb
  rcases h with h | h
  · rw [show decide (1 ≤ g.length) = false by (rw [decide_eq_false_iff_not]; omega)]; rfl
  · rw [show decide (g.length ≤ 4) = false by (rw [decide_eq_false_iff_not]; omega)]; simp
theorem grpOk_no2 (g : List UInt8) (h : g.all hexB = false) : amb g = false := by unfold amb; rw [h]; simp
theorem grpOk_yes (g : List UInt8) (h1 : ¬ (g.length : Int) < 1) (h2 : ¬ 4 < (g.length : Int)) (h : g.all hexB = true) : amb g = true := by
  unfold amb; rw [h, show decide (1 ≤ g.length) = true by (rw [decide_eq_true_eq]; omega), show decide (g.length ≤ 4) = true by (rw [decide_eq_true_eq]; omega)]; rfl
theorem all_take_snoc' {α : Type} [Inhabited α] (p : α → Bool) (s : List α) (k : Nat) (h : k < s.length) (ha : (s.take k).all p = true) (hc : p (el s (k : Int)) = true) : (s.take (k + 1)).all p = true := by
  rw [take_snoc' s k h, List.all_append, ha]; simpa using hc
theorem all_false_at' {α : Type} [Inhabited α] (p : α → Bool) (s : List α) (k : Nat) (h : k < s.length) (hc : p (el s (k : Int)) = false) : s.all p = false := by
  rw [Bool.eq_false_iff]; intro ha
  have := List.all_eq_true.1 ha (el s (k : Int)) (by simp [el, h])
  rw [this] at hc; cases hc
theorem grpList_no (s : List UInt8) (h : (spl 58 s).all amb = false) : ahw s = ([], false) := by unfold ahw; rw [h]; rfl
theorem grpList_yes (s : List UInt8) (h : (spl 58 s).all amb = true) : ahw s = ((spl 58 s).map grpN, true) := by unfold ahw; rw [h]; rfl
theorem join_grp (s : List UInt8) (h : s.length ≤ 1000000000) : (Lib.join (ahw s).1 [58]).length ≤ 100000000000 := by
  have h1 := grpList_bd s
  have h2 := join_len [58] 4 (ahw s).1 h1.2
  simp at h2; omega
def aio (x : List UInt8) : List (List UInt8) × Bool := if x = [] then ([], true) else ahw x
theorem grpL0_nil (x : List UInt8) (h : x = []) : aio x = ([], true) := by unfold aio; rw [if_pos h]
theorem apo (x : List UInt8) (h : ¬ x = []) : aio x = ahw x := by unfold aio; rw [if_neg h]
def grpsP (s : List UInt8) : List UInt8 × Bool :=
  if 39 < s.length then ([], false)
  else if (Lib.cut s [58, 58]).2.2 = false then (Lib.join (ahw s).1 [58], (ahw s).2 && decide (((ahw s).1.length : Int) = 8))
  else if (!(aio (Lib.cut s [58, 58]).1).2 || !(aio (Lib.cut s [58, 58]).2.1).2 || decide (7 < ((aio (Lib.cut s [58, 58]).1).1.length : Int) + ((aio (Lib.cut s [58, 58]).2.1).1.length : Int))) = true then ([], false)
  else (Lib.join (aio (Lib.cut s [58, 58]).1).1 [58] ++ [58, 58] ++ Lib.join (aio (Lib.cut s [58, 58]).2.1).1 [58], true)
def octOk (n : List UInt8) : Bool := n.all ags && !(n == []) && decide (aie n ≤ 255) && (n == Lib.itoa (aie n : Int))
def numsP (s : List UInt8) : Bool := decide (s.length ≤ 15) && (spl 46 s).all octOk && decide ((spl 46 s).length = 4)
theorem octOk_no1 (n : List UInt8) (h : n.all ags = false) : octOk n = false := by unfold octOk; rw [h]; rfl
theorem octOk_no2 (n : List UInt8) (h : (n = [] ∨ 255 < (aie n : Int)) ∨ ¬ n = Lib.itoa (aie n : Int)) : octOk n = false := by
  unfold octOk
  rcases h with (h | h) | h
  · subst h; rfl
  · rw [show decide (aie n ≤ 255) = false by (rw [decide_eq_false_iff_not]; omega)]; simp
  · rw [show (n == Lib.itoa (aie n : Int)) = false by simpa using h]; simp
theorem octOk_yes (n : List UInt8) (h : n.all ags = true) (h1 : ¬ n = []) (h2 : ¬ 255 < (aie n : Int)) (h3 : n = Lib.itoa (aie n : Int)) : octOk n = true := by
  unfold octOk
  rw [h, show decide (aie n ≤ 255) = true by (rw [decide_eq_true_eq]; omega), show (n == Lib.itoa (aie n : Int)) = true by rw [beq_iff_eq]; exact h3, show (n == []) = false by simpa using h1]; rfl
theorem numsP_long (s : List UInt8) (h : 15 < (s.length : Int)) : numsP s = false := by
  unfold numsP; rw [show decide (s.length ≤ 15) = false by (rw [decide_eq_false_iff_not]; omega)]; rfl
theorem numsP_no (s : List UInt8) (h : (spl 46 s).all octOk = false) : numsP s = false := by unfold numsP; rw [h]; simp
theorem numsP_fin (s : List UInt8) (h0 : ¬ 15 < (s.length : Int)) (h : (spl 46 s).all octOk = true) : numsP s = decide (((spl 46 s).length : Int) = 4) := by
  unfold numsP; rw [h, show decide (s.length ≤ 15) = true by (rw [decide_eq_true_eq]; omega)]
  rw [Bool.eq_iff_iff]; simp; omega
theorem el_mem' {α : Type} [Inhabited α] (l : List α) (k : Nat) (h : k < l.length) : el l (k : Int) ∈ l := by rw [el_nat l k h]; exact List.getElem_mem h
end Go.Px
namespace Go.Wk
open Go.Px
open Go.Value renaming slice → Vs, int → Vi, bool → Vb, pointer → Vp
def aoj (x : (Str × Int)) : List Value := [(str x.1), (Vi .i64 x.2)]
theorem enc_enamekind : Enc aoj 2 := ⟨fun _ => rfl, fun x v h => by
  simp only [aoj, List.mem_cons, List.not_mem_nil, or_false] at h
  rcases h with h | h <;> subst h <;> rfl⟩
def aaa (x : (Str × Str × Bool)) : List Value := [(str x.1), (str x.2.1), (Vb x.2.2)]
theorem aab : Enc aaa 3 := ⟨fun _ => rfl, fun x v h => by
  simp only [aaa, List.mem_cons, List.not_mem_nil, or_false] at h
  rcases h with h | h | h <;> subst h <;> rfl⟩
def amy (x : (Int × Str)) : List Value := [(Vi .i64 x.1), (str x.2)]
theorem aqe : Enc amy 2 := ⟨fun _ => rfl, fun x v h => by
  simp only [amy, List.mem_cons, List.not_mem_nil, or_false] at h
  rcases h with h | h <;> subst h <;> rfl⟩
def ajo : List Str := [[67, 97, 108, 108, 45, 73, 68], [67, 83, 101, 113], [77, 73, 77, 69, 45, 86, 101, 114, 115, 105, 111, 110], [77, 105, 110, 45, 83, 69], [82, 65, 99, 107], [82, 83, 101, 113], [87, 87, 87, 45, 65, 117, 116, 104, 101, 110, 116, 105, 99, 97, 116, 101]]
def ame : List (Str × Int) := [([70, 114, 111, 109], 1), ([84, 111], 1), ([67, 111, 110, 116, 97, 99, 116], 1), ([82, 111, 117, 116, 101], 1), ([82, 101, 99, 111, 114, 100, 45, 82, 111, 117, 116, 101], 1), ([80, 97, 116, 104], 1), ([83, 101, 114, 118, 105, 99, 101, 45, 82, 111, 117, 116, 101], 1), ([82, 101, 102, 101, 114, 45, 84, 111], 1), ([82, 101, 102, 101, 114, 114, 101, 100, 45, 66, 121], 1), ([82, 101, 112, 108, 121, 45, 84, 111], 1), ([86, 105, 97], 2), ([67, 83, 101, 113], 3), ([82, 65, 99, 107], 4), ([67, 111, 110, 116, 101, 110, 116, 45, 76, 101, 110, 103, 116, 104], 5), ([69, 120, 112, 105, 114, 101, 115], 5), ([77, 97, 120, 45, 70, 111, 114, 119, 97, 114, 100, 115], 5), ([77, 105, 110, 45, 69, 120, 112, 105, 114, 101, 115], 5), ([82, 83, 101, 113], 5), ([67, 111, 110, 116, 101, 110, 116, 45, 68, 105, 115, 112, 111, 115, 105, 116, 105, 111, 110], 6), ([67, 111, 110, 116, 101, 110, 116, 45, 84, 121, 112, 101], 6), ([69, 118, 101, 110, 116], 6), ([77, 105, 110, 45, 83, 69], 6), ([83, 101, 115, 115, 105, 111, 110, 45, 69, 120, 112, 105, 114, 101, 115], 6), ([83, 117, 98, 115, 99, 114, 105, 112, 116, 105, 111, 110, 45, 83, 116, 97, 116, 101], 6), ([65, 99, 99, 101, 112, 116], 7), ([65, 108, 108, 111, 119], 7), ([65, 108, 108, 111, 119, 45, 69, 118, 101, 110, 116, 115], 7), ([80, 114, 111, 120, 121, 45, 82, 101, 113, 117, 105, 114, 101], 7), ([82, 101, 113, 117, 105, 114, 101], 7), ([83, 117, 112, 112, 111, 114, 116, 101, 100], 7), ([85, 110, 115, 117, 112, 112, 111, 114, 116, 101, 100], 7)]
def gl_classes : List Str := [[38, 61, 43, 36, 44, 59, 63, 47], [91, 93, 47, 58, 38, 43, 36], [91, 93, 47, 63, 58, 43, 36]]
end Go.Wk
set_option linter.unusedVariables false
namespace Go.Proofs
open Go.Wk Go.Px
def Vr (w : World) (g : Nat) (cs : List Value) : Prop := ∃ t f, w.heap[g]? = some (.cells cs.toArray t f)
theorem Vr.hp {w w' : World} {g : Nat} {cs : List Value} {S : List Nat} {L : List Res} (h : Vr w g cs) (hH : Hp w S L w') (hS : g ∉ S) : Vr w' g cs := by
  obtain ⟨t, f, e⟩ := h
  exact ⟨t, f, by rw [hH.below g (Array.getElem?_eq_some_iff.1 e).1 hS]; exact e⟩
theorem Vr.rd {w : World} {g : Nat} {cs : List Value} (h : Vr w g cs) : Rd w (some ⟨g, 0, none⟩) cs := by
  obtain ⟨t, f, e⟩ := h
  intro j v hv
  exact ⟨_, rfl, by cases j <;> simp [World.cell?, e, Addr.add, hv]⟩
structure Gl (w : World) : Prop where
  gs : 9 ≤ w.heap.size
  specials : Vr w 0 (List.flatMap eS ajo)
  kinds : Vr w 1 (List.flatMap aoj ame)
  classes : Vr w 3 (List.flatMap eS gl_classes)
  pow10 : Vr w 4 (Lib.pow10Tab.map fun z => Value.int .u64 z)
  maxlen : ∃ m, Vr w 2 [.int .i64 m]
theorem Gl.hp {w w' : World} {S : List Nat} {L : List Res} (h : Gl w) (hH : Hp w S L w') (hS : ∀ b ∈ S, 9 ≤ b) : Gl w' where
  gs := Nat.le_trans h.gs hH.size
  specials := h.specials.hp hH (fun hm => absurd (hS 0 hm) (by decide))
  kinds := h.kinds.hp hH (fun hm => absurd (hS 1 hm) (by decide))
  classes := h.classes.hp hH (fun hm => absurd (hS 3 hm) (by decide))
  pow10 := h.pow10.hp hH (fun hm => absurd (hS 4 hm) (by decide))
  maxlen := let ⟨m, hm⟩ := h.maxlen; ⟨m, hm.hp hH (fun hm => absurd (hS 2 hm) (by decide))⟩
theorem Gl.hp0 {w w' : World} {L : List Res} (h : Gl w) (hH : Hp w [] L w') : Gl w' := h.hp hH (by simp)
theorem _root_.Go.Wk.Hp.highs {w0 w : World} {S : List Nat} {L L1 : List Res} (h : Hp w0 S L w) (hG : Gl w0) (hS : ∀ x ∈ S, 9 ≤ x) (m : Nat) (hL : L.take m = L1) : ∀ b ∈ abf L1, 9 ≤ b := by
  intro b hb
  obtain ⟨r, hr, e⟩ := mem_owns hb
  subst hL
  rcases ((h.res r (List.mem_of_mem_take hr)).2 b e).2 with h1 | h1
  · exact Nat.le_trans hG.gs h1
  · exact hS b h1
theorem Gl.cell {w : World} (h : Gl w) : ∃ m, w.cell? ⟨2, 0, none⟩ = some (.int .i64 m) := by
  obtain ⟨m, t, f, e⟩ := h.maxlen
  exact ⟨m, by simp [World.cell?, e]⟩
end Go.Proofs
set_option linter.unusedVariables false
set_option linter.unusedSimpArgs false
set_option maxRecDepth 20000
set_option maxHeartbeats 1000000
namespace Go.Wk
open Go.Px
def aih (fu : Nat) (a0 : UInt8) : Option Bool :=
  (((((if (97 : UInt8) ≤ a0 then some (decide (a0 ≤ (122 : UInt8))) else some false)).bind fun (a1 : Bool) => (bif a1 then (bif a1 then some (.inr true) else some (.inl ())) else (((if (65 : UInt8) ≤ a0 then some (decide (a0 ≤ (90 : UInt8))) else some false)).bind fun (a2 : Bool) => (bif a2 then (bif a2 then some (.inr true) else some (.inl ())) else (if (48 : UInt8) ≤ a0 then (if a0 ≤ (57 : UInt8) then some (.inr true) else some (.inl ())) else some (.inl ()))))))).bind fun (a3 : (Unit ⊕ Bool)) => Sum.elim (fun (a4 : Unit) => (if a0 = (45 : UInt8) then (if a0 = (45 : UInt8) then some true else some false) else (if a0 = (46 : UInt8) then (if a0 = (46 : UInt8) then some true else some false) else (if a0 = (33 : UInt8) then (if a0 = (33 : UInt8) then some true else some false) else (if a0 = (37 : UInt8) then (if a0 = (37 : UInt8) then some true else some false) else (if a0 = (42 : UInt8) then (if a0 = (42 : UInt8) then some true else some false) else (if a0 = (95 : UInt8) then (if a0 = (95 : UInt8) then some true else some false) else (if a0 = (43 : UInt8) then (if a0 = (43 : UInt8) then some true else some false) else (if a0 = (39 : UInt8) then (if a0 = (39 : UInt8) then some true else some false) else (if a0 = (126 : UInt8) then (if a0 = (126 : UInt8) then some true else some false) else (if a0 = (96 : UInt8) then some true else some false))))))))))) (fun q => some q) a3)
def aco (fu : Nat) (s_0 : Str) : Nat → Int → Option Int
  | 0, _ => none
  | a1 + 1, a0 => (((if a0 < (s_0.length : Int) then (gd (0 ≤ a0 ∧ a0 < (s_0.length : Int)) <| ((aih fu (at_ s_0 a0)).bind fun (a2 : Bool) => some a2)) else some false)).bind fun (a3 : Bool) => (bif a3 then (gd (acj (a0 + (1 : Int))) <| (aco fu s_0 a1 (a0 + (1 : Int)))) else some a0))
def aei (fu : Nat) (s_0 : Str) (a0 : Int) : Option Int :=
  (((aco fu s_0 fu (min (max a0 (0 : Int)) (s_0.length : Int)))).bind fun (a1 : Int) => some a1)
def aex (fu : Nat) (s_0 : Str) (a0 : Int) : Option Int :=
  ((aei fu s_0 a0).bind fun (y1 : Int) => some y1)
def agf (fu : Nat) (s_0 : Str) : Option Bool :=
  (((if s_0 = ([] : Str) then some false else ((aex fu s_0 (0 : Int)).bind fun (a0 : Int) => some (decide (a0 = (s_0.length : Int)))))).bind fun (a1 : Bool) => some a1)
def akk (fu : Nat) (a0 : UInt8) : Option UInt8 :=
  (((if (65 : UInt8) ≤ a0 then some (decide (a0 ≤ (90 : UInt8))) else some false)).bind fun (v5 : Bool) => (bif v5 then some (a0 + (32 : UInt8)) else some a0))
def ana (fu : Nat) (a0 : UInt8) : Option Str :=
  (if a0 = (98 : UInt8) then none else (if a0 = (99 : UInt8) then none else (if a0 = (101 : UInt8) then none else (if a0 = (102 : UInt8) then none else (if a0 = (105 : UInt8) then none else (if a0 = (107 : UInt8) then none else (if a0 = (108 : UInt8) then none else (if a0 = (109 : UInt8) then some ([67, 111, 110, 116, 97, 99, 116] : Str) else none))))))))
def adt (fu : Nat) (s_0 : Str) : Nat → Str → Int → Option Str
  | 0, _, _ => none
  | a2 + 1, a1, a0 => (if a0 < (s_0.length : Int) then (gd (0 ≤ a0 ∧ a0 < (a1.length : Int)) <| (gd (0 ≤ a0 ∧ a0 < (a1.length : Int)) <| ((akk fu (at_ a1 a0)).bind fun (a3 : UInt8) => (gd (0 ≤ a0 ∧ a0 < (a1.length : Int)) <| (gd (0 ≤ a0 ∧ a0 < (a1.length : Int)) <| (gd (acj (a0 + (1 : Int))) <| (adt fu s_0 a2 (List.set a1 (Int.toNat a0) a3) (a0 + (1 : Int))))))))) else some a1)
def ael (fu : Nat) (s_0 : Str) : Option Str :=
  (((adt fu s_0 fu s_0 (0 : Int))).bind fun (a0 : Str) => some a0)
def amn (fu : Nat) (a0 : Str) : Nat → Option (Str × UInt8)
  | 0 => none
  | a2 + 1 => (if (0 : Int) < (7 : Int) then (gd (0 ≤ (0 : Int) ∧ (0 : Int) < (ajo.length : Int)) <| ((ael fu (el ajo (0 : Int))).bind fun (a1 : Str) => (if a1 = a0 then some (el ajo (0 : Int), (0 : UInt8)) else none))) else none)
def ank (fu : Nat) (a0 : Str) : Option (Str × UInt8) :=
  ((((agf fu a0).bind fun (a2 : Bool) => (bif (!a2) then none else some ()))).bind fun (v9 : Unit) => (if (64 : Int) < (a0.length : Int) then none else (if (a0.length : Int) = (1 : Int) then (gd (0 ≤ (0 : Int) ∧ (0 : Int) < (a0.length : Int)) <| ((akk fu (at_ a0 (0 : Int))).bind fun (a3 : UInt8) => ((ana fu a3).bind fun (a1 : Str) => (if a1 = ([] : Str) then none else some (a1, (0 : UInt8)))))) else ((ael fu a0).bind fun (a4 : Str) => (amn fu a4 fu)))))
end Go.Wk
set_option linter.unusedVariables false
set_option linter.unusedSimpArgs false
set_option maxRecDepth 20000
set_option maxHeartbeats 1000000
namespace Go.Wk
open Go.Px
def aqj (fu : Nat) (a0 : Str) : Option Bool :=
  (if a0 = ([67, 111, 110, 116, 97, 99, 116] : Str) then (if a0 = ([67, 111, 110, 116, 97, 99, 116] : Str) then some true else none) else none)
def agy (fu : Nat) (a0 : UInt8) : Option Bool :=
  (((if a0 = (32 : UInt8) then some true else some (decide (a0 = (9 : UInt8))))).bind fun (v5 : Bool) => some v5)
def abu (fu : Nat) (s_0 : Str) : Nat → Int → Option Int
  | 0, _ => none
  | a1 + 1, a0 => (((if a0 < (s_0.length : Int) then (gd (0 ≤ a0 ∧ a0 < (s_0.length : Int)) <| ((agy fu (at_ s_0 a0)).bind fun (a2 : Bool) => some a2)) else some false)).bind fun (a3 : Bool) => (bif a3 then (gd (acj (a0 + (1 : Int))) <| (abu fu s_0 a1 (a0 + (1 : Int)))) else some a0))
def afr (fu : Nat) (s_0 : Str) (a0 : Int) : Option Int :=
  (((abu fu s_0 fu (min (max a0 (0 : Int)) (s_0.length : Int)))).bind fun (a1 : Int) => some a1)
def ahg (fu : Nat) (s_0 : Str) (a0 : Int) : Option Int :=
  ((afr fu s_0 a0).bind fun (y1 : Int) => some y1)
def aoe (fu : Nat) (s_0 : Str) (a1 : Int) (a0 : Int) : Option (Int × Str) :=
  ((ahg fu s_0 a1).bind fun (y4 : Int) => (gd (0 ≤ (min y4 a0) ∧ (min y4 a0) ≤ a0 ∧ a0 ≤ (s_0.length : Int)) <| (gd ((sub s_0 (min y4 a0) a0).length ≤ 1000000000) <| gd (([32, 9] : Str).length ≤ 1000 ∧ ([32, 9] : Str).all (fun b => decide (b.toNat < 128)) = true) <| some (min y4 a0, Lib.trimRightS (sub s_0 (min y4 a0) a0) ([32, 9] : Str)))))
def ahk (fu : Nat) (s_0 : Str) (a2 : UInt8) : Nat → (List (Int × Str)) → Int → Int → Option ((List (Int × Str)) × Int)
  | 0, _, _, _ => none
  | a4 + 1, a1, a3, a0 => (if a0 < (s_0.length : Int) then (gd (0 ≤ a0 ∧ a0 < (s_0.length : Int)) <| (if (at_ s_0 a0) = (34 : UInt8) then none else (if (at_ s_0 a0) = (60 : UInt8) then (gd (0 ≤ a0 ∧ a0 ≤ (s_0.length : Int)) <| (if (ixb (· == (62 : UInt8)) (List.drop (Int.toNat a0) s_0)) < (0 : Int) then none else (gd (acj ((ixb (· == (62 : UInt8)) (List.drop (Int.toNat a0) s_0)) + (1 : Int))) <| (gd (acj (a0 + ((ixb (· == (62 : UInt8)) (List.drop (Int.toNat a0) s_0)) + (1 : Int)))) <| (ahk fu s_0 a2 a4 a1 a3 (a0 + ((ixb (· == (62 : UInt8)) (List.drop (Int.toNat a0) s_0)) + (1 : Int)))))))) else (if (at_ s_0 a0) = (62 : UInt8) then none else (if (at_ s_0 a0) = a2 then ((aoe fu s_0 a3 a0).bind fun (a5 : (Int × Str)) => (gd ((a1.length + ([a5] : List (Int × Str)).length) * 24 ≤ 140737488355328) <| (gd (acj (a0 + (1 : Int))) <| (ahk fu s_0 a2 a4 (a1 ++ ([a5] : List (Int × Str))) (a0 + (1 : Int)) (a0 + (1 : Int)))))) else (gd (acj (a0 + (1 : Int))) <| (ahk fu s_0 a2 a4 a1 a3 (a0 + (1 : Int))))))))) else some (a1, a3))
def aqh (fu : Nat) (s_0 : Str) (a0 : UInt8) : Option ((List (Int × Str)) × Int × UInt8) :=
  ((((agy fu a0).bind fun (a3 : Bool) => (bif a3 then none else (if a0 = (34 : UInt8) then none else (if a0 = (60 : UInt8) then none else some ()))))).bind fun (a4 : Unit) => (if a0 = (62 : UInt8) then none else (((ahk fu s_0 a0 fu ([] : List (Int × Str)) (0 : Int) (0 : Int))).bind fun (a1 : ((List (Int × Str)) × Int)) => ((aoe fu s_0 a1.2 (s_0.length : Int)).bind fun (a2 : (Int × Str)) => (gd ((a1.1.length + ([a2] : List (Int × Str)).length) * 24 ≤ 140737488355328) <| some (a1.1 ++ ([a2] : List (Int × Str)), (0 : Int), (0 : UInt8)))))))
def ala (fu : Nat) (y1 : ((List (Int × Str)) × Int × UInt8)) : Nat → (List Str) → Int → Option (List Str)
  | 0, _, _ => none
  | a2 + 1, a1, a0 => (if a0 < (y1.1.length : Int) then (gd (0 ≤ a0 ∧ a0 < (y1.1.length : Int)) <| (gd (0 ≤ a0 ∧ a0 < (y1.1.length : Int)) <| (if ((el y1.1 a0).2) = ([] : Str) then none else (gd ((a1.length + ([(el y1.1 a0).2] : List Str).length) * 16 ≤ 140737488355328) <| (gd (acj (a0 + (1 : Int))) <| (ala fu y1 a2 (a1 ++ ([(el y1.1 a0).2] : List Str)) (a0 + (1 : Int)))))))) else some a1)
def aql (fu : Nat) (a0 : Str) : Option ((List Str) × UInt8) :=
  ((aqh fu a0 (44 : UInt8)).bind fun (y1 : ((List (Int × Str)) × Int × UInt8)) => (if y1.2.2 = (0 : UInt8) then (((ala fu y1 fu ([] : List Str) (0 : Int))).bind fun (a1 : List Str) => some (a1, (0 : UInt8))) else none))
def ajr (fu : Nat) (a1 : Str) : Nat → Int → Option Int
  | 0, _ => none
  | a2 + 1, a0 => (if a0 < (31 : Int) then (gd (0 ≤ a0 ∧ a0 < (31 : Int)) <| (gd (0 ≤ a0 ∧ a0 < (ame.length : Int)) <| (if ((el ame a0).1) = a1 then (gd (0 ≤ a0 ∧ a0 < (31 : Int)) <| (gd (0 ≤ a0 ∧ a0 < (ame.length : Int)) <| some ((el ame a0).2))) else (gd (acj (a0 + (1 : Int))) <| (ajr fu a1 a2 (a0 + (1 : Int))))))) else none)
def aom (fu : Nat) (a0 : Str) : Option Int :=
  (ajr fu a0 fu (0 : Int))
end Go.Wk
set_option linter.unusedVariables false
set_option linter.unusedSimpArgs false
set_option maxRecDepth 20000
set_option maxHeartbeats 1000000
namespace Go.Wk
open Go.Px
def ahe (fu : Nat) (s_0 : Str) : Option Str :=
  (gd (s_0.length ≤ 1000000000) <| gd (([32, 9] : Str).length ≤ 1000 ∧ ([32, 9] : Str).all (fun b => decide (b.toNat < 128)) = true) <| some (Lib.trimS s_0 ([32, 9] : Str)))
def acx (fu : Nat) (a0 : (Str × Int)) : Option (Str × Int) :=
  ((ahg fu a0.1 a0.2).bind fun (y1 : Int) => some (a0.1, y1))
def aeq (fu : Nat) (a0 : (Str × Int)) : Option Bool :=
  some (decide ((a0.1.length : Int) ≤ a0.2))
def abm (fu : Nat) (a0 : (Str × Int)) (a1 : UInt8) : Option Bool :=
  ((((aeq fu a0).bind fun (a2 : Bool) => (bif (!a2) then (gd (0 ≤ a0.2 ∧ a0.2 < (a0.1.length : Int)) <| some (decide ((at_ a0.1 a0.2) = a1))) else some false))).bind fun (a3 : Bool) => some a3)
def aep (fu : Nat) (a0 : (Str × Int)) : Option (Str × (Str × Int)) :=
  ((aex fu a0.1 a0.2).bind fun (y1 : Int) => (gd (0 ≤ a0.2 ∧ a0.2 ≤ y1 ∧ y1 ≤ (a0.1.length : Int)) <| some (sub a0.1 a0.2 y1, (a0.1, y1))))
def afl (fu : Nat) : Nat → (List Str) → Str → Int → Option ((List Str) × Str × Int)
  | 0, _, _, _ => none
  | a5 + 1, a1, a2, a3 => ((abm fu (a2, a3) (60 : UInt8)).bind fun (a6 : Bool) => (bif (!a6) then ((aep fu (a2, a3)).bind fun (a0 : (Str × (Str × Int))) => (if a0.1 = ([] : Str) then none else (gd ((a1.length + ([a0.1] : List Str).length) * 16 ≤ 140737488355328) <| ((acx fu a0.2).bind fun (a4 : (Str × Int)) => (afl fu a5 (a1 ++ ([a0.1] : List Str)) a4.1 a4.2))))) else some (a1, a2, a3)))
def ahx (fu : Nat) (a1 : (Str × Int)) (a2 : (Str × (Str × Str × Str × Int × (List (Str × Str × Bool)) × (List (Str × Str × Bool))) × (List (Str × Str × Bool)))) : Option (Int × UInt8 × (Str × Int) × (Str × (Str × Str × Str × Int × (List (Str × Str × Bool)) × (List (Str × Str × Bool))) × (List (Str × Str × Bool)))) :=
  (((afl fu fu ([] : List Str) a1.1 a1.2)).bind fun (a0 : ((List Str) × Str × Int)) => (gd (a0.1.length ≤ 1000000000 ∧ (Lib.join a0.1 ([32] : Str)).length ≤ 100000000000) <| some ((0 : Int), (0 : UInt8), a0.2, (Lib.join a0.1 ([32] : Str), a2.2.1, a2.2.2))))
def aen (fu : Nat) (a1 : Str) (a0 : Int) (a2 : Str) : Option Int :=
  (gd (0 ≤ a0 ∧ a0 ≤ (a1.length : Int)) <| (gd ((List.drop (Int.toNat a0) a1).length ≤ 1000000000 ∧ a2.length ≤ 1000 ∧ a2.all (fun b => decide (b.toNat < 128)) = true ∧ (8 < (List.drop (Int.toNat a0) a1).length ∨ a2.length ≤ 1 ∨ (List.drop (Int.toNat a0) a1).all (fun b => decide (b.toNat < 128)) = true)) <| (if (0 : Int) ≤ (Lib.indexAny (List.drop (Int.toNat a0) a1) a2) then (gd (acj (a0 + (Lib.indexAny (List.drop (Int.toNat a0) a1) a2))) <| some (a0 + (Lib.indexAny (List.drop (Int.toNat a0) a1) a2))) else some (a1.length : Int))))
def aev (fu : Nat) (s_0 : Str) : Nat → Str → Int → Option Str
  | 0, _, _ => none
  | a2 + 1, a1, a0 => (if a0 < (s_0.length : Int) then (gd (0 ≤ a0 ∧ a0 < (a1.length : Int)) <| (gd (0 ≤ a0 ∧ a0 < (a1.length : Int)) <| (((if (65 : UInt8) ≤ (at_ a1 a0) then some (decide ((at_ a1 a0) ≤ (90 : UInt8))) else some false)).bind fun (a3 : Bool) => (bif a3 then (gd (0 ≤ a0 ∧ a0 < (a1.length : Int)) <| (gd (0 ≤ a0 ∧ a0 < (a1.length : Int)) <| (gd (acj (a0 + (1 : Int))) <| (aev fu s_0 a2 (List.set a1 (Int.toNat a0) ((at_ a1 a0) + (32 : UInt8))) (a0 + (1 : Int)))))) else (gd (acj (a0 + (1 : Int))) <| (aev fu s_0 a2 a1 (a0 + (1 : Int)))))))) else some a1)
def adp (fu : Nat) (s_0 : Str) : Option Str :=
  (((aev fu s_0 fu s_0 (0 : Int))).bind fun (a0 : Str) => some a0)
end Go.Wk
set_option linter.unusedVariables false
set_option linter.unusedSimpArgs false
set_option maxRecDepth 20000
set_option maxHeartbeats 1000000
namespace Go.Wk
open Go.Px
def aia (fu : Nat) (a0 : UInt8) : Option Bool :=
  (((if (97 : UInt8) ≤ a0 then (if a0 ≤ (122 : UInt8) then some true else (if (65 : UInt8) ≤ a0 then some (decide (a0 ≤ (90 : UInt8))) else some false)) else (if (65 : UInt8) ≤ a0 then some (decide (a0 ≤ (90 : UInt8))) else some false))).bind fun (v8 : Bool) => some v8)
def alb (fu : Nat) (a0 : UInt8) (a2 : Int) : Option Bool :=
  ((((aia fu a0).bind fun (a1 : Bool) => (bif a1 then some () else none))).bind fun (v9 : Unit) => some true)
def agp (fu : Nat) (a1 : (Str × Int)) (a2 : Int) (a3 : Int) : Nat → Int → Option Unit
  | 0, _ => none
  | a4 + 1, a0 => (if a0 < a2 then (gd (0 ≤ a0 ∧ a0 < (a1.1.length : Int)) <| ((alb fu (at_ a1.1 a0) a3).bind fun (a5 : Bool) => (bif a5 then (gd (acj (a0 + (1 : Int))) <| (agp fu a1 a2 a3 a4 (a0 + (1 : Int)))) else none))) else some ())
def ahq (fu : Nat) (a0 : (Str × Int)) (a1 : Int) (a2 : Int) : Option (Int × Bool) :=
  (((agp fu a0 a1 a2 fu a0.2)).bind fun (a3 : Unit) => some ((0 : Int), false))
def ahr (fu : Nat) (s_0 : Str) : Nat → (List UInt8) → Int → Option (List UInt8)
  | 0, _, _ => none
  | a2 + 1, a1, a0 => (if a0 < (s_0.length : Int) then (gd (0 ≤ a0 ∧ a0 < (s_0.length : Int)) <| (if (at_ s_0 a0) = (37 : UInt8) then none else (gd (0 ≤ a0 ∧ a0 < (s_0.length : Int)) <| (gd ((a1.length + ([at_ s_0 a0] : List UInt8).length) * 1 ≤ 140737488355328) <| (gd (acj (a0 + (1 : Int))) <| (ahr fu s_0 a2 (a1 ++ ([at_ s_0 a0] : List UInt8)) (a0 + (1 : Int)))))))) else some a1)
def amo (fu : Nat) (s_0 : Str) : Option (Str × Int × UInt8) :=
  (gd (0 ≤ (s_0.length : Int) ∧ (1 : Int) * (s_0.length : Int) ≤ 281474976710656) <| (((ahr fu s_0 fu ([] : List UInt8) (0 : Int))).bind fun (a0 : List UInt8) => some (a0, (0 : Int), (0 : UInt8))))
def alc (fu : Nat) (s_0 : Str) : Option Str :=
  ((amo fu s_0).bind fun (y1 : (Str × Int × UInt8)) => some y1.1)
def agh (fu : Nat) (a0 : UInt8) : Option Bool :=
  (((if (48 : UInt8) ≤ a0 then some (decide (a0 ≤ (57 : UInt8))) else some false)).bind fun (v5 : Bool) => some v5)
def aik (fu : Nat) (a0 : UInt8) : Option (UInt8 × Bool) :=
  ((agh fu a0).bind fun (y1 : Bool) => (bif y1 then some (a0 - (48 : UInt8), true) else (((if (97 : UInt8) ≤ a0 then some (decide (a0 ≤ (102 : UInt8))) else some false)).bind fun (a1 : Bool) => (bif a1 then some ((a0 - (97 : UInt8)) + (10 : UInt8), true) else (((if (65 : UInt8) ≤ a0 then some (decide (a0 ≤ (70 : UInt8))) else some false)).bind fun (a2 : Bool) => (bif a2 then some ((a0 - (65 : UInt8)) + (10 : UInt8), true) else some ((0 : UInt8), false)))))))
def adb (fu : Nat) (a1 : List Str) (a2 : Int) : Nat → Int → Option (Unit ⊕ ((List Str) × Bool))
  | 0, _ => none
  | a3 + 1, a0 => (if a0 < ((el a1 a2).length : Int) then (gd (0 ≤ a0 ∧ a0 < ((el a1 a2).length : Int)) <| ((aik fu (at_ (el a1 a2) a0)).bind fun (a4 : (UInt8 × Bool)) => (bif (!a4.2) then some (.inr (([] : List Str), false)) else (gd (acj (a0 + (1 : Int))) <| (adb fu a1 a2 a3 (a0 + (1 : Int))))))) else some (.inl ()))
def adc (fu : Nat) (s_0 : Str) : Nat → (List Str) → Int → Option ((List Str) ⊕ ((List Str) × Bool))
  | 0, _, _ => none
  | a3 + 1, a1, a0 => (if a0 < ((spl 58 s_0).length : Int) then (((gd (0 ≤ a0 ∧ a0 < (a1.length : Int)) <| (gd (0 ≤ a0 ∧ a0 < (a1.length : Int)) <| (((if ((el a1 a0).length : Int) < (1 : Int) then some true else some (decide ((4 : Int) < ((el a1 a0).length : Int))))).bind fun (a4 : Bool) => (bif a4 then some (.inr (([] : List Str), false)) else (((adb fu a1 a0 fu (0 : Int))).bind fun (a5 : (Unit ⊕ ((List Str) × Bool))) => Sum.elim (fun (a8 : Unit) => ((adp fu (el a1 a0)).bind fun (a2 : Str) => (gd (a2.length ≤ 1000000000) <| gd (([48] : Str).length ≤ 1000 ∧ ([48] : Str).all (fun b => decide (b.toNat < 128)) = true) <| (if (Lib.trimLeftS a2 ([48] : Str)) = ([] : Str) then (gd (0 ≤ a0 ∧ a0 < (a1.length : Int)) <| (gd (0 ≤ a0 ∧ a0 < (a1.length : Int)) <| some (.inl (List.set a1 (Int.toNat a0) ([48] : Str))))) else (gd (0 ≤ a0 ∧ a0 < (a1.length : Int)) <| (gd (0 ≤ a0 ∧ a0 < (a1.length : Int)) <| some (.inl (List.set a1 (Int.toNat a0) (Lib.trimLeftS a2 ([48] : Str)))))))))) (fun q => some (.inr q)) a5)))))).bind fun (a6 : ((List Str) ⊕ ((List Str) × Bool))) => Sum.elim (fun (a7 : List Str) => (gd (acj (a0 + (1 : Int))) <| (adc fu s_0 a3 a7 (a0 + (1 : Int))))) (fun q => some (.inr q)) a6) else some (.inl a1))
def aew (fu : Nat) (s_0 : Str) : Option ((List Str) × Bool) :=
  (gd (s_0.length ≤ 1000000000) <| (((adc fu s_0 fu (spl 58 s_0) (0 : Int))).bind fun (a0 : ((List Str) ⊕ ((List Str) × Bool))) => Sum.elim (fun (a1 : List Str) => some (a1, true)) (fun q => some q) a0))
end Go.Wk
set_option linter.unusedVariables false
set_option linter.unusedSimpArgs false
set_option maxRecDepth 20000
set_option maxHeartbeats 1000000
namespace Go.Wk
open Go.Px
def ajx (fu : Nat) (s_0 : Str) : Option (Str × Bool) :=
  (if (39 : Int) < (s_0.length : Int) then some (([] : Str), false) else (gd (s_0.length ≤ 1000000000) <| (bif (!((Lib.cut s_0 ([58, 58] : Str)).2.2)) then ((aew fu s_0).bind fun (y7 : ((List Str) × Bool)) => (((gd (y7.1.length ≤ 1000000000 ∧ (Lib.join y7.1 ([58] : Str)).length ≤ 100000000000) <| (bif y7.2 then some (decide ((y7.1.length : Int) = (8 : Int))) else some false))).bind fun (a4 : Bool) => some (Lib.join y7.1 ([58] : Str), a4))) else (((if ((Lib.cut s_0 ([58, 58] : Str)).1) = ([] : Str) then some (([] : List Str), true) else ((aew fu ((Lib.cut s_0 ([58, 58] : Str)).1)).bind fun (a2 : ((List Str) × Bool)) => some (a2.1, a2.2)))).bind fun (a0 : ((List Str) × Bool)) => (((if ((Lib.cut s_0 ([58, 58] : Str)).2.1) = ([] : Str) then some (([] : List Str), true) else ((aew fu ((Lib.cut s_0 ([58, 58] : Str)).2.1)).bind fun (a3 : ((List Str) × Bool)) => some (a3.1, a3.2)))).bind fun (a1 : ((List Str) × Bool)) => (((bif (!a0.2) then some true else (bif (!a1.2) then some true else (gd (acj ((a0.1.length : Int) + (a1.1.length : Int))) <| some (decide ((7 : Int) < ((a0.1.length : Int) + (a1.1.length : Int)))))))).bind fun (a5 : Bool) => (bif a5 then some (([] : Str), false) else (gd (a0.1.length ≤ 1000000000 ∧ (Lib.join a0.1 ([58] : Str)).length ≤ 100000000000) <| (gd ((Lib.join a0.1 ([58] : Str)).length + ([58, 58] : Str).length ≤ 9223372036854775807) <| (gd (a1.1.length ≤ 1000000000 ∧ (Lib.join a1.1 ([58] : Str)).length ≤ 100000000000) <| (gd (((Lib.join a0.1 ([58] : Str)) ++ ([58, 58] : Str)).length + (Lib.join a1.1 ([58] : Str)).length ≤ 9223372036854775807) <| some (((Lib.join a0.1 ([58] : Str)) ++ ([58, 58] : Str)) ++ (Lib.join a1.1 ([58] : Str)), true))))))))))))
def aed (fu : Nat) (s_0 : Str) (a1 : Int) : Nat → Int → Int → Option (Int ⊕ Bool)
  | 0, _, _ => none
  | a3 + 1, a2, a0 => (if a0 < ((el (spl 46 s_0) a1).length : Int) then (gd (0 ≤ a0 ∧ a0 < ((el (spl 46 s_0) a1).length : Int)) <| ((agh fu (at_ (el (spl 46 s_0) a1) a0)).bind fun (a4 : Bool) => (bif (!a4) then some (.inr false) else (gd (acj ((10 : Int) * a2)) <| (gd (0 ≤ a0 ∧ a0 < ((el (spl 46 s_0) a1).length : Int)) <| (gd (acj (((10 : Int) * a2) + (((at_ (el (spl 46 s_0) a1) a0) - (48 : UInt8)).toNat : Int))) <| (gd (acj (a0 + (1 : Int))) <| (aed fu s_0 a1 a3 (((10 : Int) * a2) + (((at_ (el (spl 46 s_0) a1) a0) - (48 : UInt8)).toNat : Int)) (a0 + (1 : Int)))))))))) else some (.inl a2))
def aee (fu : Nat) (s_0 : Str) : Nat → Int → Option (Unit ⊕ Bool)
  | 0, _ => none
  | a2 + 1, a0 => (if a0 < ((spl 46 s_0).length : Int) then (((gd (0 ≤ a0 ∧ a0 < ((spl 46 s_0).length : Int)) <| (gd (0 ≤ a0 ∧ a0 < ((spl 46 s_0).length : Int)) <| (((aed fu s_0 a0 fu (0 : Int) (0 : Int))).bind fun (a3 : (Int ⊕ Bool)) => Sum.elim (fun (a1 : Int) => (((if (el (spl 46 s_0) a0) = ([] : Str) then some true else (if (255 : Int) < a1 then some true else (gd (acj a1) <| some (!decide ((el (spl 46 s_0) a0) = (Lib.itoa a1))))))).bind fun (a4 : Bool) => (bif a4 then some (.inr false) else some (.inl ())))) (fun q => some (.inr q)) a3)))).bind fun (a5 : (Unit ⊕ Bool)) => Sum.elim (fun (a6 : Unit) => (gd (acj (a0 + (1 : Int))) <| (aee fu s_0 a2 (a0 + (1 : Int))))) (fun q => some (.inr q)) a5) else some (.inl ()))
def ajg (fu : Nat) (s_0 : Str) : Option Bool :=
  (if (15 : Int) < (s_0.length : Int) then some false else (gd (s_0.length ≤ 1000000000) <| (((aee fu s_0 fu (0 : Int))).bind fun (a0 : (Unit ⊕ Bool)) => Sum.elim (fun (a1 : Unit) => some (decide (((spl 46 s_0).length : Int) = (4 : Int)))) (fun q => some q) a0)))
def akh (fu : Nat) (s_0 : Str) (a0 : Str) (a1 : Int) : Option (Str × Str × Int) :=
  some (a0, s_0, a1)
def aki (fu : Nat) (s_0 : Str) (a0 : Str) : Option (Str × Str × Int) :=
  ((akh fu s_0 a0 (0 : Int)).bind fun (y1 : (Str × Str × Int)) => some (y1.1, y1.2.1, y1.2.2))
def aby (fu : Nat) (a1 : Str) (a2 : Bool) : Nat → Int → Bool → Option ((Nat × Bool × Bool))
  | 0, _, _ => none
  | a4 + 1, a0, a3 => (if a0 < (a1.length : Int) then (gd (0 ≤ a0 ∧ a0 < (a1.length : Int)) <| ((((aia fu (at_ a1 a0)).bind fun (a5 : Bool) => (bif (!a5) then ((agh fu (at_ a1 a0)).bind fun (a6 : Bool) => (bif (!a6) then some (!decide ((at_ a1 a0) = (45 : UInt8))) else some false)) else some false))).bind fun (a7 : Bool) => (bif a7 then some (1, a3, false) else (bif a3 then (gd (acj (a0 + (1 : Int))) <| (aby fu a1 a2 a4 (a0 + (1 : Int)) true)) else ((agh fu (at_ a1 a0)).bind fun (a8 : Bool) => (gd (acj (a0 + (1 : Int))) <| (aby fu a1 a2 a4 (a0 + (1 : Int)) (!a8)))))))) else some (0, a3, a2))
def aeg (fu : Nat) (a0 : Str) (a1 : Bool) (a2 : Bool) : Option (Nat × Bool × Bool) :=
  (((if (a0.length : Int) < (1 : Int) then some true else (if (63 : Int) < (a0.length : Int) then some true else (gd (0 ≤ (0 : Int) ∧ (0 : Int) < (a0.length : Int)) <| (if (at_ a0 (0 : Int)) = (45 : UInt8) then some true else (gd (acj ((a0.length : Int) - (1 : Int))) <| (gd (0 ≤ ((a0.length : Int) - (1 : Int)) ∧ ((a0.length : Int) - (1 : Int)) < (a0.length : Int)) <| some (decide ((at_ a0 ((a0.length : Int) - (1 : Int))) = (45 : UInt8)))))))))).bind fun (a3 : Bool) => (bif a3 then some (1, a1, false) else (aby fu a0 a2 fu (0 : Int) a1)))
def aeh (fu : Nat) (a0 : Str) : Nat → Option Unit
  | 0 => none
  | a1 + 1 => (if (0 : Int) < (a0.length : Int) then none else some ())
def abd (fu : Nat) (a1 : Str) (a3 : Int) : Nat → Bool → Bool → Str → Option ((Bool × Bool × Str) ⊕ (Bool × Bool × Str × Nat))
  | 0, _, _, _ => none
  | a6 + 1, a4, a5, a0 => (gd (a0.length ≤ 1000000000) <| (if (Lib.index a0 a1) < (0 : Int) then some (.inl (a4, a5, a0)) else (gd (acj ((Lib.index a0 a1) + a3)) <| (gd (0 ≤ ((Lib.index a0 a1) + a3) ∧ ((Lib.index a0 a1) + a3) ≤ (a0.length : Int)) <| ((aeg fu (List.take (Int.toNat ((Lib.index a0 a1) + a3)) a0) a4 a5).bind fun (a2 : (Nat × Bool × Bool)) => (if a2.1 = 0 then (gd (acj ((Lib.index a0 a1) + (a1.length : Int))) <| (gd (0 ≤ ((Lib.index a0 a1) + (a1.length : Int)) ∧ ((Lib.index a0 a1) + (a1.length : Int)) ≤ (a0.length : Int)) <| (abd fu a1 a3 a6 a2.2.1 a2.2.2 (List.drop (Int.toNat ((Lib.index a0 a1) + (a1.length : Int))) a0)))) else some (.inr (a2.2.1, a2.2.2, a0, a2.1))))))))
def adr (fu : Nat) (a3 : Bool) (a4 : Bool) (a5 : Str) (a2 : Str) (a6 : Int) : Option (Bool × Bool × Str × Nat) :=
  (((if (a5.length : Int) = (0 : Int) then (((aeh fu a2 fu)).bind fun (a9 : Unit) => some (.inr (a3, a4, a2, 0))) else some (.inl ()))).bind fun (a7 : (Unit ⊕ (Bool × Bool × Str × Nat))) => Sum.elim (fun (b0 : Unit) => (((abd fu a5 a6 fu a3 a4 a2)).bind fun (a8 : ((Bool × Bool × Str) ⊕ (Bool × Bool × Str × Nat))) => Sum.elim (fun (a1 : (Bool × Bool × Str)) => ((aeg fu a1.2.2 a1.1 a1.2.1).bind fun (a0 : (Nat × Bool × Bool)) => (if a0.1 = 0 then some (a0.2.1, a0.2.2, a1.2.2, 0) else some (a0.2.1, a0.2.2, a1.2.2, a0.1)))) (fun q => some q) a8)) (fun q => some q) a7)
def akr (fu : Nat) (s_0 : Str) : Option Bool :=
  (((if (s_0.length : Int) < (1 : Int) then some true else some (decide ((255 : Int) < (s_0.length : Int))))).bind fun (v8 : Bool) => (bif v8 then some false else ((aki fu s_0 ([46] : Str)).bind fun (a1 : (Str × Str × Int)) => ((adr fu false false a1.1 a1.2.1 a1.2.2).bind fun (a0 : (Bool × Bool × Str × Nat)) => (if a0.2.2.2 = 0 then some a0.1 else (if a0.2.2.2 = 1 then some a0.2.1 else none))))))
def agt (fu : Nat) (s_0 : Str) : Option (Str × Bool) :=
  (((if (2 : Int) ≤ (s_0.length : Int) then (gd (0 ≤ (0 : Int) ∧ (0 : Int) < (s_0.length : Int)) <| (if (at_ s_0 (0 : Int)) = (91 : UInt8) then (gd (acj ((s_0.length : Int) - (1 : Int))) <| (gd (0 ≤ ((s_0.length : Int) - (1 : Int)) ∧ ((s_0.length : Int) - (1 : Int)) < (s_0.length : Int)) <| some (decide ((at_ s_0 ((s_0.length : Int) - (1 : Int))) = (93 : UInt8))))) else some false)) else some false)).bind fun (v9 : Bool) => (bif v9 then (gd (acj ((s_0.length : Int) - (1 : Int))) <| (gd (0 ≤ (1 : Int) ∧ (1 : Int) ≤ ((s_0.length : Int) - (1 : Int)) ∧ ((s_0.length : Int) - (1 : Int)) ≤ (s_0.length : Int)) <| ((ajx fu (sub s_0 (1 : Int) ((s_0.length : Int) - (1 : Int)))).bind fun (a0 : (Str × Bool)) => (bif (!a0.2) then some (([] : Str), false) else (gd (([91] : Str).length + a0.1.length ≤ 9223372036854775807) <| (gd ((([91] : Str) ++ a0.1).length + ([93] : Str).length ≤ 9223372036854775807) <| some ((([91] : Str) ++ a0.1) ++ ([93] : Str), true))))))) else ((ajg fu s_0).bind fun (a1 : Bool) => (bif a1 then some (s_0, true) else ((akr fu s_0).bind fun (a2 : Bool) => (bif a2 then ((adp fu s_0).bind fun (a3 : Str) => some (a3, true)) else some (([] : Str), false)))))))
end Go.Wk
set_option linter.unusedVariables false
set_option linter.unusedSimpArgs false
set_option maxRecDepth 20000
set_option maxHeartbeats 1000000
namespace Go.Wk
open Go.Px
def akb (fu : Nat) (a0 : (Str × Int)) (a3 : (Str × Str × Str × Int × (List (Str × Str × Bool)) × (List (Str × Str × Bool)))) : Option (Int × UInt8 × (Str × Int) × (Str × Str × Str × Int × (List (Str × Str × Bool)) × (List (Str × Str × Bool)))) :=
  (((gd (0 ≤ a0.2 ∧ a0.2 ≤ (a0.1.length : Int)) <| (if (0 : Int) ≤ (ixb (· == (64 : UInt8)) (List.drop (Int.toNat a0.2) a0.1)) then (gd (acj (a0.2 + (ixb (· == (64 : UInt8)) (List.drop (Int.toNat a0.2) a0.1)))) <| ((ahq fu a0 (a0.2 + (ixb (· == (64 : UInt8)) (List.drop (Int.toNat a0.2) a0.1))) (0 : Int)).bind fun (a5 : (Int × Bool)) => (bif a5.2 then none else (if (ixb (· == (64 : UInt8)) (List.drop (Int.toNat a0.2) a0.1)) = (0 : Int) then none else (gd (0 ≤ a0.2 ∧ a0.2 ≤ (a0.2 + (ixb (· == (64 : UInt8)) (List.drop (Int.toNat a0.2) a0.1))) ∧ (a0.2 + (ixb (· == (64 : UInt8)) (List.drop (Int.toNat a0.2) a0.1))) ≤ (a0.1.length : Int)) <| ((alc fu (sub a0.1 a0.2 (a0.2 + (ixb (· == (64 : UInt8)) (List.drop (Int.toNat a0.2) a0.1))))).bind fun (a6 : Str) => (gd (acj ((a0.2 + (ixb (· == (64 : UInt8)) (List.drop (Int.toNat a0.2) a0.1))) + (1 : Int))) <| some ((a0.2 + (ixb (· == (64 : UInt8)) (List.drop (Int.toNat a0.2) a0.1))) + (1 : Int), a6)))))))) else some (a0.2, a3.2.1)))).bind fun (a2 : (Int × Str)) => ((aen fu a0.1 a2.1 ([58, 59, 63] : Str)).bind fun (a1 : Int) => ((abm fu (a0.1, a2.1) (91 : UInt8)).bind fun (a7 : Bool) => (bif a7 then none else (gd (0 ≤ a2.1 ∧ a2.1 ≤ a1 ∧ a1 ≤ (a0.1.length : Int)) <| ((agt fu (sub a0.1 a2.1 a1)).bind fun (a4 : (Str × Bool)) => (bif (!a4.2) then none else ((abm fu (a0.1, a1) (58 : UInt8)).bind fun (a8 : Bool) => (bif a8 then none else ((((aeq fu (a0.1, a1)).bind fun (a9 : Bool) => (bif (!a9) then ((abm fu (a0.1, a1) (59 : UInt8)).bind fun (b0 : Bool) => (bif (!b0) then none else some ())) else some ()))).bind fun (b1 : Unit) => some ((0 : Int), (0 : UInt8), (a0.1, a1), (a3.1, a2.2, a4.1, a3.2.2.2.1, a3.2.2.2.2.1, a3.2.2.2.2.2))))))))))))
def ajh (fu : Nat) (a0 : (Str × Str × Bool)) (a1 : Str) : Option Bool :=
  some (decide (a0.1 = a1))
def aay (fu : Nat) (s_0 : List (Str × Str × Bool)) (a1 : Str) : Nat → Int → Option (Unit ⊕ Int)
  | 0, _ => none
  | a2 + 1, a0 => (if a0 < (s_0.length : Int) then (gd (0 ≤ a0 ∧ a0 < (s_0.length : Int)) <| (gd (0 ≤ a0 ∧ a0 < (s_0.length : Int)) <| ((ajh fu ((el s_0 a0).1, (el s_0 a0).2.1, ((el s_0 a0).2.2)) a1).bind fun (a3 : Bool) => (bif a3 then some (.inr a0) else (gd (acj (a0 + (1 : Int))) <| (aay fu s_0 a1 a2 (a0 + (1 : Int)))))))) else some (.inl ()))
def adk (fu : Nat) (s_0 : List (Str × Str × Bool)) (a0 : Str) : Option Int :=
  (((aay fu s_0 a0 fu (0 : Int))).bind fun (a1 : (Unit ⊕ Int)) => Sum.elim (fun (a2 : Unit) => some (-1 : Int)) (fun q => some q) a1)
def ada (fu : Nat) (s_0 : List (Str × Str × Bool)) (a0 : Str) : Option Bool :=
  ((adk fu s_0 a0).bind fun (y1 : Int) => some (decide ((0 : Int) ≤ y1)))
def aho (fu : Nat) (a0 : List (Str × Str × Bool)) (a1 : Str) : Option Bool :=
  ((ada fu a0 a1).bind fun (y4 : Bool) => some y4)
def aka (fu : Nat) (a0 : List (Str × Str × Bool)) (a1 : Str) : Option UInt8 :=
  ((aho fu a0 a1).bind fun (y1 : Bool) => (bif y1 then some (7 : UInt8) else (if (16 : Int) ≤ (a0.length : Int) then some (4 : UInt8) else some (0 : UInt8))))
def akc (fu : Nat) (a0 : (Str × Int)) (a2 : List (Str × Str × Bool)) (a1 : Int) (a4 : Int) : Option ((List (Str × Str × Bool)) × Int × UInt8 × (Str × Int)) :=
  (gd (0 ≤ a0.2 ∧ a0.2 ≤ a1 ∧ a1 ≤ (a0.1.length : Int)) <| (if (0 : Int) ≤ (ixb (· == (61 : UInt8)) (sub a0.1 a0.2 a1)) then none else ((ahq fu a0 a1 a4).bind fun (y7 : (Int × Bool)) => (bif y7.2 then none else (if a1 = a0.2 then none else (gd (0 ≤ a0.2 ∧ a0.2 ≤ a1 ∧ a1 ≤ (a0.1.length : Int)) <| ((alc fu (sub a0.1 a0.2 a1)).bind fun (a5 : Str) => ((adp fu a5).bind fun (a3 : Str) => (if (0 : Int) ≤ (ixb (· == (61 : UInt8)) (sub a0.1 a0.2 a1)) then none else (if a4 = (2 : Int) then none else ((aka fu a2 a3).bind fun (a6 : UInt8) => (if a6 = (0 : UInt8) then (gd ((a2.length + ([(a3, ([] : Str), (decide ((0 : Int) ≤ (ixb (· == (61 : UInt8)) (sub a0.1 a0.2 a1)))))] : List (Str × Str × Bool)).length) * 40 ≤ 140737488355328) <| some (a2 ++ ([(a3, ([] : Str), (decide ((0 : Int) ≤ (ixb (· == (61 : UInt8)) (sub a0.1 a0.2 a1)))))] : List (Str × Str × Bool)), (0 : Int), (0 : UInt8), (a0.1, a1))) else none))))))))))))
def aij (fu : Nat) (a0 : Str) : Option Bool :=
  some (!decide (a0 = a0))
end Go.Wk
set_option linter.unusedVariables false
set_option linter.unusedSimpArgs false
set_option maxRecDepth 20000
set_option maxHeartbeats 1000000
namespace Go.Wk
open Go.Px
def ahc (fu : Nat) (a0 : Str) (a1 : Str) : Option Int :=
  ((aij fu a0).bind fun (y1 : Bool) => ((aij fu a1).bind fun (y6 : Bool) => (bif y1 then (bif y6 then some (0 : Int) else some (-1 : Int)) else (bif y6 then some (1 : Int) else (bif (Op.bytesLess a0 a1) then some (-1 : Int) else (bif (!(Op.bytesLess a0 a1 || a0 == a1)) then some (1 : Int) else some (0 : Int)))))))
def agz (fu : Nat) (a0 : (Str × Str × Bool)) (a1 : (Str × Str × Bool)) : Option Int :=
  ((ahc fu a0.1 a1.1).bind fun (y7 : Int) => some y7)
def abv (fu : Nat) (a2 : Int) : Nat → (List (Str × Str × Bool)) → Int → Option (List (Str × Str × Bool))
  | 0, _, _ => none
  | a3 + 1, a1, a0 => (((if a2 < a0 then (gd (0 ≤ a0 ∧ a0 < (a1.length : Int)) <| (gd (0 ≤ a0 ∧ a0 < (a1.length : Int)) <| (gd (acj (a0 - (1 : Int))) <| (gd (0 ≤ (a0 - (1 : Int)) ∧ (a0 - (1 : Int)) < (a1.length : Int)) <| (gd (0 ≤ (a0 - (1 : Int)) ∧ (a0 - (1 : Int)) < (a1.length : Int)) <| ((agz fu ((el a1 a0).1, (el a1 a0).2.1, ((el a1 a0).2.2)) ((el a1 (a0 - (1 : Int))).1, (el a1 (a0 - (1 : Int))).2.1, ((el a1 (a0 - (1 : Int))).2.2))).bind fun (a4 : Int) => some (decide (a4 < (0 : Int))))))))) else some false)).bind fun (a5 : Bool) => (bif a5 then (gd (acj (a0 - (1 : Int))) <| (gd (acj (a0 - (1 : Int))) <| (gd (0 ≤ (a0 - (1 : Int)) ∧ (a0 - (1 : Int)) < (a1.length : Int)) <| (gd (0 ≤ (a0 - (1 : Int)) ∧ (a0 - (1 : Int)) < (a1.length : Int)) <| (gd (0 ≤ a0 ∧ a0 < (a1.length : Int)) <| (gd (0 ≤ a0 ∧ a0 < (a1.length : Int)) <| (gd (0 ≤ a0 ∧ a0 < (a1.length : Int)) <| (gd (0 ≤ a0 ∧ a0 < (a1.length : Int)) <| (gd (0 ≤ (a0 - (1 : Int)) ∧ (a0 - (1 : Int)) < ((List.set a1 (Int.toNat a0) ((el a1 (a0 - (1 : Int))).1, (el a1 (a0 - (1 : Int))).2.1, ((el a1 (a0 - (1 : Int))).2.2))).length : Int)) <| (gd (0 ≤ (a0 - (1 : Int)) ∧ (a0 - (1 : Int)) < ((List.set a1 (Int.toNat a0) ((el a1 (a0 - (1 : Int))).1, (el a1 (a0 - (1 : Int))).2.1, ((el a1 (a0 - (1 : Int))).2.2))).length : Int)) <| (gd (acj (a0 - (1 : Int))) <| (abv fu a2 a3 (List.set (List.set a1 (Int.toNat a0) ((el a1 (a0 - (1 : Int))).1, (el a1 (a0 - (1 : Int))).2.1, ((el a1 (a0 - (1 : Int))).2.2))) (Int.toNat (a0 - (1 : Int))) ((el a1 a0).1, (el a1 a0).2.1, ((el a1 a0).2.2))) (a0 - (1 : Int)))))))))))))) else some a1))
def abw (fu : Nat) (a1 : Int) (a2 : Int) : Nat → (List (Str × Str × Bool)) → Int → Option (List (Str × Str × Bool))
  | 0, _, _ => none
  | a4 + 1, a3, a0 => (if a0 < a2 then (((abv fu a1 fu a3 a0)).bind fun (a5 : List (Str × Str × Bool)) => (gd (acj (a0 + (1 : Int))) <| (abw fu a1 a2 a4 a5 (a0 + (1 : Int))))) else some a3)
def aci (fu : Nat) (a1 : List (Str × Str × Bool)) (a0 : Int) (a2 : Int) : Option (List (Str × Str × Bool)) :=
  (gd (acj (a0 + (1 : Int))) <| (abw fu a0 a2 fu a1 (a0 + (1 : Int))))
def ach (fu : Nat) (a3 : Int) (a2 : Int) (a4 : Int) : Nat → (List (Str × Str × Bool)) → Int → Option (List (Str × Str × Bool))
  | 0, _, _ => none
  | a5 + 1, a1, a0 => (if a0 < a4 then (gd (acj (a3 + a0)) <| (gd (acj (a2 + a0)) <| (gd (acj (a2 + a0)) <| (gd (0 ≤ (a2 + a0) ∧ (a2 + a0) < (a1.length : Int)) <| (gd (0 ≤ (a2 + a0) ∧ (a2 + a0) < (a1.length : Int)) <| (gd (acj (a3 + a0)) <| (gd (0 ≤ (a3 + a0) ∧ (a3 + a0) < (a1.length : Int)) <| (gd (0 ≤ (a3 + a0) ∧ (a3 + a0) < (a1.length : Int)) <| (gd (0 ≤ (a3 + a0) ∧ (a3 + a0) < (a1.length : Int)) <| (gd (0 ≤ (a3 + a0) ∧ (a3 + a0) < (a1.length : Int)) <| (gd (0 ≤ (a2 + a0) ∧ (a2 + a0) < ((List.set a1 (Int.toNat (a3 + a0)) ((el a1 (a2 + a0)).1, (el a1 (a2 + a0)).2.1, ((el a1 (a2 + a0)).2.2))).length : Int)) <| (gd (0 ≤ (a2 + a0) ∧ (a2 + a0) < ((List.set a1 (Int.toNat (a3 + a0)) ((el a1 (a2 + a0)).1, (el a1 (a2 + a0)).2.1, ((el a1 (a2 + a0)).2.2))).length : Int)) <| (gd (acj (a0 + (1 : Int))) <| (ach fu a3 a2 a4 a5 (List.set (List.set a1 (Int.toNat (a3 + a0)) ((el a1 (a2 + a0)).1, (el a1 (a2 + a0)).2.1, ((el a1 (a2 + a0)).2.2))) (Int.toNat (a2 + a0)) ((el a1 (a3 + a0)).1, (el a1 (a3 + a0)).2.1, ((el a1 (a3 + a0)).2.2))) (a0 + (1 : Int)))))))))))))))) else some a1)
def abt (fu : Nat) (a0 : List (Str × Str × Bool)) (a1 : Int) (a2 : Int) (a3 : Int) : Option (List (Str × Str × Bool)) :=
  (ach fu a1 a2 a3 fu a0 (0 : Int))
def abs (fu : Nat) (a2 : Int) : Nat → (List (Str × Str × Bool)) → Int → Int → Option ((List (Str × Str × Bool)) × Int)
  | 0, _, _, _ => none
  | a4 + 1, a3, a0, a1 => (if a0 = a1 then some (a3, a0) else (if a1 < a0 then (gd (acj (a2 - a0)) <| ((abt fu a3 (a2 - a0) a2 a1).bind fun (a5 : List (Str × Str × Bool)) => (gd (acj (a0 - a1)) <| (abs fu a2 a4 a5 (a0 - a1) a1)))) else (gd (acj (a2 - a0)) <| (gd (acj (a2 + a1)) <| (gd (acj ((a2 + a1) - a0)) <| ((abt fu a3 (a2 - a0) ((a2 + a1) - a0) a0).bind fun (a6 : List (Str × Str × Bool)) => (gd (acj (a1 - a0)) <| (abs fu a2 a4 a6 a0 (a1 - a0)))))))))
def aeb (fu : Nat) (a4 : List (Str × Str × Bool)) (a2 : Int) (a0 : Int) (a3 : Int) : Option (List (Str × Str × Bool)) :=
  (gd (acj (a0 - a2)) <| (gd (acj (a3 - a0)) <| (((abs fu a0 fu a4 (a0 - a2) (a3 - a0))).bind fun (a1 : ((List (Str × Str × Bool)) × Int)) => (gd (acj (a0 - a1.2)) <| ((abt fu a1.1 (a0 - a1.2) a0 a1.2).bind fun (a5 : List (Str × Str × Bool)) => some a5)))))
def abl (fu : Nat) (a2 : List (Str × Str × Bool)) (a3 : Int) : Nat → Int → Int → Option Int
  | 0, _, _ => none
  | a4 + 1, a0, a1 => (if a0 < a1 then (gd (acj (a0 + a1)) <| (gd (0 ≤ (IntKind.wrap .i64 ((IntKind.wrap .u64 (a0 + a1)) / 2)) ∧ (IntKind.wrap .i64 ((IntKind.wrap .u64 (a0 + a1)) / 2)) < (a2.length : Int)) <| (gd (0 ≤ (IntKind.wrap .i64 ((IntKind.wrap .u64 (a0 + a1)) / 2)) ∧ (IntKind.wrap .i64 ((IntKind.wrap .u64 (a0 + a1)) / 2)) < (a2.length : Int)) <| (gd (0 ≤ a3 ∧ a3 < (a2.length : Int)) <| (gd (0 ≤ a3 ∧ a3 < (a2.length : Int)) <| ((agz fu ((el a2 (IntKind.wrap .i64 ((IntKind.wrap .u64 (a0 + a1)) / 2))).1, (el a2 (IntKind.wrap .i64 ((IntKind.wrap .u64 (a0 + a1)) / 2))).2.1, ((el a2 (IntKind.wrap .i64 ((IntKind.wrap .u64 (a0 + a1)) / 2))).2.2)) ((el a2 a3).1, (el a2 a3).2.1, ((el a2 a3).2.2))).bind fun (a5 : Int) => (if a5 < (0 : Int) then (gd (acj ((IntKind.wrap .i64 ((IntKind.wrap .u64 (a0 + a1)) / 2)) + (1 : Int))) <| (abl fu a2 a3 a4 ((IntKind.wrap .i64 ((IntKind.wrap .u64 (a0 + a1)) / 2)) + (1 : Int)) a1)) else (abl fu a2 a3 a4 a0 (IntKind.wrap .i64 ((IntKind.wrap .u64 (a0 + a1)) / 2)))))))))) else some a0)
def acm (fu : Nat) (a2 : Int) : Nat → (List (Str × Str × Bool)) → Int → Option (List (Str × Str × Bool))
  | 0, _, _ => none
  | a3 + 1, a1, a0 => (gd (acj (a2 - (1 : Int))) <| (if a0 < (a2 - (1 : Int)) then (gd (acj (a0 + (1 : Int))) <| (gd (acj (a0 + (1 : Int))) <| (gd (0 ≤ (a0 + (1 : Int)) ∧ (a0 + (1 : Int)) < (a1.length : Int)) <| (gd (0 ≤ (a0 + (1 : Int)) ∧ (a0 + (1 : Int)) < (a1.length : Int)) <| (gd (0 ≤ a0 ∧ a0 < (a1.length : Int)) <| (gd (0 ≤ a0 ∧ a0 < (a1.length : Int)) <| (gd (0 ≤ a0 ∧ a0 < (a1.length : Int)) <| (gd (0 ≤ a0 ∧ a0 < (a1.length : Int)) <| (gd (0 ≤ (a0 + (1 : Int)) ∧ (a0 + (1 : Int)) < ((List.set a1 (Int.toNat a0) ((el a1 (a0 + (1 : Int))).1, (el a1 (a0 + (1 : Int))).2.1, ((el a1 (a0 + (1 : Int))).2.2))).length : Int)) <| (gd (0 ≤ (a0 + (1 : Int)) ∧ (a0 + (1 : Int)) < ((List.set a1 (Int.toNat a0) ((el a1 (a0 + (1 : Int))).1, (el a1 (a0 + (1 : Int))).2.1, ((el a1 (a0 + (1 : Int))).2.2))).length : Int)) <| (gd (acj (a0 + (1 : Int))) <| (acm fu a2 a3 (List.set (List.set a1 (Int.toNat a0) ((el a1 (a0 + (1 : Int))).1, (el a1 (a0 + (1 : Int))).2.1, ((el a1 (a0 + (1 : Int))).2.2))) (Int.toNat (a0 + (1 : Int))) ((el a1 a0).1, (el a1 a0).2.1, ((el a1 a0).2.2))) (a0 + (1 : Int)))))))))))))) else some a1))
def abk (fu : Nat) (a2 : List (Str × Str × Bool)) (a3 : Int) : Nat → Int → Int → Option Int
  | 0, _, _ => none
  | a4 + 1, a0, a1 => (if a0 < a1 then (gd (acj (a0 + a1)) <| (gd (0 ≤ a3 ∧ a3 < (a2.length : Int)) <| (gd (0 ≤ a3 ∧ a3 < (a2.length : Int)) <| (gd (0 ≤ (IntKind.wrap .i64 ((IntKind.wrap .u64 (a0 + a1)) / 2)) ∧ (IntKind.wrap .i64 ((IntKind.wrap .u64 (a0 + a1)) / 2)) < (a2.length : Int)) <| (gd (0 ≤ (IntKind.wrap .i64 ((IntKind.wrap .u64 (a0 + a1)) / 2)) ∧ (IntKind.wrap .i64 ((IntKind.wrap .u64 (a0 + a1)) / 2)) < (a2.length : Int)) <| ((agz fu ((el a2 a3).1, (el a2 a3).2.1, ((el a2 a3).2.2)) ((el a2 (IntKind.wrap .i64 ((IntKind.wrap .u64 (a0 + a1)) / 2))).1, (el a2 (IntKind.wrap .i64 ((IntKind.wrap .u64 (a0 + a1)) / 2))).2.1, ((el a2 (IntKind.wrap .i64 ((IntKind.wrap .u64 (a0 + a1)) / 2))).2.2))).bind fun (a5 : Int) => (if a5 < (0 : Int) then (abk fu a2 a3 a4 a0 (IntKind.wrap .i64 ((IntKind.wrap .u64 (a0 + a1)) / 2))) else (gd (acj ((IntKind.wrap .i64 ((IntKind.wrap .u64 (a0 + a1)) / 2)) + (1 : Int))) <| (abk fu a2 a3 a4 ((IntKind.wrap .i64 ((IntKind.wrap .u64 (a0 + a1)) / 2)) + (1 : Int)) a1))))))))) else some a0)
def acl (fu : Nat) (a2 : Int) : Nat → (List (Str × Str × Bool)) → Int → Option (List (Str × Str × Bool))
  | 0, _, _ => none
  | a3 + 1, a1, a0 => (if a2 < a0 then (gd (acj (a0 - (1 : Int))) <| (gd (acj (a0 - (1 : Int))) <| (gd (0 ≤ (a0 - (1 : Int)) ∧ (a0 - (1 : Int)) < (a1.length : Int)) <| (gd (0 ≤ (a0 - (1 : Int)) ∧ (a0 - (1 : Int)) < (a1.length : Int)) <| (gd (0 ≤ a0 ∧ a0 < (a1.length : Int)) <| (gd (0 ≤ a0 ∧ a0 < (a1.length : Int)) <| (gd (0 ≤ a0 ∧ a0 < (a1.length : Int)) <| (gd (0 ≤ a0 ∧ a0 < (a1.length : Int)) <| (gd (0 ≤ (a0 - (1 : Int)) ∧ (a0 - (1 : Int)) < ((List.set a1 (Int.toNat a0) ((el a1 (a0 - (1 : Int))).1, (el a1 (a0 - (1 : Int))).2.1, ((el a1 (a0 - (1 : Int))).2.2))).length : Int)) <| (gd (0 ≤ (a0 - (1 : Int)) ∧ (a0 - (1 : Int)) < ((List.set a1 (Int.toNat a0) ((el a1 (a0 - (1 : Int))).1, (el a1 (a0 - (1 : Int))).2.1, ((el a1 (a0 - (1 : Int))).2.2))).length : Int)) <| (gd (acj (a0 - (1 : Int))) <| (acl fu a2 a3 (List.set (List.set a1 (Int.toNat a0) ((el a1 (a0 - (1 : Int))).1, (el a1 (a0 - (1 : Int))).2.1, ((el a1 (a0 - (1 : Int))).2.2))) (Int.toNat (a0 - (1 : Int))) ((el a1 a0).1, (el a1 a0).2.1, ((el a1 a0).2.2))) (a0 - (1 : Int)))))))))))))) else some a1)
def abj (fu : Nat) (a2 : List (Str × Str × Bool)) (a3 : Int) (a4 : Int) (a5 : Int) : Nat → Int → Int → Option Int
  | 0, _, _ => none
  | a6 + 1, a0, a1 => (if a0 < a1 then (gd (acj (a0 + a1)) <| (gd (acj ((((IntKind.wrap .i64 ((IntKind.wrap .u64 (a3 + a5)) / 2)) + a4) - (1 : Int)) - (IntKind.wrap .i64 ((IntKind.wrap .u64 (a0 + a1)) / 2)))) <| (gd (0 ≤ ((((IntKind.wrap .i64 ((IntKind.wrap .u64 (a3 + a5)) / 2)) + a4) - (1 : Int)) - (IntKind.wrap .i64 ((IntKind.wrap .u64 (a0 + a1)) / 2))) ∧ ((((IntKind.wrap .i64 ((IntKind.wrap .u64 (a3 + a5)) / 2)) + a4) - (1 : Int)) - (IntKind.wrap .i64 ((IntKind.wrap .u64 (a0 + a1)) / 2))) < (a2.length : Int)) <| (gd (0 ≤ ((((IntKind.wrap .i64 ((IntKind.wrap .u64 (a3 + a5)) / 2)) + a4) - (1 : Int)) - (IntKind.wrap .i64 ((IntKind.wrap .u64 (a0 + a1)) / 2))) ∧ ((((IntKind.wrap .i64 ((IntKind.wrap .u64 (a3 + a5)) / 2)) + a4) - (1 : Int)) - (IntKind.wrap .i64 ((IntKind.wrap .u64 (a0 + a1)) / 2))) < (a2.length : Int)) <| (gd (0 ≤ (IntKind.wrap .i64 ((IntKind.wrap .u64 (a0 + a1)) / 2)) ∧ (IntKind.wrap .i64 ((IntKind.wrap .u64 (a0 + a1)) / 2)) < (a2.length : Int)) <| (gd (0 ≤ (IntKind.wrap .i64 ((IntKind.wrap .u64 (a0 + a1)) / 2)) ∧ (IntKind.wrap .i64 ((IntKind.wrap .u64 (a0 + a1)) / 2)) < (a2.length : Int)) <| ((agz fu ((el a2 ((((IntKind.wrap .i64 ((IntKind.wrap .u64 (a3 + a5)) / 2)) + a4) - (1 : Int)) - (IntKind.wrap .i64 ((IntKind.wrap .u64 (a0 + a1)) / 2)))).1, (el a2 ((((IntKind.wrap .i64 ((IntKind.wrap .u64 (a3 + a5)) / 2)) + a4) - (1 : Int)) - (IntKind.wrap .i64 ((IntKind.wrap .u64 (a0 + a1)) / 2)))).2.1, ((el a2 ((((IntKind.wrap .i64 ((IntKind.wrap .u64 (a3 + a5)) / 2)) + a4) - (1 : Int)) - (IntKind.wrap .i64 ((IntKind.wrap .u64 (a0 + a1)) / 2)))).2.2)) ((el a2 (IntKind.wrap .i64 ((IntKind.wrap .u64 (a0 + a1)) / 2))).1, (el a2 (IntKind.wrap .i64 ((IntKind.wrap .u64 (a0 + a1)) / 2))).2.1, ((el a2 (IntKind.wrap .i64 ((IntKind.wrap .u64 (a0 + a1)) / 2))).2.2))).bind fun (a7 : Int) => (if a7 < (0 : Int) then (abj fu a2 a3 a4 a5 a6 a0 (IntKind.wrap .i64 ((IntKind.wrap .u64 (a0 + a1)) / 2))) else (gd (acj ((IntKind.wrap .i64 ((IntKind.wrap .u64 (a0 + a1)) / 2)) + (1 : Int))) <| (abj fu a2 a3 a4 a5 a6 ((IntKind.wrap .i64 ((IntKind.wrap .u64 (a0 + a1)) / 2)) + (1 : Int)) a1)))))))))) else some a0)
def abe : Nat → (List (Str × Str × Bool)) → Int → Int → Int → Option (List (Str × Str × Bool))
  | 0, _, _, _, _ => none
  | fu + 1, a4, a0, a2, a1 => (((gd (acj (a2 - a0)) <| (if (a2 - a0) = (1 : Int) then (((abl fu a4 a0 fu a2 a1)).bind fun (a8 : Int) => (((acm fu a8 fu a4 a0)).bind fun (a9 : List (Str × Str × Bool)) => some (.inr a9))) else some (.inl ())))).bind fun (b0 : (Unit ⊕ (List (Str × Str × Bool)))) => Sum.elim (fun (c0 : Unit) => (((gd (acj (a1 - a2)) <| (if (a1 - a2) = (1 : Int) then (((abk fu a4 a2 fu a0 a2)).bind fun (b1 : Int) => (((acl fu b1 fu a4 a2)).bind fun (b2 : List (Str × Str × Bool)) => some (.inr b2))) else some (.inl ())))).bind fun (b3 : (Unit ⊕ (List (Str × Str × Bool)))) => Sum.elim (fun (c1 : Unit) => (gd (acj (a0 + a1)) <| (gd (acj ((IntKind.wrap .i64 ((IntKind.wrap .u64 (a0 + a1)) / 2)) + a2)) <| (((if (IntKind.wrap .i64 ((IntKind.wrap .u64 (a0 + a1)) / 2)) < a2 then (gd (acj (((IntKind.wrap .i64 ((IntKind.wrap .u64 (a0 + a1)) / 2)) + a2) - a1)) <| some (((IntKind.wrap .i64 ((IntKind.wrap .u64 (a0 + a1)) / 2)) + a2) - a1, IntKind.wrap .i64 ((IntKind.wrap .u64 (a0 + a1)) / 2))) else some (a0, a2))).bind fun (a5 : (Int × Int)) => (gd (acj (((IntKind.wrap .i64 ((IntKind.wrap .u64 (a0 + a1)) / 2)) + a2) - (1 : Int))) <| (((abj fu a4 a0 a2 a1 fu a5.1 a5.2)).bind fun (a3 : Int) => (gd (acj (((IntKind.wrap .i64 ((IntKind.wrap .u64 (a0 + a1)) / 2)) + a2) - a3)) <| (((((if a3 < a2 then some (decide (a2 < (((IntKind.wrap .i64 ((IntKind.wrap .u64 (a0 + a1)) / 2)) + a2) - a3))) else some false)).bind fun (b4 : Bool) => (bif b4 then ((aeb fu a4 a3 a2 (((IntKind.wrap .i64 ((IntKind.wrap .u64 (a0 + a1)) / 2)) + a2) - a3)).bind fun (b5 : List (Str × Str × Bool)) => some b5) else some a4))).bind fun (a6 : List (Str × Str × Bool)) => (((((if a0 < a3 then some (decide (a3 < (IntKind.wrap .i64 ((IntKind.wrap .u64 (a0 + a1)) / 2)))) else some false)).bind fun (b6 : Bool) => (bif b6 then ((abe fu a6 a0 a3 (IntKind.wrap .i64 ((IntKind.wrap .u64 (a0 + a1)) / 2))).bind fun (b7 : List (Str × Str × Bool)) => some b7) else some a6))).bind fun (a7 : List (Str × Str × Bool)) => (((if (IntKind.wrap .i64 ((IntKind.wrap .u64 (a0 + a1)) / 2)) < (((IntKind.wrap .i64 ((IntKind.wrap .u64 (a0 + a1)) / 2)) + a2) - a3) then some (decide ((((IntKind.wrap .i64 ((IntKind.wrap .u64 (a0 + a1)) / 2)) + a2) - a3) < a1)) else some false)).bind fun (b8 : Bool) => (bif b8 then ((abe fu a7 (IntKind.wrap .i64 ((IntKind.wrap .u64 (a0 + a1)) / 2)) (((IntKind.wrap .i64 ((IntKind.wrap .u64 (a0 + a1)) / 2)) + a2) - a3) a1).bind fun (b9 : List (Str × Str × Bool)) => some b9) else some a7))))))))))) (fun q => some q) b3)) (fun q => some q) b0)
def act (fu : Nat) (a1 : Int) : Nat → (List (Str × Str × Bool)) → Int → Int → Option ((List (Str × Str × Bool)) × Int)
  | 0, _, _, _ => none
  | a4 + 1, a2, a3, a0 => (if a0 ≤ a1 then ((aci fu a2 a3 a0).bind fun (a5 : List (Str × Str × Bool)) => (gd (acj (a0 + (20 : Int))) <| (act fu a1 a4 a5 a0 (a0 + (20 : Int))))) else some (a2, a3))
def acs (fu : Nat) (a3 : Int) (a0 : Int) : Nat → (List (Str × Str × Bool)) → Int → Int → Option ((List (Str × Str × Bool)) × Int)
  | 0, _, _, _ => none
  | a5 + 1, a4, a2, a1 => (if a1 ≤ a3 then (gd (acj (a2 + a0)) <| ((abe fu a4 a2 (a2 + a0) a1).bind fun (a6 : List (Str × Str × Bool)) => (gd (acj ((2 : Int) * a0)) <| (gd (acj (a1 + ((2 : Int) * a0))) <| (acs fu a3 a0 a5 a6 a1 (a1 + ((2 : Int) * a0))))))) else some (a4, a2))
def abr (fu : Nat) (a1 : Int) : Nat → (List (Str × Str × Bool)) → Int → Option (List (Str × Str × Bool))
  | 0, _, _ => none
  | a3 + 1, a4, a0 => (if a0 < a1 then (gd (acj ((2 : Int) * a0)) <| (((acs fu a1 a0 fu a4 (0 : Int) ((2 : Int) * a0))).bind fun (a2 : ((List (Str × Str × Bool)) × Int)) => (gd (acj (a2.2 + a0)) <| (if (a2.2 + a0) < a1 then ((abe fu a2.1 a2.2 (a2.2 + a0) a1).bind fun (a5 : List (Str × Str × Bool)) => (gd (acj (a0 * (2 : Int))) <| (abr fu a1 a3 a5 (a0 * (2 : Int))))) else (gd (acj (a0 * (2 : Int))) <| (abr fu a1 a3 a2.1 (a0 * (2 : Int)))))))) else some a4)
def aea (fu : Nat) (a2 : List (Str × Str × Bool)) (a0 : Int) : Option (List (Str × Str × Bool)) :=
  (((act fu a0 fu a2 (0 : Int) (20 : Int))).bind fun (a1 : ((List (Str × Str × Bool)) × Int)) => ((aci fu a1.1 a1.2 a0).bind fun (a3 : List (Str × Str × Bool)) => (abr fu a0 fu a3 (20 : Int))))
def adv (fu : Nat) (a0 : List (Str × Str × Bool)) : Option (List (Str × Str × Bool)) :=
  ((aea fu a0 (a0.length : Int)).bind fun (y1 : List (Str × Str × Bool)) => some y1)
end Go.Wk
set_option linter.unusedVariables false
set_option linter.unusedSimpArgs false
set_option maxRecDepth 20000
set_option maxHeartbeats 1000000
namespace Go.Wk
open Go.Px
def ahz (fu : Nat) (a0 : List (Str × Str × Bool)) : Option (List (Str × Str × Bool)) :=
  (gd ((0 + a0.length) * 40 ≤ 140737488355328) <| ((adv fu a0).bind fun (y8 : List (Str × Str × Bool)) => some y8))
def ajv (fu : Nat) : Nat → Int → UInt8 → Str → Int → (List (Str × Str × Bool)) → Option (Int × UInt8 × Str × Int × (List (Str × Str × Bool)))
  | 0, _, _, _, _, _ => none
  | a5 + 1, a6, a3, a2, a0, a4 => (((if a3 = (0 : UInt8) then ((abm fu (a2, a0) (59 : UInt8)).bind fun (a7 : Bool) => some a7) else none)).bind fun (a8 : Bool) => (bif a8 then (gd (acj (a0 + (1 : Int))) <| ((aen fu a2 (a0 + (1 : Int)) ([59, 63] : Str)).bind fun (a9 : Int) => ((akc fu (a2, a0 + (1 : Int)) a4 a9 (1 : Int)).bind fun (a1 : ((List (Str × Str × Bool)) × Int × UInt8 × (Str × Int))) => (ajv fu a5 a1.2.1 a1.2.2.1 a1.2.2.2.1 a1.2.2.2.2 a1.1)))) else some (a6, a3, a2, a0, a4)))
def alx (fu : Nat) (a0 : (Int × UInt8 × Str × Int × (List (Str × Str × Bool)))) : Nat → Option Unit
  | 0 => none
  | a3 + 1 => (((if a0.2.1 = (0 : UInt8) then ((aeq fu (a0.2.2.1, a0.2.2.2.1)).bind fun (a1 : Bool) => some (!a1)) else none)).bind fun (a2 : Bool) => (bif a2 then none else some ()))
def aoo (fu : Nat) (s_0 : Str) : Option ((Str × Str × Str × Int × (List (Str × Str × Bool)) × (List (Str × Str × Bool))) × Int × UInt8) :=
  (if (1024 : Int) < (s_0.length : Int) then none else (if (ixb (· == (58 : UInt8)) s_0) < (0 : Int) then none else (gd (acj ((ixb (· == (58 : UInt8)) s_0) + (1 : Int))) <| (gd (0 ≤ (ixb (· == (58 : UInt8)) s_0) ∧ (ixb (· == (58 : UInt8)) s_0) ≤ (s_0.length : Int)) <| ((adp fu (List.take (Int.toNat (ixb (· == (58 : UInt8)) s_0)) s_0)).bind fun (a1 : Str) => (if a1 = ([115, 105, 112] : Str) then (if a1 = ([115, 105, 112] : Str) then ((akb fu (s_0, (ixb (· == (58 : UInt8)) s_0) + (1 : Int)) (a1, ([] : Str), ([] : Str), (0 : Int), ([] : List (Str × Str × Bool)), ([] : List (Str × Str × Bool)))).bind fun (a0 : (Int × UInt8 × (Str × Int) × (Str × Str × Str × Int × (List (Str × Str × Bool)) × (List (Str × Str × Bool))))) => (((ajv fu fu a0.1 a0.2.1 a0.2.2.1.1 a0.2.2.1.2 a0.2.2.2.2.2.2.2.1)).bind fun (a2 : (Int × UInt8 × Str × Int × (List (Str × Str × Bool)))) => (((alx fu a2 fu)).bind fun (a5 : Unit) => (if a2.2.1 = (0 : UInt8) then ((ahz fu a2.2.2.2.2).bind fun (a3 : List (Str × Str × Bool)) => ((ahz fu a0.2.2.2.2.2.2.2.2).bind fun (a4 : List (Str × Str × Bool)) => some ((a0.2.2.2.1, a0.2.2.2.2.1, a0.2.2.2.2.2.1, a0.2.2.2.2.2.2.1, a3, a4), (0 : Int), (0 : UInt8)))) else none)))) else none) else none))))))
def ajs (fu : Nat) (a0 : (Str × Int)) (a2 : (Str × (Str × Str × Str × Int × (List (Str × Str × Bool)) × (List (Str × Str × Bool))) × (List (Str × Str × Bool)))) : Option (Int × UInt8 × (Str × Int) × (Str × (Str × Str × Str × Int × (List (Str × Str × Bool)) × (List (Str × Str × Bool))) × (List (Str × Str × Bool)))) :=
  ((abm fu a0 (60 : UInt8)).bind fun (a4 : Bool) => (bif a4 then (gd (acj (a0.2 + (1 : Int))) <| ((aen fu a0.1 (a0.2 + (1 : Int)) ([62] : Str)).bind fun (a1 : Int) => (if a1 = (a0.1.length : Int) then none else (gd (acj (a1 + (1 : Int))) <| (gd (0 ≤ (a0.2 + (1 : Int)) ∧ (a0.2 + (1 : Int)) ≤ a1 ∧ a1 ≤ (a0.1.length : Int)) <| ((aoo fu (sub a0.1 (a0.2 + (1 : Int)) a1)).bind fun (a3 : ((Str × Str × Str × Int × (List (Str × Str × Bool)) × (List (Str × Str × Bool))) × Int × UInt8)) => (if a3.2.2 = (0 : UInt8) then some ((0 : Int), (0 : UInt8), (a0.1, a1 + (1 : Int)), (a2.1, a3.1, a2.2.2)) else none))))))) else none))
def ahb (fu : Nat) (a0 : UInt8) : Option Bool :=
  (((if (32 : UInt8) ≤ a0 then some (decide (a0 ≤ (126 : UInt8))) else some false)).bind fun (v5 : Bool) => some v5)
def agj (fu : Nat) (a0 : UInt8) : Option Bool :=
  (((if a0 < (32 : UInt8) then (if a0 = (9 : UInt8) then some (decide (a0 = (127 : UInt8))) else some true) else some (decide (a0 = (127 : UInt8))))).bind fun (v6 : Bool) => some v6)
def aef (fu : Nat) (s_0 : Str) : Nat → (List UInt8) → Int → Option (((List UInt8) × Int) ⊕ (Str × Int × UInt8))
  | 0, _, _ => none
  | a2 + 1, a1, a0 => (if a0 < (s_0.length : Int) then (gd (0 ≤ a0 ∧ a0 < (s_0.length : Int)) <| (if (at_ s_0 a0) = (34 : UInt8) then some (.inl (a1, a0)) else (if (at_ s_0 a0) = (92 : UInt8) then (gd (acj (a0 + (1 : Int))) <| (if (a0 + (1 : Int)) = (s_0.length : Int) then some (.inr (([] : Str), (s_0.length : Int), (6 : UInt8))) else (gd (acj (a0 + (1 : Int))) <| (gd (0 ≤ (a0 + (1 : Int)) ∧ (a0 + (1 : Int)) < (s_0.length : Int)) <| ((ahb fu (at_ s_0 (a0 + (1 : Int)))).bind fun (a3 : Bool) => (bif (!a3) then some (.inr (([] : Str), a0, (5 : UInt8))) else (gd (acj (a0 + (1 : Int))) <| (gd (0 ≤ (a0 + (1 : Int)) ∧ (a0 + (1 : Int)) < (s_0.length : Int)) <| (gd ((a1.length + ([at_ s_0 (a0 + (1 : Int))] : List UInt8).length) * 1 ≤ 140737488355328) <| (gd (acj ((a0 + (1 : Int)) + (1 : Int))) <| (aef fu s_0 a2 (a1 ++ ([at_ s_0 (a0 + (1 : Int))] : List UInt8)) ((a0 + (1 : Int)) + (1 : Int))))))))))))) else ((agj fu (at_ s_0 a0)).bind fun (a4 : Bool) => (bif a4 then some (.inr (([] : Str), a0, (5 : UInt8))) else (gd (0 ≤ a0 ∧ a0 < (s_0.length : Int)) <| (gd ((a1.length + ([at_ s_0 a0] : List UInt8).length) * 1 ≤ 140737488355328) <| (gd (acj (a0 + (1 : Int))) <| (aef fu s_0 a2 (a1 ++ ([at_ s_0 a0] : List UInt8)) (a0 + (1 : Int))))))))))) else some (.inl (a1, a0)))
def akq (fu : Nat) (s_0 : Str) (a0 : Int) : Option (Str × Int × UInt8) :=
  (((if a0 < (0 : Int) then some true else some (decide ((s_0.length : Int) < a0)))).bind fun (v5 : Bool) => (bif v5 then some (([] : Str), (0 : Int), (2 : UInt8)) else (((if a0 = (s_0.length : Int) then some true else (gd (0 ≤ a0 ∧ a0 < (s_0.length : Int)) <| some (!decide ((at_ s_0 a0) = (34 : UInt8)))))).bind fun (a2 : Bool) => (bif a2 then some (([] : Str), a0, (5 : UInt8)) else (gd (acj (a0 + (1 : Int))) <| (((aef fu s_0 fu ([] : List UInt8) (a0 + (1 : Int)))).bind fun (a3 : (((List UInt8) × Int) ⊕ (Str × Int × UInt8))) => Sum.elim (fun (a1 : ((List UInt8) × Int)) => (if (s_0.length : Int) ≤ a1.2 then some (([] : Str), (s_0.length : Int), (6 : UInt8)) else (gd (acj (a1.2 + (1 : Int))) <| some (a1.1, a1.2 + (1 : Int), (0 : UInt8))))) (fun q => some q) a3))))))
def agi (fu : Nat) (a7 : (Str × Int)) : Option ((Str × Str × Bool) × Int × UInt8 × (Str × Int)) :=
  ((aep fu a7).bind fun (y4 : (Str × (Str × Int))) => ((adp fu y4.1).bind fun (a2 : Str) => (if a2 = ([] : Str) then some ((([] : Str), ([] : Str), false), y4.2.2, (5 : UInt8), y4.2) else ((acx fu y4.2).bind fun (a3 : (Str × Int)) => ((abm fu a3 (61 : UInt8)).bind fun (a8 : Bool) => (bif (!a8) then some ((a2, ([] : Str), false), (0 : Int), (0 : UInt8), a3) else (gd (acj (a3.2 + (1 : Int))) <| ((acx fu (a3.1, a3.2 + (1 : Int))).bind fun (a0 : (Str × Int)) => ((abm fu a0 (34 : UInt8)).bind fun (a9 : Bool) => (bif a9 then ((akq fu a0.1 a0.2).bind fun (a4 : (Str × Int × UInt8)) => (if a4.2.2 = (0 : UInt8) then some ((a2, a4.1, true), (0 : Int), (0 : UInt8), (a0.1, a4.2.1)) else some ((([] : Str), ([] : Str), false), a4.2.1, a4.2.2, a0))) else ((abm fu a0 (91 : UInt8)).bind fun (b0 : Bool) => (bif b0 then ((aen fu a0.1 a0.2 ([93] : Str)).bind fun (a1 : Int) => (gd (acj (a1 + (1 : Int))) <| (gd (0 ≤ a0.2 ∧ a0.2 ≤ (min (a1 + (1 : Int)) (a0.1.length : Int)) ∧ (min (a1 + (1 : Int)) (a0.1.length : Int)) ≤ (a0.1.length : Int)) <| ((agt fu (sub a0.1 a0.2 (min (a1 + (1 : Int)) (a0.1.length : Int)))).bind fun (a6 : (Str × Bool)) => (bif (!a6.2) then some ((([] : Str), ([] : Str), false), a0.2, (5 : UInt8), a0) else (gd (acj (a1 + (1 : Int))) <| some ((a2, a6.1, true), (0 : Int), (0 : UInt8), (a0.1, a1 + (1 : Int))))))))) else ((aep fu a0).bind fun (a5 : (Str × (Str × Int))) => (if a5.1 = ([] : Str) then some ((([] : Str), ([] : Str), false), a5.2.2, (5 : UInt8), a5.2) else some ((a2, a5.1, true), (0 : Int), (0 : UInt8), a5.2)))))))))))))))
def afg (fu : Nat) : Nat → (List (Str × Str × Bool)) → Str → Int → Option ((List (Str × Str × Bool)) × Int × UInt8)
  | 0, _, _, _ => none
  | a5 + 1, a2, a6, a7 => ((acx fu (a6, a7)).bind fun (a1 : (Str × Int)) => ((aeq fu a1).bind fun (a8 : Bool) => (bif a8 then some (a2, (0 : Int), (0 : UInt8)) else ((abm fu a1 (59 : UInt8)).bind fun (a9 : Bool) => (bif (!a9) then some (([] : List (Str × Str × Bool)), a1.2, (5 : UInt8)) else (gd (acj (a1.2 + (1 : Int))) <| ((acx fu (a1.1, a1.2 + (1 : Int))).bind fun (a4 : (Str × Int)) => ((agi fu a4).bind fun (a0 : ((Str × Str × Bool) × Int × UInt8 × (Str × Int))) => (((if a0.2.2.1 = (0 : UInt8) then ((aka fu a2 a0.1.1).bind fun (b0 : UInt8) => some (a4.2, b0)) else some (a0.2.1, a0.2.2.1))).bind fun (a3 : (Int × UInt8)) => (if a3.2 = (0 : UInt8) then (gd ((a2.length + ([a0.1] : List (Str × Str × Bool)).length) * 40 ≤ 140737488355328) <| (afg fu a5 (a2 ++ ([a0.1] : List (Str × Str × Bool))) a0.2.2.2.1 a0.2.2.2.2)) else some (([] : List (Str × Str × Bool)), a3.1, a3.2)))))))))))
def agn (fu : Nat) (s_0 : Str) : Option ((List (Str × Str × Bool)) × Int × UInt8) :=
  (afg fu fu ([] : List (Str × Str × Bool)) s_0 (0 : Int))
end Go.Wk
set_option linter.unusedVariables false
set_option linter.unusedSimpArgs false
set_option maxRecDepth 20000
set_option maxHeartbeats 1000000
namespace Go.Wk
open Go.Px
def ake (fu : Nat) (s_0 : Str) : Option ((Str × (Str × Str × Str × Int × (List (Str × Str × Bool)) × (List (Str × Str × Bool))) × (List (Str × Str × Bool))) × Int × UInt8) :=
  (if (1024 : Int) < (s_0.length : Int) then none else ((acx fu (s_0, (0 : Int))).bind fun (y8 : (Str × Int)) => ((abm fu y8 (34 : UInt8)).bind fun (a3 : Bool) => (bif a3 then none else (gd (s_0.length ≤ 1000000000) <| (bif (Lib.contains s_0 ([60] : Str)) then ((ahx fu y8 (([] : Str), (([] : Str), ([] : Str), ([] : Str), (0 : Int), ([] : List (Str × Str × Bool)), ([] : List (Str × Str × Bool))), ([] : List (Str × Str × Bool)))).bind fun (a1 : (Int × UInt8 × (Str × Int) × (Str × (Str × Str × Str × Int × (List (Str × Str × Bool)) × (List (Str × Str × Bool))) × (List (Str × Str × Bool))))) => (if a1.2.1 = (0 : UInt8) then ((ajs fu a1.2.2.1 a1.2.2.2).bind fun (a0 : (Int × UInt8 × (Str × Int) × (Str × (Str × Str × Str × Int × (List (Str × Str × Bool)) × (List (Str × Str × Bool))) × (List (Str × Str × Bool))))) => (if a0.2.1 = (0 : UInt8) then (gd (0 ≤ a0.2.2.1.2 ∧ a0.2.2.1.2 ≤ (s_0.length : Int)) <| ((agn fu (List.drop (Int.toNat a0.2.2.1.2) s_0)).bind fun (a2 : ((List (Str × Str × Bool)) × Int × UInt8)) => (gd (acj (a2.2.1 + a0.2.2.1.2)) <| (if a2.2.2 = (0 : UInt8) then some ((a0.2.2.2.1, a0.2.2.2.2.1, a2.1), (0 : Int), (0 : UInt8)) else none)))) else none)) else none)) else none))))))
def ant (fu : Nat) (a0 : Str) : Option ((Str × (Str × Str × Str × Int × (List (Str × Str × Bool)) × (List (Str × Str × Bool))) × (List (Str × Str × Bool))) × UInt8) :=
  ((ahe fu a0).bind fun (y4 : Str) => ((ake fu y4).bind fun (y9 : ((Str × (Str × Str × Str × Int × (List (Str × Str × Bool)) × (List (Str × Str × Bool))) × (List (Str × Str × Bool))) × Int × UInt8)) => some (y9.1, y9.2.2)))
def afb (fu : Nat) (s_0 : Str) : Nat → (List UInt8) → Int → Option ((List UInt8) ⊕ (Str × UInt8))
  | 0, _, _ => none
  | a3 + 1, a1, a0 => (if a0 < (s_0.length : Int) then (gd (0 ≤ a0 ∧ a0 < (s_0.length : Int)) <| ((agj fu (at_ s_0 a0)).bind fun (a4 : Bool) => (bif a4 then some (.inr (([] : Str), (5 : UInt8))) else (((((if (at_ s_0 a0) = (34 : UInt8) then some true else some (decide ((at_ s_0 a0) = (92 : UInt8))))).bind fun (a5 : Bool) => (bif a5 then (gd ((a1.length + ([(92 : UInt8)] : List UInt8).length) * 1 ≤ 140737488355328) <| some (a1 ++ ([(92 : UInt8)] : List UInt8))) else some a1))).bind fun (a2 : List UInt8) => (gd (0 ≤ a0 ∧ a0 < (s_0.length : Int)) <| (gd ((a2.length + ([at_ s_0 a0] : List UInt8).length) * 1 ≤ 140737488355328) <| (gd (acj (a0 + (1 : Int))) <| (afb fu s_0 a3 (a2 ++ ([at_ s_0 a0] : List UInt8)) (a0 + (1 : Int)))))))))) else some (.inl a1))
def aky (fu : Nat) (s_0 : Str) : Option (Str × UInt8) :=
  (gd (acj ((s_0.length : Int) + (2 : Int))) <| (gd (0 ≤ ((s_0.length : Int) + (2 : Int)) ∧ (1 : Int) * ((s_0.length : Int) + (2 : Int)) ≤ 281474976710656) <| (gd ((([] : List UInt8).length + ([(34 : UInt8)] : List UInt8).length) * 1 ≤ 140737488355328) <| (((afb fu s_0 fu (([] : List UInt8) ++ ([(34 : UInt8)] : List UInt8)) (0 : Int))).bind fun (a1 : ((List UInt8) ⊕ (Str × UInt8))) => Sum.elim (fun (a0 : List UInt8) => (gd ((a0.length + ([(34 : UInt8)] : List UInt8).length) * 1 ≤ 140737488355328) <| some (a0 ++ ([(34 : UInt8)] : List UInt8), (0 : UInt8)))) (fun q => some q) a1))))
def anb (fu : Nat) (a0 : UInt8) : Option Bool :=
  (((if a0 < (32 : UInt8) then none else some ())).bind fun (v4 : Unit) => some (decide (a0 = (127 : UInt8))))
def ajt (fu : Nat) (s_0 : Str) : Nat → Int → Option Unit
  | 0, _ => none
  | a1 + 1, a0 => (if a0 < (s_0.length : Int) then (gd (0 ≤ a0 ∧ a0 < (s_0.length : Int)) <| ((anb fu (at_ s_0 a0)).bind fun (a2 : Bool) => (bif a2 then none else (gd (acj (a0 + (1 : Int))) <| (ajt fu s_0 a1 (a0 + (1 : Int))))))) else some ())
def aks (fu : Nat) (s_0 : Str) : Option Bool :=
  (((ajt fu s_0 fu (0 : Int))).bind fun (a0 : Unit) => some true)
def aiv (fu : Nat) (a1 : List (Str × Str × Bool)) (a4 : Int) : Nat → (List (Str × Str × Bool)) → Int → Option (List (Str × Str × Bool))
  | 0, _, _ => none
  | a5 + 1, a3, a0 => (if a0 < (a1.length : Int) then (gd (0 ≤ a0 ∧ a0 < (a1.length : Int)) <| (gd (0 ≤ a0 ∧ a0 < (a1.length : Int)) <| ((adp fu ((el a1 a0).1)).bind fun (a2 : Str) => (((if a2 = ([] : Str) then none else ((aks fu a2).bind fun (a6 : Bool) => (bif (!a6) then none else ((aks fu ((el a1 a0).2.1)).bind fun (a7 : Bool) => (bif (!a7) then none else ((aho fu a3 a2).bind fun (a8 : Bool) => some a8))))))).bind fun (a9 : Bool) => (bif a9 then none else (((if a4 = (2 : Int) then none else (if a4 = (1 : Int) then some () else none))).bind fun (b0 : Unit) => (bif (!(((el a1 a0).2.2) == (!decide (((el a1 a0).2.1) = ([] : Str))))) then none else (gd ((a3.length + ([(a2, (el a1 a0).2.1, ((el a1 a0).2.2))] : List (Str × Str × Bool)).length) * 40 ≤ 140737488355328) <| (gd (acj (a0 + (1 : Int))) <| (aiv fu a1 a4 a5 (a3 ++ ([(a2, (el a1 a0).2.1, ((el a1 a0).2.2))] : List (Str × Str × Bool))) (a0 + (1 : Int)))))))))))) else some a3)
def als (fu : Nat) (a0 : List (Str × Str × Bool)) (a1 : Int) : Option ((List (Str × Str × Bool)) × Bool) :=
  (if (16 : Int) < (a0.length : Int) then none else (((aiv fu a0 a1 fu ([] : List (Str × Str × Bool)) (0 : Int))).bind fun (a2 : List (Str × Str × Bool)) => ((ahz fu a2).bind fun (a3 : List (Str × Str × Bool)) => some (a3, true))))
def anu (fu : Nat) (a0 : (Str × Str × Str × Int × (List (Str × Str × Bool)) × (List (Str × Str × Bool)))) : Option ((Str × Str × Str × Int × (List (Str × Str × Bool)) × (List (Str × Str × Bool))) × UInt8) :=
  ((adp fu a0.1).bind fun (y7 : Str) => (if y7 = ([115, 105, 112] : Str) then (if y7 = ([115, 105, 112] : Str) then ((agt fu a0.2.2.1).bind fun (a1 : (Str × Bool)) => (bif a1.2 then (if (0 : Int) ≤ a0.2.2.2.1 then (if a0.2.2.2.1 ≤ (65535 : Int) then ((aks fu a0.2.1).bind fun (a4 : Bool) => ((als fu a0.2.2.2.2.1 (1 : Int)).bind fun (a2 : ((List (Str × Str × Bool)) × Bool)) => ((als fu a0.2.2.2.2.2 (2 : Int)).bind fun (a3 : ((List (Str × Str × Bool)) × Bool)) => (((bif (!a4) then none else (bif (!a2.2) then none else some ()))).bind fun (a5 : Unit) => (bif (!a3.2) then none else some ((y7, a0.2.1, a1.1, a0.2.2.2.1, a2.1, a3.1), (0 : UInt8))))))) else none) else none) else none)) else none) else none))
def abx (fu : Nat) (a1 : (Unit × (List UInt8))) (a0 : Str) : Option (Int × Unit × (Unit × (List UInt8))) :=
  (gd ((a1.2.length + a0.length) * 1 ≤ 140737488355328) <| some ((a0.length : Int), (), ((), a1.2 ++ a0)))
end Go.Wk
set_option linter.unusedVariables false
set_option linter.unusedSimpArgs false
set_option maxRecDepth 20000
set_option maxHeartbeats 1000000
namespace Go.Wk
open Go.Px
def aiw (fu : Nat) (s_0 : Str) (a2 : Int) : Nat → (List UInt8) → Int → Option (List UInt8)
  | 0, _, _ => none
  | a3 + 1, a1, a0 => (if a0 < (s_0.length : Int) then (gd (0 ≤ a0 ∧ a0 < (s_0.length : Int)) <| ((alb fu (at_ s_0 a0) a2).bind fun (a4 : Bool) => (bif a4 then (gd (0 ≤ a0 ∧ a0 < (s_0.length : Int)) <| (gd ((a1.length + ([at_ s_0 a0] : List UInt8).length) * 1 ≤ 140737488355328) <| (gd (acj (a0 + (1 : Int))) <| (aiw fu s_0 a2 a3 (a1 ++ ([at_ s_0 a0] : List UInt8)) (a0 + (1 : Int)))))) else none))) else some a1)
def alt (fu : Nat) (s_0 : Str) (a0 : Int) : Option Str :=
  (gd (0 ≤ (s_0.length : Int) ∧ (1 : Int) * (s_0.length : Int) ≤ 281474976710656) <| (((aiw fu s_0 a0 fu ([] : List UInt8) (0 : Int))).bind fun (a1 : List UInt8) => some a1))
def aju (fu : Nat) (y4 : ((Str × Str × Str × Int × (List (Str × Str × Bool)) × (List (Str × Str × Bool))) × UInt8)) : Nat → Int → (List UInt8) → Option (List UInt8)
  | 0, _, _ => none
  | a3 + 1, a0, a1 => (if a0 < (y4.1.2.2.2.2.1.length : Int) then (gd (0 ≤ a0 ∧ a0 < (y4.1.2.2.2.2.1.length : Int)) <| (gd (0 ≤ a0 ∧ a0 < (y4.1.2.2.2.2.1.length : Int)) <| ((alt fu ((el y4.1.2.2.2.2.1 a0).1) (1 : Int)).bind fun (a2 : Str) => (gd (([59] : Str).length + a2.length ≤ 9223372036854775807) <| ((abx fu ((), a1) (([59] : Str) ++ a2)).bind fun (a4 : (Int × Unit × (Unit × (List UInt8)))) => (bif ((el y4.1.2.2.2.2.1 a0).2.2) then none else (gd (acj (a0 + (1 : Int))) <| (aju fu y4 a3 (a0 + (1 : Int)) a4.2.2.2)))))))) else some a1)
def alw (fu : Nat) (y4 : ((Str × Str × Str × Int × (List (Str × Str × Bool)) × (List (Str × Str × Bool))) × UInt8)) : Nat → Option Unit
  | 0 => none
  | a0 + 1 => (if (0 : Int) < (y4.1.2.2.2.2.2.length : Int) then none else some ())
def aon (fu : Nat) (a3 : (Str × Str × Str × Int × (List (Str × Str × Bool)) × (List (Str × Str × Bool)))) : Option (Str × UInt8) :=
  ((anu fu a3).bind fun (y4 : ((Str × Str × Str × Int × (List (Str × Str × Bool)) × (List (Str × Str × Bool))) × UInt8)) => (if y4.2 = (0 : UInt8) then (gd (y4.1.1.length + ([58] : Str).length ≤ 9223372036854775807) <| ((abx fu ((), ([] : List UInt8)) (y4.1.1 ++ ([58] : Str))).bind fun (a0 : (Int × Unit × (Unit × (List UInt8)))) => (((if y4.1.1 = ([116, 101, 108] : Str) then none else (if y4.1.2.1 = ([] : Str) then some a0.2.2.2 else ((alt fu y4.1.2.1 (0 : Int)).bind fun (a1 : Str) => (gd (a1.length + ([64] : Str).length ≤ 9223372036854775807) <| ((abx fu ((), a0.2.2.2) (a1 ++ ([64] : Str))).bind fun (a4 : (Int × Unit × (Unit × (List UInt8)))) => some a4.2.2.2)))))).bind fun (a5 : List UInt8) => ((abx fu ((), a5) y4.1.2.2.1).bind fun (a6 : (Int × Unit × (Unit × (List UInt8)))) => (if y4.1.2.2.2.1 = (0 : Int) then (((aju fu y4 fu (0 : Int) a6.2.2.2)).bind fun (a2 : List UInt8) => (((alw fu y4 fu)).bind fun (a7 : Unit) => (gd (a2.length ≤ 140737488355328) <| some (a2, (0 : UInt8))))) else none))))) else none))
def ack (fu : Nat) (a1 : List (Str × Str × Bool)) : Nat → Int → (List UInt8) → Option ((List UInt8) ⊕ (Str × UInt8))
  | 0, _, _ => none
  | a2 + 1, a0, a3 => (if a0 < (a1.length : Int) then (gd (0 ≤ a0 ∧ a0 < (a1.length : Int)) <| (gd (0 ≤ a0 ∧ a0 < (a1.length : Int)) <| ((((agf fu ((el a1 a0).1)).bind fun (a8 : Bool) => (bif (!a8) then some true else ((adp fu ((el a1 a0).1)).bind fun (a9 : Str) => (if ((el a1 a0).1) = a9 then (gd (0 ≤ a0 ∧ a0 ≤ (a1.length : Int)) <| ((aho fu (List.take (Int.toNat a0) a1) ((el a1 a0).1)).bind fun (b0 : Bool) => some b0)) else some true))))).bind fun (b1 : Bool) => (bif b1 then some (.inr (([] : Str), (2 : UInt8))) else (gd (([59] : Str).length + ((el a1 a0).1).length ≤ 9223372036854775807) <| ((abx fu ((), a3) (([59] : Str) ++ ((el a1 a0).1))).bind fun (a4 : (Int × Unit × (Unit × (List UInt8)))) => (bif (!((el a1 a0).2.2)) then (if ((el a1 a0).2.1) = ([] : Str) then (gd (acj (a0 + (1 : Int))) <| (ack fu a1 a2 (a0 + (1 : Int)) a4.2.2.2)) else some (.inr (([] : Str), (2 : UInt8)))) else ((((agt fu ((el a1 a0).2.1)).bind fun (a5 : (Str × Bool)) => ((((agf fu ((el a1 a0).2.1)).bind fun (b2 : Bool) => (bif (!b2) then (bif a5.2 then (if a5.1 = ((el a1 a0).2.1) then (gd (0 ≤ (0 : Int) ∧ (0 : Int) < (((el a1 a0).2.1).length : Int)) <| some (!decide ((at_ ((el a1 a0).2.1) (0 : Int)) = (91 : UInt8)))) else some true) else some true) else some false))).bind fun (b3 : Bool) => (bif b3 then ((aky fu ((el a1 a0).2.1)).bind fun (a6 : (Str × UInt8)) => (if a6.2 = (0 : UInt8) then some (.inl a6.1) else some (.inr (([] : Str), (2 : UInt8))))) else some (.inl ((el a1 a0).2.1)))))).bind fun (b4 : (Str ⊕ (Str × UInt8))) => Sum.elim (fun (a7 : Str) => (gd (([61] : Str).length + a7.length ≤ 9223372036854775807) <| ((abx fu ((), a4.2.2.2) (([61] : Str) ++ a7)).bind fun (b5 : (Int × Unit × (Unit × (List UInt8)))) => (gd (acj (a0 + (1 : Int))) <| (ack fu a1 a2 (a0 + (1 : Int)) b5.2.2.2))))) (fun q => some (.inr q)) b4)))))))) else some (.inl a3))
def adq (fu : Nat) (a0 : List (Str × Str × Bool)) : Option (Str × UInt8) :=
  (if (16 : Int) < (a0.length : Int) then some (([] : Str), (2 : UInt8)) else (((ack fu a0 fu (0 : Int) ([] : List UInt8))).bind fun (a2 : ((List UInt8) ⊕ (Str × UInt8))) => Sum.elim (fun (a1 : List UInt8) => (gd (a1.length ≤ 140737488355328) <| some (a1, (0 : UInt8)))) (fun q => some q) a2))
def akd (fu : Nat) (a2 : (Str × (Str × Str × Str × Int × (List (Str × Str × Bool)) × (List (Str × Str × Bool))) × (List (Str × Str × Bool)))) : Option (Str × UInt8) :=
  ((aky fu a2.1).bind fun (y4 : (Str × UInt8)) => (if y4.2 = (0 : UInt8) then ((aon fu a2.2.1).bind fun (a0 : (Str × UInt8)) => (if a0.2 = (0 : UInt8) then ((ahz fu a2.2.2).bind fun (a3 : List (Str × Str × Bool)) => ((adq fu a3).bind fun (a1 : (Str × UInt8)) => (if a1.2 = (0 : UInt8) then (if a2.1 = ([] : Str) then (gd (([60] : Str).length + a0.1.length ≤ 9223372036854775807) <| (gd ((([60] : Str) ++ a0.1).length + ([62] : Str).length ≤ 9223372036854775807) <| (gd (((([60] : Str) ++ a0.1) ++ ([62] : Str)).length + a1.1.length ≤ 9223372036854775807) <| some (((([60] : Str) ++ a0.1) ++ ([62] : Str)) ++ a1.1, (0 : UInt8))))) else (gd (y4.1.length + ([32, 60] : Str).length ≤ 9223372036854775807) <| (gd ((y4.1 ++ ([32, 60] : Str)).length + a0.1.length ≤ 9223372036854775807) <| (gd (((y4.1 ++ ([32, 60] : Str)) ++ a0.1).length + ([62] : Str).length ≤ 9223372036854775807) <| (gd ((((y4.1 ++ ([32, 60] : Str)) ++ a0.1) ++ ([62] : Str)).length + a1.1.length ≤ 9223372036854775807) <| some ((((y4.1 ++ ([32, 60] : Str)) ++ a0.1) ++ ([62] : Str)) ++ a1.1, (0 : UInt8))))))) else none))) else none)) else none))
def aqi (fu : Nat) (a0 : Str) (a1 : Str) : Option (Str × UInt8) :=
  ((aom fu a0).bind fun (a4 : Int) => (if a4 = (1 : Int) then (((if a0 = ([67, 111, 110, 116, 97, 99, 116] : Str) then ((ahe fu a1).bind fun (a5 : Str) => some (decide (a5 = ([42] : Str)))) else none)).bind fun (a6 : Bool) => (bif a6 then none else ((ant fu a1).bind fun (a2 : ((Str × (Str × Str × Str × Int × (List (Str × Str × Bool)) × (List (Str × Str × Bool))) × (List (Str × Str × Bool))) × UInt8)) => (if a2.2 = (0 : UInt8) then ((akd fu a2.1).bind fun (a3 : (Str × UInt8)) => some (a3.1, a3.2)) else none)))) else none))
def akz (fu : Nat) (y1 : (Str × UInt8)) (a2 : ((List Str) × UInt8)) : Nat → (List Str) → Int → Option (List Str)
  | 0, _, _ => none
  | a4 + 1, a1, a0 => (if a0 < (a2.1.length : Int) then (gd (0 ≤ a0 ∧ a0 < (a1.length : Int)) <| (gd (0 ≤ a0 ∧ a0 < (a1.length : Int)) <| ((aqi fu y1.1 (el a1 a0)).bind fun (a3 : (Str × UInt8)) => (gd (0 ≤ a0 ∧ a0 < (a1.length : Int)) <| (gd (0 ≤ a0 ∧ a0 < (a1.length : Int)) <| (if a3.2 = (0 : UInt8) then (gd (acj (a0 + (1 : Int))) <| (akz fu y1 a2 a4 (List.set a1 (Int.toNat a0) a3.1) (a0 + (1 : Int)))) else none)))))) else some a1)
def aqk (fu : Nat) (a2 : Str) (a3 : Str) : Option (Str × UInt8) :=
  ((ank fu a2).bind fun (y1 : (Str × UInt8)) => (if y1.2 = (0 : UInt8) then ((aqj fu y1.1).bind fun (y7 : Bool) => (bif (!y7) then none else ((aql fu a3).bind fun (a0 : ((List Str) × UInt8)) => (if a0.2 = (0 : UInt8) then (((akz fu y1 a0 fu a0.1 (0 : Int))).bind fun (a1 : List Str) => (gd (a1.length ≤ 1000000000 ∧ (Lib.join a1 ([44, 32] : Str)).length ≤ 100000000000) <| some (Lib.join a1 ([44, 32] : Str), (0 : UInt8)))) else none)))) else none))
def aml (fu : Nat) (a0 : UInt8) : Option UInt8 :=
  (((if (97 : UInt8) ≤ a0 then some (decide (a0 ≤ (122 : UInt8))) else some false)).bind fun (v5 : Bool) => (bif v5 then some (a0 - (32 : UInt8)) else some a0))
def ads (fu : Nat) (s_0 : Str) : Nat → Str → Int → Option Str
  | 0, _, _ => none
  | a2 + 1, a1, a0 => (if a0 < (s_0.length : Int) then (gd (0 ≤ a0 ∧ a0 < (a1.length : Int)) <| (gd (0 ≤ a0 ∧ a0 < (a1.length : Int)) <| ((aml fu (at_ a1 a0)).bind fun (a3 : UInt8) => (gd (0 ≤ a0 ∧ a0 < (a1.length : Int)) <| (gd (0 ≤ a0 ∧ a0 < (a1.length : Int)) <| (gd (acj (a0 + (1 : Int))) <| (ads fu s_0 a2 (List.set a1 (Int.toNat a0) a3) (a0 + (1 : Int))))))))) else some a1)
def aek (fu : Nat) (s_0 : Str) : Option Str :=
  (((ads fu s_0 fu s_0 (0 : Int))).bind fun (a0 : Str) => some a0)
end Go.Wk
set_option linter.unusedVariables false
set_option linter.unusedSimpArgs false
set_option maxRecDepth 20000
set_option maxHeartbeats 1000000
namespace Go.Wk
open Go.Px
def ans (fu : Nat) (s_0 : Str) : Option (Str × Str × Bool) :=
  (gd (s_0.length ≤ 1000000000) <| (((if (lixb (· == (58 : UInt8)) s_0) < (0 : Int) then none else (gd (0 ≤ (lixb (· == (58 : UInt8)) s_0) ∧ (lixb (· == (58 : UInt8)) s_0) ≤ (s_0.length : Int)) <| (gd ((List.take (Int.toNat (lixb (· == (58 : UInt8)) s_0)) s_0).length ≤ 1000000000) <| (bif (Lib.contains (List.take (Int.toNat (lixb (· == (58 : UInt8)) s_0)) s_0) ([91] : Str)) then none else some ()))))).bind fun (a0 : Unit) => (gd (0 ≤ (lixb (· == (58 : UInt8)) s_0) ∧ (lixb (· == (58 : UInt8)) s_0) ≤ (s_0.length : Int)) <| (gd (acj ((lixb (· == (58 : UInt8)) s_0) + (1 : Int))) <| (gd (0 ≤ ((lixb (· == (58 : UInt8)) s_0) + (1 : Int)) ∧ ((lixb (· == (58 : UInt8)) s_0) + (1 : Int)) ≤ (s_0.length : Int)) <| some (List.take (Int.toNat (lixb (· == (58 : UInt8)) s_0)) s_0, List.drop (Int.toNat ((lixb (· == (58 : UInt8)) s_0) + (1 : Int))) s_0, true))))))
def akj (fu : Nat) (s_0 : Str) : Nat → Int → Int → Option Int
  | 0, _, _ => none
  | a2 + 1, a1, a0 => (if a0 < (s_0.length : Int) then (((gd (0 ≤ a0 ∧ a0 < (s_0.length : Int)) <| (if (at_ s_0 a0) < (48 : UInt8) then none else (gd (0 ≤ a0 ∧ a0 < (s_0.length : Int)) <| some ())))).bind fun (a3 : Unit) => (if (57 : UInt8) < (at_ s_0 a0) then none else (gd (acj ((10 : Int) * a1)) <| (gd (0 ≤ a0 ∧ a0 < (s_0.length : Int)) <| (gd (acj (((10 : Int) * a1) + (((at_ s_0 a0) - (48 : UInt8)).toNat : Int))) <| (gd (acj (a0 + (1 : Int))) <| (akj fu s_0 a2 (((10 : Int) * a1) + (((at_ s_0 a0) - (48 : UInt8)).toNat : Int)) (a0 + (1 : Int))))))))) else some a1)
def anj (fu : Nat) (s_0 : Str) : Option (Int × UInt8) :=
  (((if (s_0.length : Int) < (1 : Int) then none else some ())).bind fun (v4 : Unit) => (if (10 : Int) < (s_0.length : Int) then none else (((akj fu s_0 fu (0 : Int) (0 : Int))).bind fun (a0 : Int) => (if (2147483647 : Int) < a0 then none else some (a0, (0 : UInt8))))))
def anc (fu : Nat) (a0 : List (Str × Str × Bool)) (y1 : Str) : Nat → Option (Str × Bool)
  | 0 => none
  | a2 + 1 => (if (0 : Int) < (a0.length : Int) then (gd (0 ≤ (0 : Int) ∧ (0 : Int) < (a0.length : Int)) <| (gd (0 ≤ (0 : Int) ∧ (0 : Int) < (a0.length : Int)) <| ((adp fu ((el a0 (0 : Int)).1)).bind fun (a1 : Str) => (if a1 = y1 then some ((el a0 (0 : Int)).2.1, true) else none)))) else none)
def aqn (fu : Nat) (a0 : List (Str × Str × Bool)) (a1 : Str) : Option (Str × Bool) :=
  ((adp fu a1).bind fun (y1 : Str) => (anc fu a0 y1 fu))
def L_header_Via (fu : Nat) (a6 : Str) : Option ((Str × Str × Int × Str × (List (Str × Str × Bool))) × UInt8) :=
  ((ahe fu a6).bind fun (y4 : Str) => (((if (y4.length : Int) < (8 : Int) then none else (gd (0 ≤ (8 : Int) ∧ (8 : Int) ≤ (y4.length : Int)) <| ((aek fu (List.take (Int.toNat (8 : Int)) y4)).bind fun (a7 : Str) => some (!decide (a7 = ([83, 73, 80, 47, 50, 46, 48, 47] : Str))))))).bind fun (a8 : Bool) => (bif a8 then none else ((aex fu y4 (8 : Int)).bind fun (a1 : Int) => ((ahg fu y4 a1).bind fun (a0 : Int) => (((if a1 = (8 : Int) then none else some ())).bind fun (b1 : Unit) => (if a0 = a1 then none else (gd (0 ≤ (8 : Int) ∧ (8 : Int) ≤ a1 ∧ a1 ≤ (y4.length : Int)) <| ((aek fu (sub y4 (8 : Int) a1)).bind fun (a9 : Str) => (gd (0 ≤ a0 ∧ a0 ≤ (y4.length : Int)) <| (gd ((List.drop (Int.toNat a0) y4).length ≤ 1000000000 ∧ ([59, 32, 9] : Str).length ≤ 1000 ∧ ([59, 32, 9] : Str).all (fun b => decide (b.toNat < 128)) = true ∧ (8 < (List.drop (Int.toNat a0) y4).length ∨ ([59, 32, 9] : Str).length ≤ 1 ∨ (List.drop (Int.toNat a0) y4).all (fun b => decide (b.toNat < 128)) = true)) <| (if (0 : Int) ≤ (Lib.indexAny (List.drop (Int.toNat a0) y4) ([59, 32, 9] : Str)) then (gd (0 ≤ (Lib.indexAny (List.drop (Int.toNat a0) y4) ([59, 32, 9] : Str)) ∧ (Lib.indexAny (List.drop (Int.toNat a0) y4) ([59, 32, 9] : Str)) ≤ ((List.drop (Int.toNat a0) y4).length : Int)) <| (gd (0 ≤ (Lib.indexAny (List.drop (Int.toNat a0) y4) ([59, 32, 9] : Str)) ∧ (Lib.indexAny (List.drop (Int.toNat a0) y4) ([59, 32, 9] : Str)) ≤ ((List.drop (Int.toNat a0) y4).length : Int)) <| ((ans fu (List.take (Int.toNat (Lib.indexAny (List.drop (Int.toNat a0) y4) ([59, 32, 9] : Str))) (List.drop (Int.toNat a0) y4))).bind fun (a3 : (Str × Str × Bool)) => ((agt fu a3.1).bind fun (a5 : (Str × Bool)) => (bif (!a5.2) then none else (bif a3.2.2 then ((anj fu a3.2.1).bind fun (a2 : (Int × UInt8)) => (((if a2.2 = (0 : UInt8) then (if a2.1 < (1 : Int) then none else some ()) else none)).bind fun (b2 : Unit) => (if (65535 : Int) < a2.1 then none else (if a2.2 = (0 : UInt8) then ((agn fu (List.drop (Int.toNat (Lib.indexAny (List.drop (Int.toNat a0) y4) ([59, 32, 9] : Str))) (List.drop (Int.toNat a0) y4))).bind fun (a4 : ((List (Str × Str × Bool)) × Int × UInt8)) => (if a4.2.2 = (0 : UInt8) then ((aqn fu a4.1 ([98, 114, 97, 110, 99, 104] : Str)).bind fun (b0 : (Str × Bool)) => some ((a9, a5.1, a2.1, b0.1, a4.1), (0 : UInt8))) else none)) else none)))) else none)))))) else none))))))))))))
def amz (fu : Nat) (s_0 : Str) : Option (Int × Str × UInt8) :=
  (gd (s_0.length ≤ 1000000000 ∧ ([32, 9] : Str).length ≤ 1000 ∧ ([32, 9] : Str).all (fun b => decide (b.toNat < 128)) = true ∧ (8 < s_0.length ∨ ([32, 9] : Str).length ≤ 1 ∨ s_0.all (fun b => decide (b.toNat < 128)) = true)) <| (if (Lib.indexAny s_0 ([32, 9] : Str)) < (0 : Int) then none else (gd (0 ≤ (Lib.indexAny s_0 ([32, 9] : Str)) ∧ (Lib.indexAny s_0 ([32, 9] : Str)) ≤ (s_0.length : Int)) <| ((anj fu (List.take (Int.toNat (Lib.indexAny s_0 ([32, 9] : Str))) s_0)).bind fun (y8 : (Int × UInt8)) => ((ahg fu s_0 (Lib.indexAny s_0 ([32, 9] : Str))).bind fun (a0 : Int) => (gd (0 ≤ a0 ∧ a0 ≤ (s_0.length : Int)) <| some (y8.1, List.drop (Int.toNat a0) s_0, y8.2)))))))
def aqm (fu : Nat) (a0 : Str) : Option (Int × Str × UInt8) :=
  ((ahe fu a0).bind fun (y1 : Str) => ((amz fu y1).bind fun (y6 : (Int × Str × UInt8)) => (if y6.2.2 = (0 : UInt8) then ((agf fu y6.2.1).bind fun (a1 : Bool) => (bif (!a1) then none else some (y6.1, y6.2.1, (0 : UInt8)))) else none)))
def amk (fu : Nat) : Option Bool :=
  ((ank fu ([67, 65, 76, 76, 45, 105, 100] : Str)).bind fun (y1 : (Str × UInt8)) => ((aqk fu ([109] : Str) ([66, 111, 98, 60, 115, 105, 112, 58, 97, 64, 66, 62, 32, 44, 32, 60, 115, 105, 112, 58, 99, 59, 100, 62] : Str)).bind fun (y6 : (Str × UInt8)) => ((L_header_Via fu ([115, 105, 112, 47, 50, 46, 48, 47, 117, 100, 112, 32, 104, 58, 53, 48, 54, 48, 59, 98, 114, 97, 110, 99, 104, 61, 122, 57] : Str)).bind fun (a0 : ((Str × Str × Int × Str × (List (Str × Str × Bool))) × UInt8)) => ((aqm fu ([48, 48, 55, 32, 73, 78, 86, 73, 84, 69] : Str)).bind fun (a1 : (Int × Str × UInt8)) => (((if y1.2 = (0 : UInt8) then (if y1.1 = ([67, 97, 108, 108, 45, 73, 68] : Str) then (if y6.2 = (0 : UInt8) then (if y6.1 = ([34, 66, 111, 98, 34, 32, 60, 115, 105, 112, 58, 97, 64, 98, 62, 44, 32, 60, 115, 105, 112, 58, 99, 59, 100, 62] : Str) then (if a0.2 = (0 : UInt8) then (if a0.1.1 = ([85, 68, 80] : Str) then (if a0.1.2.1 = ([104] : Str) then (if a0.1.2.2.1 = (5060 : Int) then (if a0.1.2.2.2.1 = ([122, 57] : Str) then (if a1.1 = (7 : Int) then (if a1.2.1 = ([73, 78, 86, 73, 84, 69] : Str) then some () else none) else none) else none) else none) else none) else none) else none) else none) else none) else none) else none)).bind fun (a2 : Unit) => some (decide (a1.2.2 = (0 : UInt8))))))))
def amm (fu : Nat) (a3 : Str) : Option ((Str × (List (Str × Str × Bool))) × UInt8) :=
  ((ahe fu a3).bind fun (y4 : Str) => ((aex fu y4 (0 : Int)).bind fun (y9 : Int) => (if y9 = (0 : Int) then some ((([] : Str), ([] : List (Str × Str × Bool))), (5 : UInt8)) else (((((if y9 < (y4.length : Int) then (gd (0 ≤ y9 ∧ y9 < (y4.length : Int)) <| some (decide ((at_ y4 y9) = (47 : UInt8)))) else some false)).bind fun (a4 : Bool) => (bif a4 then (gd (acj (y9 + (1 : Int))) <| ((aex fu y4 (y9 + (1 : Int))).bind fun (a2 : Int) => (gd (acj (y9 + (1 : Int))) <| (if a2 = (y9 + (1 : Int)) then some (.inr ((([] : Str), ([] : List (Str × Str × Bool))), (5 : UInt8))) else some (.inl a2))))) else some (.inl y9)))).bind fun (a5 : (Int ⊕ ((Str × (List (Str × Str × Bool))) × UInt8))) => Sum.elim (fun (a0 : Int) => (gd (0 ≤ a0 ∧ a0 ≤ (y4.length : Int)) <| ((agn fu (List.drop (Int.toNat a0) y4)).bind fun (a1 : ((List (Str × Str × Bool)) × Int × UInt8)) => (if a1.2.2 = (0 : UInt8) then (gd (0 ≤ a0 ∧ a0 ≤ (y4.length : Int)) <| some ((List.take (Int.toNat a0) y4, a1.1), (0 : UInt8))) else some ((([] : Str), ([] : List (Str × Str × Bool))), a1.2.2))))) (fun q => some q) a5))))
end Go.Wk
set_option linter.unusedVariables false
set_option linter.unusedSimpArgs false
set_option maxRecDepth 20000
set_option maxHeartbeats 1000000
namespace Go.Wk
open Go.Px
def akx (fu : Nat) (a0 : UInt8) : Option Bool :=
  (((if a0 = (32 : UInt8) then some true else some (decide (a0 = (9 : UInt8))))).bind fun (v5 : Bool) => some v5)
def afk (fu : Nat) (s_0 : Str) : Nat → Int → Option Int
  | 0, _ => none
  | a1 + 1, a0 => (((if a0 < (s_0.length : Int) then (gd (0 ≤ a0 ∧ a0 < (s_0.length : Int)) <| ((akx fu (at_ s_0 a0)).bind fun (a2 : Bool) => some a2)) else some false)).bind fun (a3 : Bool) => (bif a3 then (gd (acj (a0 + (1 : Int))) <| (afk fu s_0 a1 (a0 + (1 : Int)))) else some a0))
def agb (fu : Nat) (s_0 : Str) (a0 : Int) : Option Int :=
  (((afk fu s_0 fu (min (max a0 (0 : Int)) (s_0.length : Int)))).bind fun (a1 : Int) => some a1)
def aha (fu : Nat) (s_0 : Str) (y1 : Int) : Nat → Int → Option Int
  | 0, _ => none
  | a1 + 1, a0 => (((if (0 : Int) < a0 then (gd (acj (a0 - (1 : Int))) <| (gd (0 ≤ (a0 - (1 : Int)) ∧ (a0 - (1 : Int)) < ((List.drop (Int.toNat y1) s_0).length : Int)) <| ((akx fu (at_ (List.drop (Int.toNat y1) s_0) (a0 - (1 : Int)))).bind fun (a2 : Bool) => some a2))) else some false)).bind fun (a3 : Bool) => (bif a3 then (gd (acj (a0 - (1 : Int))) <| (aha fu s_0 y1 a1 (a0 - (1 : Int)))) else some a0))
def anq (fu : Nat) (s_0 : Str) : Option Str :=
  ((agb fu s_0 (0 : Int)).bind fun (y1 : Int) => (gd (0 ≤ y1 ∧ y1 ≤ (s_0.length : Int)) <| (((aha fu s_0 y1 fu ((List.drop (Int.toNat y1) s_0).length : Int))).bind fun (a0 : Int) => (gd (0 ≤ a0 ∧ a0 ≤ ((List.drop (Int.toNat y1) s_0).length : Int)) <| some (List.take (Int.toNat a0) (List.drop (Int.toNat y1) s_0))))))
def aig (fu : Nat) (a1 : UInt8) : Nat → Int → Option (Unit ⊕ Bool)
  | 0, _ => none
  | a2 + 1, a0 => (if a0 < (([45, 46, 33, 37, 42, 95, 43, 39, 126] : Str).length : Int) then (gd (0 ≤ a0 ∧ a0 < (([45, 46, 33, 37, 42, 95, 43, 39, 126] : Str).length : Int)) <| (if (at_ ([45, 46, 33, 37, 42, 95, 43, 39, 126] : Str) a0) = a1 then some (.inr true) else (gd (acj (a0 + (1 : Int))) <| (aig fu a1 a2 (a0 + (1 : Int)))))) else some (.inl ()))
def ajf (fu : Nat) (a0 : UInt8) : Option Bool :=
  (((if (65 : UInt8) ≤ a0 then (if a0 ≤ (90 : UInt8) then some true else (if (97 : UInt8) ≤ a0 then (if a0 ≤ (122 : UInt8) then some true else (if (48 : UInt8) ≤ a0 then some (decide (a0 ≤ (57 : UInt8))) else some false)) else (if (48 : UInt8) ≤ a0 then some (decide (a0 ≤ (57 : UInt8))) else some false))) else (if (97 : UInt8) ≤ a0 then (if a0 ≤ (122 : UInt8) then some true else (if (48 : UInt8) ≤ a0 then some (decide (a0 ≤ (57 : UInt8))) else some false)) else (if (48 : UInt8) ≤ a0 then some (decide (a0 ≤ (57 : UInt8))) else some false)))).bind fun (a1 : Bool) => (bif a1 then some true else (((aig fu a0 fu (0 : Int))).bind fun (a2 : (Unit ⊕ Bool)) => Sum.elim (fun (a3 : Unit) => some (decide (a0 = (96 : UInt8)))) (fun q => some q) a2)))
def aff (fu : Nat) (s_0 : Str) : Nat → Int → Option Int
  | 0, _ => none
  | a1 + 1, a0 => (((if a0 < (s_0.length : Int) then (gd (0 ≤ a0 ∧ a0 < (s_0.length : Int)) <| ((ajf fu (at_ s_0 a0)).bind fun (a2 : Bool) => some a2)) else some false)).bind fun (a3 : Bool) => (bif a3 then (gd (acj (a0 + (1 : Int))) <| (aff fu s_0 a1 (a0 + (1 : Int)))) else some a0))
def afq (fu : Nat) (s_0 : Str) (a0 : Int) : Option Int :=
  (((aff fu s_0 fu (min (max a0 (0 : Int)) (s_0.length : Int)))).bind fun (a1 : Int) => some a1)
def ajd (fu : Nat) (s_0 : Str) : Option Int :=
  ((afq fu s_0 (0 : Int)).bind fun (y1 : Int) => (((if y1 = (0 : Int) then some true else (if y1 = (s_0.length : Int) then some true else (gd (0 ≤ y1 ∧ y1 < (s_0.length : Int)) <| some (!decide ((at_ s_0 y1) = (47 : UInt8))))))).bind fun (a1 : Bool) => (bif a1 then some y1 else (gd (acj (y1 + (1 : Int))) <| ((afq fu s_0 (y1 + (1 : Int))).bind fun (a0 : Int) => (gd (acj (y1 + (1 : Int))) <| (if a0 = (y1 + (1 : Int)) then some (0 : Int) else some a0)))))))
def afv (fu : Nat) (s_0 : Str) : Nat → Str → Int → Option Str
  | 0, _, _ => none
  | a2 + 1, a1, a0 => (if a0 < (s_0.length : Int) then (((gd (0 ≤ a0 ∧ a0 < (a1.length : Int)) <| (gd (0 ≤ a0 ∧ a0 < (a1.length : Int)) <| (if (65 : UInt8) ≤ (at_ a1 a0) then (gd (0 ≤ a0 ∧ a0 < (a1.length : Int)) <| (gd (0 ≤ a0 ∧ a0 < (a1.length : Int)) <| some (decide ((at_ a1 a0) ≤ (90 : UInt8))))) else some false)))).bind fun (a3 : Bool) => (bif a3 then (gd (0 ≤ a0 ∧ a0 < (a1.length : Int)) <| (gd (0 ≤ a0 ∧ a0 < (a1.length : Int)) <| (gd (0 ≤ a0 ∧ a0 < (a1.length : Int)) <| (gd (0 ≤ a0 ∧ a0 < (a1.length : Int)) <| (gd (acj (a0 + (1 : Int))) <| (afv fu s_0 a2 (List.set a1 (Int.toNat a0) ((at_ a1 a0) + (32 : UInt8))) (a0 + (1 : Int)))))))) else (gd (acj (a0 + (1 : Int))) <| (afv fu s_0 a2 a1 (a0 + (1 : Int)))))) else some a1)
def age (fu : Nat) (s_0 : Str) : Option Str :=
  (((afv fu s_0 fu s_0 (0 : Int))).bind fun (a0 : Str) => some a0)
def aod (fu : Nat) (s_0 : Str) (a0 : Int) (a1 : UInt8) : Option (Int × UInt8) :=
  (((if a0 < (0 : Int) then some true else some (decide ((s_0.length : Int) < a0)))).bind fun (v5 : Bool) => (bif v5 then some ((0 : Int), (2 : UInt8)) else (((if a0 = (s_0.length : Int) then some true else (gd (0 ≤ a0 ∧ a0 < (s_0.length : Int)) <| some (!decide ((at_ s_0 a0) = a1))))).bind fun (a2 : Bool) => (bif a2 then some (a0, (5 : UInt8)) else some ((0 : Int), (0 : UInt8))))))
end Go.Wk
set_option linter.unusedVariables false
set_option linter.unusedSimpArgs false
set_option maxRecDepth 20000
set_option maxHeartbeats 1000000
namespace Go.Wk
open Go.Px
def ahn (fu : Nat) (a0 : UInt8) : Option Bool :=
  (((if a0 < (32 : UInt8) then (if a0 = (9 : UInt8) then some (decide (a0 = (127 : UInt8))) else some true) else some (decide (a0 = (127 : UInt8))))).bind fun (v6 : Bool) => some v6)
def anp (fu : Nat) (s_0 : Str) (a0 : Int) : Option (Int × Int × UInt8) :=
  (if (s_0.length : Int) ≤ a0 then some ((0 : Int), (s_0.length : Int), (6 : UInt8)) else (gd (0 ≤ a0 ∧ a0 < (s_0.length : Int)) <| ((ahn fu (at_ s_0 a0)).bind fun (y3 : Bool) => (bif y3 then some ((0 : Int), a0, (5 : UInt8)) else (gd (0 ≤ a0 ∧ a0 < (s_0.length : Int)) <| (if (at_ s_0 a0) = (92 : UInt8) then (gd (acj (a0 + (1 : Int))) <| (if (s_0.length : Int) ≤ (a0 + (1 : Int)) then some ((0 : Int), (s_0.length : Int), (6 : UInt8)) else (((gd (acj (a0 + (1 : Int))) <| (gd (0 ≤ (a0 + (1 : Int)) ∧ (a0 + (1 : Int)) < (s_0.length : Int)) <| (if (at_ s_0 (a0 + (1 : Int))) < (32 : UInt8) then some true else (gd (acj (a0 + (1 : Int))) <| (gd (0 ≤ (a0 + (1 : Int)) ∧ (a0 + (1 : Int)) < (s_0.length : Int)) <| some (decide ((126 : UInt8) < (at_ s_0 (a0 + (1 : Int))))))))))).bind fun (a1 : Bool) => (bif a1 then some ((0 : Int), a0, (5 : UInt8)) else some ((2 : Int), (0 : Int), (0 : UInt8)))))) else some ((1 : Int), (0 : Int), (0 : UInt8))))))))
def acu (fu : Nat) (s_0 : Str) : Nat → (List UInt8) → Int → Option (Str × Int × UInt8)
  | 0, _, _ => none
  | a3 + 1, a2, a0 => ((anp fu s_0 a0).bind fun (a1 : (Int × Int × UInt8)) => (if a1.2.2 = (0 : UInt8) then (((if a1.1 = (1 : Int) then (gd (0 ≤ a0 ∧ a0 < (s_0.length : Int)) <| some (decide ((at_ s_0 a0) = (34 : UInt8)))) else some false)).bind fun (a4 : Bool) => (bif a4 then (gd (acj (a0 + (1 : Int))) <| some (a2, a0 + (1 : Int), (0 : UInt8))) else (gd (acj (a0 + a1.1)) <| (gd (acj ((a0 + a1.1) - (1 : Int))) <| (gd (0 ≤ ((a0 + a1.1) - (1 : Int)) ∧ ((a0 + a1.1) - (1 : Int)) < (s_0.length : Int)) <| (gd ((a2.length + ([at_ s_0 ((a0 + a1.1) - (1 : Int))] : List UInt8).length) * 1 ≤ 140737488355328) <| (gd (acj (a0 + a1.1)) <| (acu fu s_0 a3 (a2 ++ ([at_ s_0 ((a0 + a1.1) - (1 : Int))] : List UInt8)) (a0 + a1.1))))))))) else some (([] : Str), a1.2.1, a1.2.2)))
def akp (fu : Nat) (s_0 : Str) (a0 : Int) : Option (Str × Int × UInt8) :=
  ((aod fu s_0 a0 (34 : UInt8)).bind fun (y1 : (Int × UInt8)) => (if y1.2 = (0 : UInt8) then (gd (acj (a0 + (1 : Int))) <| (acu fu s_0 fu ([] : List UInt8) (a0 + (1 : Int)))) else some (([] : Str), y1.1, y1.2)))
def aer (fu : Nat) (s_0 : Str) (a3 : UInt8) : Nat → (List Str) → Int → Int → Option ((List Str) × Int)
  | 0, _, _, _ => none
  | a4 + 1, a2, a1, a0 => (if a0 < (s_0.length : Int) then (gd (0 ≤ a0 ∧ a0 < (s_0.length : Int)) <| (if (at_ s_0 a0) = a3 then (gd (0 ≤ a1 ∧ a1 ≤ a0 ∧ a0 ≤ (s_0.length : Int)) <| (gd ((a2.length + ([sub s_0 a1 a0] : List Str).length) * 16 ≤ 140737488355328) <| (gd (acj (a0 + (1 : Int))) <| (gd (acj (a0 + (1 : Int))) <| (aer fu s_0 a3 a4 (a2 ++ ([sub s_0 a1 a0] : List Str)) (a0 + (1 : Int)) (a0 + (1 : Int))))))) else (gd (acj (a0 + (1 : Int))) <| (aer fu s_0 a3 a4 a2 a1 (a0 + (1 : Int)))))) else some (a2, a1))
def ajz (fu : Nat) (s_0 : Str) (a1 : UInt8) : Option (List Str) :=
  (((aer fu s_0 a1 fu ([] : List Str) (0 : Int) (0 : Int))).bind fun (a0 : ((List Str) × Int)) => (gd (0 ≤ a0.2 ∧ a0.2 ≤ (s_0.length : Int)) <| (gd ((a0.1.length + ([List.drop (Int.toNat a0.2) s_0] : List Str).length) * 16 ≤ 140737488355328) <| some (a0.1 ++ ([List.drop (Int.toNat a0.2) s_0] : List Str)))))
def ahd (fu : Nat) (a0 : UInt8) : Option Bool :=
  (((if (48 : UInt8) ≤ a0 then some (decide (a0 ≤ (57 : UInt8))) else some false)).bind fun (v5 : Bool) => some v5)
def aol (fu : Nat) (a0 : UInt8) : Option Int :=
  ((ahd fu a0).bind fun (y1 : Bool) => (bif y1 then some ((a0 - (48 : UInt8)).toNat : Int) else (((if (65 : UInt8) ≤ a0 then some (decide (a0 ≤ (70 : UInt8))) else some false)).bind fun (a1 : Bool) => (bif a1 then (gd (acj (((a0 - (65 : UInt8)).toNat : Int) + (10 : Int))) <| some (((a0 - (65 : UInt8)).toNat : Int) + (10 : Int))) else (((if (97 : UInt8) ≤ a0 then some (decide (a0 ≤ (102 : UInt8))) else some false)).bind fun (a2 : Bool) => (bif a2 then (gd (acj (((a0 - (97 : UInt8)).toNat : Int) + (10 : Int))) <| some (((a0 - (97 : UInt8)).toNat : Int) + (10 : Int))) else some (-1 : Int)))))))
def afu (fu : Nat) (s_0 : Str) : Nat → Int → Option (Unit ⊕ (Str × Bool))
  | 0, _ => none
  | a1 + 1, a0 => (if a0 < (s_0.length : Int) then (gd (0 ≤ a0 ∧ a0 < (s_0.length : Int)) <| ((aol fu (at_ s_0 a0)).bind fun (a2 : Int) => (if a2 < (0 : Int) then some (.inr (([] : Str), false)) else (gd (acj (a0 + (1 : Int))) <| (afu fu s_0 a1 (a0 + (1 : Int))))))) else some (.inl ()))
def agr (fu : Nat) : Nat → Str → Option Str
  | 0, _ => none
  | a1 + 1, a0 => (((if (1 : Int) < (a0.length : Int) then (gd (0 ≤ (0 : Int) ∧ (0 : Int) < (a0.length : Int)) <| some (decide ((at_ a0 (0 : Int)) = (48 : UInt8)))) else some false)).bind fun (a2 : Bool) => (bif a2 then (gd (0 ≤ (1 : Int) ∧ (1 : Int) ≤ (a0.length : Int)) <| (agr fu a1 (List.drop (Int.toNat (1 : Int)) a0))) else some a0))
def ami (fu : Nat) (s_0 : Str) : Option (Str × Bool) :=
  (((if (s_0.length : Int) < (1 : Int) then some true else some (decide ((4 : Int) < (s_0.length : Int))))).bind fun (v5 : Bool) => (bif v5 then some (([] : Str), false) else (((afu fu s_0 fu (0 : Int))).bind fun (a0 : (Unit ⊕ (Str × Bool))) => Sum.elim (fun (a3 : Unit) => (((agr fu fu s_0)).bind fun (a1 : Str) => ((age fu a1).bind fun (a2 : Str) => some (a2, true)))) (fun q => some q) a0)))
def afh (fu : Nat) (y2 : List Str) : Nat → Str → Int → Option (Str ⊕ (Str × Int × Bool))
  | 0, _, _ => none
  | a4 + 1, a1, a0 => (if a0 < (y2.length : Int) then (gd (0 ≤ a0 ∧ a0 < (y2.length : Int)) <| (gd (0 ≤ a0 ∧ a0 < (y2.length : Int)) <| ((ami fu (el y2 a0)).bind fun (a2 : (Str × Bool)) => (bif (!a2.2) then some (.inr (([] : Str), (0 : Int), false)) else (((if (0 : Int) < a0 then (gd (a1.length + ([58] : Str).length ≤ 9223372036854775807) <| some (a1 ++ ([58] : Str))) else some a1)).bind fun (a3 : Str) => (gd (a3.length + a2.1.length ≤ 9223372036854775807) <| (gd (acj (a0 + (1 : Int))) <| (afh fu y2 a4 (a3 ++ a2.1) (a0 + (1 : Int)))))))))) else some (.inl a1))
def aip (fu : Nat) (s_0 : Str) : Option (Str × Int × Bool) :=
  (if s_0 = ([] : Str) then some (([] : Str), (0 : Int), true) else ((ajz fu s_0 (58 : UInt8)).bind fun (y2 : List Str) => (((afh fu y2 fu ([] : Str) (0 : Int))).bind fun (a0 : (Str ⊕ (Str × Int × Bool))) => Sum.elim (fun (a1 : Str) => some (a1, (y2.length : Int), true)) (fun q => some q) a0)))
end Go.Wk
set_option linter.unusedVariables false
set_option linter.unusedSimpArgs false
set_option maxRecDepth 20000
set_option maxHeartbeats 1000000
namespace Go.Wk
open Go.Px
def agc (fu : Nat) (s_0 : Str) : Nat → Int → Option (Unit ⊕ (Str × Bool))
  | 0, _ => none
  | a3 + 1, a0 => (gd (acj (a0 + (1 : Int))) <| (if (a0 + (1 : Int)) < (s_0.length : Int) then (((gd (0 ≤ a0 ∧ a0 < (s_0.length : Int)) <| (if (at_ s_0 a0) = (58 : UInt8) then (gd (acj (a0 + (1 : Int))) <| (gd (0 ≤ (a0 + (1 : Int)) ∧ (a0 + (1 : Int)) < (s_0.length : Int)) <| some (!decide ((at_ s_0 (a0 + (1 : Int))) = (58 : UInt8))))) else some true))).bind fun (a4 : Bool) => (bif a4 then (gd (acj (a0 + (1 : Int))) <| (agc fu s_0 a3 (a0 + (1 : Int)))) else (gd (0 ≤ a0 ∧ a0 ≤ (s_0.length : Int)) <| ((aip fu (List.take (Int.toNat a0) s_0)).bind fun (a1 : (Str × Int × Bool)) => (gd (acj (a0 + (2 : Int))) <| (gd (0 ≤ (a0 + (2 : Int)) ∧ (a0 + (2 : Int)) ≤ (s_0.length : Int)) <| ((aip fu (List.drop (Int.toNat (a0 + (2 : Int))) s_0)).bind fun (a2 : (Str × Int × Bool)) => (((bif (!a1.2.2) then some true else (bif (!a2.2.2) then some true else (gd (acj (a1.2.1 + a2.2.1)) <| some (decide ((7 : Int) < (a1.2.1 + a2.2.1))))))).bind fun (a5 : Bool) => (bif a5 then some (.inr (([] : Str), false)) else (gd (a1.1.length + ([58, 58] : Str).length ≤ 9223372036854775807) <| (gd ((a1.1 ++ ([58, 58] : Str)).length + a2.1.length ≤ 9223372036854775807) <| some (.inr ((a1.1 ++ ([58, 58] : Str)) ++ a2.1, true))))))))))))) else some (.inl ())))
def aok (fu : Nat) (s_0 : Str) : Option (Str × Bool) :=
  (((agc fu s_0 fu (0 : Int))).bind fun (a1 : (Unit ⊕ (Str × Bool))) => Sum.elim (fun (a3 : Unit) => ((aip fu s_0).bind fun (a0 : (Str × Int × Bool)) => (((bif a0.2.2 then some (decide (a0.2.1 = (8 : Int))) else some false)).bind fun (a2 : Bool) => some (a0.1, a2)))) (fun q => some q) a1)
def aln (fu : Nat) (a0 : UInt8) : Option Bool :=
  (((if (65 : UInt8) ≤ a0 then (if a0 ≤ (90 : UInt8) then some true else (if (97 : UInt8) ≤ a0 then some (decide (a0 ≤ (122 : UInt8))) else some false)) else (if (97 : UInt8) ≤ a0 then some (decide (a0 ≤ (122 : UInt8))) else some false))).bind fun (v8 : Bool) => some v8)
def adn (fu : Nat) (s_0 : Str) : Nat → Bool → Int → Option (Bool ⊕ (Bool × Bool))
  | 0, _, _ => none
  | a1 + 1, a2, a0 => (if a0 < (s_0.length : Int) then (((gd (0 ≤ a0 ∧ a0 < (s_0.length : Int)) <| ((aln fu (at_ s_0 a0)).bind fun (a3 : Bool) => (bif (!a3) then (gd (0 ≤ a0 ∧ a0 < (s_0.length : Int)) <| ((ahd fu (at_ s_0 a0)).bind fun (a4 : Bool) => (bif (!a4) then (gd (0 ≤ a0 ∧ a0 < (s_0.length : Int)) <| some (!decide ((at_ s_0 a0) = (45 : UInt8)))) else some false))) else some false)))).bind fun (a5 : Bool) => (bif a5 then some (.inr (false, false)) else (bif a2 then (gd (acj (a0 + (1 : Int))) <| (adn fu s_0 a1 true (a0 + (1 : Int)))) else (gd (0 ≤ a0 ∧ a0 < (s_0.length : Int)) <| ((ahd fu (at_ s_0 a0)).bind fun (a6 : Bool) => (gd (acj (a0 + (1 : Int))) <| (adn fu s_0 a1 (!a6) (a0 + (1 : Int))))))))) else some (.inl a2))
def amh (fu : Nat) (s_0 : Str) : Option (Bool × Bool) :=
  (((if (s_0.length : Int) < (1 : Int) then some true else (if (63 : Int) < (s_0.length : Int) then some true else (gd (0 ≤ (0 : Int) ∧ (0 : Int) < (s_0.length : Int)) <| (if (at_ s_0 (0 : Int)) = (45 : UInt8) then some true else (gd (acj ((s_0.length : Int) - (1 : Int))) <| (gd (0 ≤ ((s_0.length : Int) - (1 : Int)) ∧ ((s_0.length : Int) - (1 : Int)) < (s_0.length : Int)) <| some (decide ((at_ s_0 ((s_0.length : Int) - (1 : Int))) = (45 : UInt8)))))))))).bind fun (a0 : Bool) => (bif a0 then some (false, false) else (((adn fu s_0 fu false (0 : Int))).bind fun (a1 : (Bool ⊕ (Bool × Bool))) => Sum.elim (fun (a2 : Bool) => some (true, a2)) (fun q => some q) a1)))
def aes (fu : Nat) (s_0 : Str) : Nat → Int → Int → Option (Int ⊕ Bool)
  | 0, _, _ => none
  | a2 + 1, a1, a0 => (if a0 < (s_0.length : Int) then (gd (0 ≤ a0 ∧ a0 < (s_0.length : Int)) <| ((ahd fu (at_ s_0 a0)).bind fun (a3 : Bool) => (bif (!a3) then some (.inr false) else (gd (acj ((10 : Int) * a1)) <| (gd (0 ≤ a0 ∧ a0 < (s_0.length : Int)) <| (gd (acj (((10 : Int) * a1) + (((at_ s_0 a0) - (48 : UInt8)).toNat : Int))) <| (gd (acj (a0 + (1 : Int))) <| (aes fu s_0 a2 (((10 : Int) * a1) + (((at_ s_0 a0) - (48 : UInt8)).toNat : Int)) (a0 + (1 : Int)))))))))) else some (.inl a1))
def alm (fu : Nat) (s_0 : Str) : Option Bool :=
  (((if (s_0.length : Int) < (1 : Int) then some true else (if (3 : Int) < (s_0.length : Int) then some true else (if (1 : Int) < (s_0.length : Int) then (gd (0 ≤ (0 : Int) ∧ (0 : Int) < (s_0.length : Int)) <| some (decide ((at_ s_0 (0 : Int)) = (48 : UInt8)))) else some false)))).bind fun (v8 : Bool) => (bif v8 then some false else (((aes fu s_0 fu (0 : Int) (0 : Int))).bind fun (a0 : (Int ⊕ Bool)) => Sum.elim (fun (a1 : Int) => some (decide (a1 ≤ (255 : Int)))) (fun q => some q) a0)))
def afp (fu : Nat) (a1 : List Str) : Nat → Bool → Bool → Int → Option ((Bool × Bool) ⊕ (Str × Bool))
  | 0, _, _, _ => none
  | a2 + 1, a3, a4, a0 => (if a0 < (a1.length : Int) then (gd (0 ≤ a0 ∧ a0 < (a1.length : Int)) <| (gd (0 ≤ a0 ∧ a0 < (a1.length : Int)) <| ((amh fu (el a1 a0)).bind fun (a5 : (Bool × Bool)) => (bif (!a5.1) then some (.inr (([] : Str), false)) else (((bif a4 then some true else some a5.2)).bind fun (a6 : Bool) => (bif a3 then (gd (0 ≤ a0 ∧ a0 < (a1.length : Int)) <| (gd (0 ≤ a0 ∧ a0 < (a1.length : Int)) <| ((alm fu (el a1 a0)).bind fun (a7 : Bool) => (gd (acj (a0 + (1 : Int))) <| (afp fu a1 a2 a7 a6 (a0 + (1 : Int))))))) else (gd (acj (a0 + (1 : Int))) <| (afp fu a1 a2 false a6 (a0 + (1 : Int)))))))))) else some (.inl (a3, a4)))
def alz (fu : Nat) (s_0 : Str) : Option (Str × Bool) :=
  (((if (2 : Int) ≤ (s_0.length : Int) then (gd (0 ≤ (0 : Int) ∧ (0 : Int) < (s_0.length : Int)) <| (if (at_ s_0 (0 : Int)) = (91 : UInt8) then (gd (acj ((s_0.length : Int) - (1 : Int))) <| (gd (0 ≤ ((s_0.length : Int) - (1 : Int)) ∧ ((s_0.length : Int) - (1 : Int)) < (s_0.length : Int)) <| some (decide ((at_ s_0 ((s_0.length : Int) - (1 : Int))) = (93 : UInt8))))) else some false)) else some false)).bind fun (v9 : Bool) => (bif v9 then (gd (acj ((s_0.length : Int) - (1 : Int))) <| (gd (0 ≤ (1 : Int) ∧ (1 : Int) ≤ ((s_0.length : Int) - (1 : Int)) ∧ ((s_0.length : Int) - (1 : Int)) ≤ (s_0.length : Int)) <| ((aok fu (sub s_0 (1 : Int) ((s_0.length : Int) - (1 : Int)))).bind fun (a0 : (Str × Bool)) => (bif (!a0.2) then some (([] : Str), false) else (gd (([91] : Str).length + a0.1.length ≤ 9223372036854775807) <| (gd ((([91] : Str) ++ a0.1).length + ([93] : Str).length ≤ 9223372036854775807) <| some ((([91] : Str) ++ a0.1) ++ ([93] : Str), true))))))) else ((ajz fu s_0 (46 : UInt8)).bind fun (a1 : List Str) => (((afp fu a1 fu (decide ((a1.length : Int) = (4 : Int))) false (0 : Int))).bind fun (a3 : ((Bool × Bool) ⊕ (Str × Bool))) => Sum.elim (fun (a2 : (Bool × Bool)) => (((if (255 : Int) < (s_0.length : Int) then some true else (bif (!a2.2) then some (!a2.1) else some false))).bind fun (a4 : Bool) => (bif a4 then some (([] : Str), false) else ((age fu s_0).bind fun (a5 : Str) => some (a5, true))))) (fun q => some q) a3))))
def aez (fu : Nat) (s_0 : Str) : Nat → Int → Option Int
  | 0, _ => none
  | a1 + 1, a0 => (((if a0 < (s_0.length : Int) then (gd (0 ≤ a0 ∧ a0 < (s_0.length : Int)) <| some (!decide ((at_ s_0 a0) = (93 : UInt8)))) else some false)).bind fun (a2 : Bool) => (bif a2 then (gd (acj (a0 + (1 : Int))) <| (aez fu s_0 a1 (a0 + (1 : Int)))) else some a0))
def amg (fu : Nat) (s_0 : Str) (a0 : Int) : Option (Str × Int × UInt8) :=
  (((if a0 < (s_0.length : Int) then (gd (0 ≤ a0 ∧ a0 < (s_0.length : Int)) <| some (decide ((at_ s_0 a0) = (34 : UInt8)))) else some false)).bind fun (v6 : Bool) => (bif v6 then ((akp fu s_0 a0).bind fun (a3 : (Str × Int × UInt8)) => some (a3.1, a3.2.1, a3.2.2)) else (((((if a0 < (s_0.length : Int) then (gd (0 ≤ a0 ∧ a0 < (s_0.length : Int)) <| some (decide ((at_ s_0 a0) = (91 : UInt8)))) else some false)).bind fun (a5 : Bool) => (bif a5 then (((aez fu s_0 fu a0)).bind fun (a1 : Int) => (gd (acj (a1 + (1 : Int))) <| (gd (0 ≤ a0 ∧ a0 ≤ (min (a1 + (1 : Int)) (s_0.length : Int)) ∧ (min (a1 + (1 : Int)) (s_0.length : Int)) ≤ (s_0.length : Int)) <| ((alz fu (sub s_0 a0 (min (a1 + (1 : Int)) (s_0.length : Int)))).bind fun (a4 : (Str × Bool)) => (bif (!a4.2) then some (.inr (([] : Str), a0, (5 : UInt8))) else (gd (acj (a1 + (1 : Int))) <| some (.inr (a4.1, a1 + (1 : Int), (0 : UInt8))))))))) else some (.inl ())))).bind fun (a6 : (Unit ⊕ (Str × Int × UInt8))) => Sum.elim (fun (a7 : Unit) => ((afq fu s_0 a0).bind fun (a2 : Int) => (if a2 = a0 then some (([] : Str), a0, (5 : UInt8)) else (gd (0 ≤ a0 ∧ a0 ≤ a2 ∧ a2 ≤ (s_0.length : Int)) <| some (sub s_0 a0 a2, a2, (0 : UInt8)))))) (fun q => some q) a6)))
def agm (fu : Nat) (a1 : List (Str × Str × Bool)) (a2 : Str) : Nat → Int → Option (Unit ⊕ Int)
  | 0, _ => none
  | a3 + 1, a0 => (if a0 < (a1.length : Int) then (gd (0 ≤ a0 ∧ a0 < (a1.length : Int)) <| (gd (0 ≤ a0 ∧ a0 < (a1.length : Int)) <| ((age fu ((el a1 a0).1)).bind fun (a4 : Str) => ((age fu a2).bind fun (a5 : Str) => (if a4 = a5 then some (.inr a0) else (gd (acj (a0 + (1 : Int))) <| (agm fu a1 a2 a3 (a0 + (1 : Int))))))))) else some (.inl ()))
def ano (fu : Nat) (a0 : List (Str × Str × Bool)) (a1 : Str) : Option Int :=
  (((agm fu a0 a1 fu (0 : Int))).bind fun (a2 : (Unit ⊕ Int)) => Sum.elim (fun (a3 : Unit) => some (-1 : Int)) (fun q => some q) a2)
def ahf (fu : Nat) (a0 : List (Str × Str × Bool)) (a1 : Str) : Option UInt8 :=
  ((ano fu a0 a1).bind fun (y1 : Int) => (if (0 : Int) ≤ y1 then some (7 : UInt8) else (if (16 : Int) ≤ (a0.length : Int) then some (4 : UInt8) else some (0 : UInt8))))
end Go.Wk
set_option linter.unusedVariables false
set_option linter.unusedSimpArgs false
set_option maxRecDepth 20000
set_option maxHeartbeats 1000000
namespace Go.Wk
open Go.Px
def afj (fu : Nat) (s_0 : Str) : Nat → (List (Str × Str × Bool)) → Int → Option ((List (Str × Str × Bool)) ⊕ ((List (Str × Str × Bool)) × Int × UInt8))
  | 0, _, _ => none
  | a9 + 1, a6, a0 => (if a0 < (s_0.length : Int) then (gd (0 ≤ a0 ∧ a0 < (s_0.length : Int)) <| (if (at_ s_0 a0) = (59 : UInt8) then (gd (acj (a0 + (1 : Int))) <| ((agb fu s_0 (a0 + (1 : Int))).bind fun (a1 : Int) => ((afq fu s_0 a1).bind fun (a3 : Int) => (if a3 = a1 then some (.inr (([] : List (Str × Str × Bool)), a1, (5 : UInt8))) else (gd (0 ≤ a1 ∧ a1 ≤ a3 ∧ a3 ≤ (s_0.length : Int)) <| ((age fu (sub s_0 a1 a3)).bind fun (a7 : Str) => ((agb fu s_0 a3).bind fun (a2 : Int) => (((((if a2 < (s_0.length : Int) then (gd (0 ≤ a2 ∧ a2 < (s_0.length : Int)) <| some (decide ((at_ s_0 a2) = (61 : UInt8)))) else some false)).bind fun (b0 : Bool) => (bif b0 then (gd (acj (a2 + (1 : Int))) <| ((agb fu s_0 (a2 + (1 : Int))).bind fun (b1 : Int) => ((amg fu s_0 b1).bind fun (a4 : (Str × Int × UInt8)) => (if a4.2.2 = (0 : UInt8) then ((agb fu s_0 a4.2.1).bind fun (b2 : Int) => some (.inl (b2, a4.1, true))) else some (.inr (([] : List (Str × Str × Bool)), a4.2.1, a4.2.2)))))) else some (.inl (a2, ([] : Str), false))))).bind fun (b3 : ((Int × Str × Bool) ⊕ ((List (Str × Str × Bool)) × Int × UInt8))) => Sum.elim (fun (a5 : (Int × Str × Bool)) => ((ahf fu a6 a7).bind fun (a8 : UInt8) => (if a8 = (0 : UInt8) then (gd ((a6.length + ([(a7, a5.2.1, a5.2.2)] : List (Str × Str × Bool)).length) * 40 ≤ 140737488355328) <| (afj fu s_0 a9 (a6 ++ ([(a7, a5.2.1, a5.2.2)] : List (Str × Str × Bool))) a5.1)) else some (.inr (([] : List (Str × Str × Bool)), a1, a8))))) (fun q => some (.inr q)) b3)))))))) else some (.inr (([] : List (Str × Str × Bool)), a0, (5 : UInt8))))) else some (.inl a6))
def alp (fu : Nat) (s_0 : Str) : Option ((List (Str × Str × Bool)) × Int × UInt8) :=
  ((agb fu s_0 (0 : Int)).bind fun (y1 : Int) => (((afj fu s_0 fu ([] : List (Str × Str × Bool)) y1)).bind fun (a0 : ((List (Str × Str × Bool)) ⊕ ((List (Str × Str × Bool)) × Int × UInt8))) => Sum.elim (fun (a1 : List (Str × Str × Bool)) => some (a1, (0 : Int), (0 : UInt8))) (fun q => some q) a0))
def ann (fu : Nat) (a1 : Str) : Option ((Str × (List (Str × Str × Bool))) × UInt8) :=
  ((anq fu a1).bind fun (y4 : Str) => ((ajd fu y4).bind fun (y9 : Int) => (if y9 = (0 : Int) then some ((([] : Str), ([] : List (Str × Str × Bool))), (5 : UInt8)) else (gd (0 ≤ y9 ∧ y9 ≤ (y4.length : Int)) <| ((alp fu (List.drop (Int.toNat y9) y4)).bind fun (a0 : ((List (Str × Str × Bool)) × Int × UInt8)) => (if a0.2.2 = (0 : UInt8) then (gd (0 ≤ y9 ∧ y9 ≤ (y4.length : Int)) <| some ((List.take (Int.toNat y9) y4, a0.1), (0 : UInt8))) else some ((([] : Str), ([] : List (Str × Str × Bool))), a0.2.2)))))))
def agv (fu : Nat) (s_0 : List (Str × Str × Bool)) : Option (List (Str × Str × Bool)) :=
  some s_0
def acw (fu : Nat) (a0 : (Str × Str × Bool)) (a1 : List (Str × Str × Bool)) : Option (Nat × (List (Str × Str × Bool))) :=
  (gd ((a1.length + ([a0] : List (Str × Str × Bool)).length) * 40 ≤ 140737488355328) <| some (0, a1 ++ ([a0] : List (Str × Str × Bool))))
def aag (fu : Nat) (a1 : List (Str × Str × Bool)) : Nat → Int → (List (Str × Str × Bool)) → Option ((List (Str × Str × Bool)) × Nat)
  | 0, _, _ => none
  | a4 + 1, a0, a3 => (if a0 < (a1.length : Int) then (gd (0 ≤ a0 ∧ a0 < (a1.length : Int)) <| (gd (0 ≤ a0 ∧ a0 < (a1.length : Int)) <| ((acw fu ((el a1 a0).1, (el a1 a0).2.1, ((el a1 a0).2.2)) a3).bind fun (a2 : (Nat × (List (Str × Str × Bool)))) => (if a2.1 = 0 then (gd (acj (a0 + (1 : Int))) <| (aag fu a1 a4 (a0 + (1 : Int)) a2.2)) else some (a2.2, a2.1))))) else some (a3, 0))
def abg (fu : Nat) (a0 : List (Str × Str × Bool)) (a1 : List (Str × Str × Bool)) : Option ((List (Str × Str × Bool)) × Nat) :=
  (aag fu a1 fu (0 : Int) a0)
def aec (fu : Nat) (s_0 : List (Str × Str × Bool)) (a1 : List (Str × Str × Bool)) : Option (List (Str × Str × Bool)) :=
  ((abg fu s_0 a1).bind fun (a0 : ((List (Str × Str × Bool)) × Nat)) => (if a0.2 = 0 then some a0.1 else none))
def adj (fu : Nat) (a0 : List (Str × Str × Bool)) : Option (List (Str × Str × Bool)) :=
  ((aec fu ([] : List (Str × Str × Bool)) a0).bind fun (y1 : List (Str × Str × Bool)) => some y1)
def afw (fu : Nat) (a0 : (Str × Str × Bool)) (a1 : (Str × Str × Bool)) : Option Int :=
  ((ahc fu a0.1 a1.1).bind fun (y7 : Int) => some y7)
end Go.Wk
set_option linter.unusedVariables false
set_option linter.unusedSimpArgs false
set_option maxRecDepth 20000
set_option maxHeartbeats 1000000
namespace Go.Wk
open Go.Px
def aaf (fu : Nat) (a2 : Int) : Nat → (List (Str × Str × Bool)) → Int → Option (List (Str × Str × Bool))
  | 0, _, _ => none
  | a3 + 1, a1, a0 => (((if a2 < a0 then (gd (0 ≤ a0 ∧ a0 < (a1.length : Int)) <| (gd (0 ≤ a0 ∧ a0 < (a1.length : Int)) <| (gd (acj (a0 - (1 : Int))) <| (gd (0 ≤ (a0 - (1 : Int)) ∧ (a0 - (1 : Int)) < (a1.length : Int)) <| (gd (0 ≤ (a0 - (1 : Int)) ∧ (a0 - (1 : Int)) < (a1.length : Int)) <| ((afw fu ((el a1 a0).1, (el a1 a0).2.1, ((el a1 a0).2.2)) ((el a1 (a0 - (1 : Int))).1, (el a1 (a0 - (1 : Int))).2.1, ((el a1 (a0 - (1 : Int))).2.2))).bind fun (a4 : Int) => some (decide (a4 < (0 : Int))))))))) else some false)).bind fun (a5 : Bool) => (bif a5 then (gd (acj (a0 - (1 : Int))) <| (gd (acj (a0 - (1 : Int))) <| (gd (0 ≤ (a0 - (1 : Int)) ∧ (a0 - (1 : Int)) < (a1.length : Int)) <| (gd (0 ≤ (a0 - (1 : Int)) ∧ (a0 - (1 : Int)) < (a1.length : Int)) <| (gd (0 ≤ a0 ∧ a0 < (a1.length : Int)) <| (gd (0 ≤ a0 ∧ a0 < (a1.length : Int)) <| (gd (0 ≤ a0 ∧ a0 < (a1.length : Int)) <| (gd (0 ≤ a0 ∧ a0 < (a1.length : Int)) <| (gd (0 ≤ (a0 - (1 : Int)) ∧ (a0 - (1 : Int)) < ((List.set a1 (Int.toNat a0) ((el a1 (a0 - (1 : Int))).1, (el a1 (a0 - (1 : Int))).2.1, ((el a1 (a0 - (1 : Int))).2.2))).length : Int)) <| (gd (0 ≤ (a0 - (1 : Int)) ∧ (a0 - (1 : Int)) < ((List.set a1 (Int.toNat a0) ((el a1 (a0 - (1 : Int))).1, (el a1 (a0 - (1 : Int))).2.1, ((el a1 (a0 - (1 : Int))).2.2))).length : Int)) <| (gd (acj (a0 - (1 : Int))) <| (aaf fu a2 a3 (List.set (List.set a1 (Int.toNat a0) ((el a1 (a0 - (1 : Int))).1, (el a1 (a0 - (1 : Int))).2.1, ((el a1 (a0 - (1 : Int))).2.2))) (Int.toNat (a0 - (1 : Int))) ((el a1 a0).1, (el a1 a0).2.1, ((el a1 a0).2.2))) (a0 - (1 : Int)))))))))))))) else some a1))
def aad (fu : Nat) (a1 : Int) (a2 : Int) : Nat → (List (Str × Str × Bool)) → Int → Option (List (Str × Str × Bool))
  | 0, _, _ => none
  | a4 + 1, a3, a0 => (if a0 < a2 then (((aaf fu a1 fu a3 a0)).bind fun (a5 : List (Str × Str × Bool)) => (gd (acj (a0 + (1 : Int))) <| (aad fu a1 a2 a4 a5 (a0 + (1 : Int))))) else some a3)
def aal (fu : Nat) (a1 : List (Str × Str × Bool)) (a0 : Int) (a2 : Int) : Option (List (Str × Str × Bool)) :=
  (gd (acj (a0 + (1 : Int))) <| (aad fu a0 a2 fu a1 (a0 + (1 : Int))))
def aau (fu : Nat) (a3 : Int) (a2 : Int) (a4 : Int) : Nat → (List (Str × Str × Bool)) → Int → Option (List (Str × Str × Bool))
  | 0, _, _ => none
  | a5 + 1, a1, a0 => (if a0 < a4 then (gd (acj (a3 + a0)) <| (gd (acj (a2 + a0)) <| (gd (acj (a2 + a0)) <| (gd (0 ≤ (a2 + a0) ∧ (a2 + a0) < (a1.length : Int)) <| (gd (0 ≤ (a2 + a0) ∧ (a2 + a0) < (a1.length : Int)) <| (gd (acj (a3 + a0)) <| (gd (0 ≤ (a3 + a0) ∧ (a3 + a0) < (a1.length : Int)) <| (gd (0 ≤ (a3 + a0) ∧ (a3 + a0) < (a1.length : Int)) <| (gd (0 ≤ (a3 + a0) ∧ (a3 + a0) < (a1.length : Int)) <| (gd (0 ≤ (a3 + a0) ∧ (a3 + a0) < (a1.length : Int)) <| (gd (0 ≤ (a2 + a0) ∧ (a2 + a0) < ((List.set a1 (Int.toNat (a3 + a0)) ((el a1 (a2 + a0)).1, (el a1 (a2 + a0)).2.1, ((el a1 (a2 + a0)).2.2))).length : Int)) <| (gd (0 ≤ (a2 + a0) ∧ (a2 + a0) < ((List.set a1 (Int.toNat (a3 + a0)) ((el a1 (a2 + a0)).1, (el a1 (a2 + a0)).2.1, ((el a1 (a2 + a0)).2.2))).length : Int)) <| (gd (acj (a0 + (1 : Int))) <| (aau fu a3 a2 a4 a5 (List.set (List.set a1 (Int.toNat (a3 + a0)) ((el a1 (a2 + a0)).1, (el a1 (a2 + a0)).2.1, ((el a1 (a2 + a0)).2.2))) (Int.toNat (a2 + a0)) ((el a1 (a3 + a0)).1, (el a1 (a3 + a0)).2.1, ((el a1 (a3 + a0)).2.2))) (a0 + (1 : Int)))))))))))))))) else some a1)
def aba (fu : Nat) (a0 : List (Str × Str × Bool)) (a1 : Int) (a2 : Int) (a3 : Int) : Option (List (Str × Str × Bool)) :=
  (aau fu a1 a2 a3 fu a0 (0 : Int))
def aaz (fu : Nat) (a2 : Int) : Nat → (List (Str × Str × Bool)) → Int → Int → Option ((List (Str × Str × Bool)) × Int)
  | 0, _, _, _ => none
  | a4 + 1, a3, a0, a1 => (if a0 = a1 then some (a3, a0) else (if a1 < a0 then (gd (acj (a2 - a0)) <| ((aba fu a3 (a2 - a0) a2 a1).bind fun (a5 : List (Str × Str × Bool)) => (gd (acj (a0 - a1)) <| (aaz fu a2 a4 a5 (a0 - a1) a1)))) else (gd (acj (a2 - a0)) <| (gd (acj (a2 + a1)) <| (gd (acj ((a2 + a1) - a0)) <| ((aba fu a3 (a2 - a0) ((a2 + a1) - a0) a0).bind fun (a6 : List (Str × Str × Bool)) => (gd (acj (a1 - a0)) <| (aaz fu a2 a4 a6 a0 (a1 - a0)))))))))
def abn (fu : Nat) (a4 : List (Str × Str × Bool)) (a2 : Int) (a0 : Int) (a3 : Int) : Option (List (Str × Str × Bool)) :=
  (gd (acj (a0 - a2)) <| (gd (acj (a3 - a0)) <| (((aaz fu a0 fu a4 (a0 - a2) (a3 - a0))).bind fun (a1 : ((List (Str × Str × Bool)) × Int)) => (gd (acj (a0 - a1.2)) <| ((aba fu a1.1 (a0 - a1.2) a0 a1.2).bind fun (a5 : List (Str × Str × Bool)) => some a5)))))
def aap (fu : Nat) (a2 : List (Str × Str × Bool)) (a3 : Int) : Nat → Int → Int → Option Int
  | 0, _, _ => none
  | a4 + 1, a0, a1 => (if a0 < a1 then (gd (acj (a0 + a1)) <| (gd (0 ≤ (IntKind.wrap .i64 ((IntKind.wrap .u64 (a0 + a1)) / 2)) ∧ (IntKind.wrap .i64 ((IntKind.wrap .u64 (a0 + a1)) / 2)) < (a2.length : Int)) <| (gd (0 ≤ (IntKind.wrap .i64 ((IntKind.wrap .u64 (a0 + a1)) / 2)) ∧ (IntKind.wrap .i64 ((IntKind.wrap .u64 (a0 + a1)) / 2)) < (a2.length : Int)) <| (gd (0 ≤ a3 ∧ a3 < (a2.length : Int)) <| (gd (0 ≤ a3 ∧ a3 < (a2.length : Int)) <| ((afw fu ((el a2 (IntKind.wrap .i64 ((IntKind.wrap .u64 (a0 + a1)) / 2))).1, (el a2 (IntKind.wrap .i64 ((IntKind.wrap .u64 (a0 + a1)) / 2))).2.1, ((el a2 (IntKind.wrap .i64 ((IntKind.wrap .u64 (a0 + a1)) / 2))).2.2)) ((el a2 a3).1, (el a2 a3).2.1, ((el a2 a3).2.2))).bind fun (a5 : Int) => (if a5 < (0 : Int) then (gd (acj ((IntKind.wrap .i64 ((IntKind.wrap .u64 (a0 + a1)) / 2)) + (1 : Int))) <| (aap fu a2 a3 a4 ((IntKind.wrap .i64 ((IntKind.wrap .u64 (a0 + a1)) / 2)) + (1 : Int)) a1)) else (aap fu a2 a3 a4 a0 (IntKind.wrap .i64 ((IntKind.wrap .u64 (a0 + a1)) / 2)))))))))) else some a0)
def aaw (fu : Nat) (a2 : Int) : Nat → (List (Str × Str × Bool)) → Int → Option (List (Str × Str × Bool))
  | 0, _, _ => none
  | a3 + 1, a1, a0 => (gd (acj (a2 - (1 : Int))) <| (if a0 < (a2 - (1 : Int)) then (gd (acj (a0 + (1 : Int))) <| (gd (acj (a0 + (1 : Int))) <| (gd (0 ≤ (a0 + (1 : Int)) ∧ (a0 + (1 : Int)) < (a1.length : Int)) <| (gd (0 ≤ (a0 + (1 : Int)) ∧ (a0 + (1 : Int)) < (a1.length : Int)) <| (gd (0 ≤ a0 ∧ a0 < (a1.length : Int)) <| (gd (0 ≤ a0 ∧ a0 < (a1.length : Int)) <| (gd (0 ≤ a0 ∧ a0 < (a1.length : Int)) <| (gd (0 ≤ a0 ∧ a0 < (a1.length : Int)) <| (gd (0 ≤ (a0 + (1 : Int)) ∧ (a0 + (1 : Int)) < ((List.set a1 (Int.toNat a0) ((el a1 (a0 + (1 : Int))).1, (el a1 (a0 + (1 : Int))).2.1, ((el a1 (a0 + (1 : Int))).2.2))).length : Int)) <| (gd (0 ≤ (a0 + (1 : Int)) ∧ (a0 + (1 : Int)) < ((List.set a1 (Int.toNat a0) ((el a1 (a0 + (1 : Int))).1, (el a1 (a0 + (1 : Int))).2.1, ((el a1 (a0 + (1 : Int))).2.2))).length : Int)) <| (gd (acj (a0 + (1 : Int))) <| (aaw fu a2 a3 (List.set (List.set a1 (Int.toNat a0) ((el a1 (a0 + (1 : Int))).1, (el a1 (a0 + (1 : Int))).2.1, ((el a1 (a0 + (1 : Int))).2.2))) (Int.toNat (a0 + (1 : Int))) ((el a1 a0).1, (el a1 a0).2.1, ((el a1 a0).2.2))) (a0 + (1 : Int)))))))))))))) else some a1))
def aao (fu : Nat) (a2 : List (Str × Str × Bool)) (a3 : Int) : Nat → Int → Int → Option Int
  | 0, _, _ => none
  | a4 + 1, a0, a1 => (if a0 < a1 then (gd (acj (a0 + a1)) <| (gd (0 ≤ a3 ∧ a3 < (a2.length : Int)) <| (gd (0 ≤ a3 ∧ a3 < (a2.length : Int)) <| (gd (0 ≤ (IntKind.wrap .i64 ((IntKind.wrap .u64 (a0 + a1)) / 2)) ∧ (IntKind.wrap .i64 ((IntKind.wrap .u64 (a0 + a1)) / 2)) < (a2.length : Int)) <| (gd (0 ≤ (IntKind.wrap .i64 ((IntKind.wrap .u64 (a0 + a1)) / 2)) ∧ (IntKind.wrap .i64 ((IntKind.wrap .u64 (a0 + a1)) / 2)) < (a2.length : Int)) <| ((afw fu ((el a2 a3).1, (el a2 a3).2.1, ((el a2 a3).2.2)) ((el a2 (IntKind.wrap .i64 ((IntKind.wrap .u64 (a0 + a1)) / 2))).1, (el a2 (IntKind.wrap .i64 ((IntKind.wrap .u64 (a0 + a1)) / 2))).2.1, ((el a2 (IntKind.wrap .i64 ((IntKind.wrap .u64 (a0 + a1)) / 2))).2.2))).bind fun (a5 : Int) => (if a5 < (0 : Int) then (aao fu a2 a3 a4 a0 (IntKind.wrap .i64 ((IntKind.wrap .u64 (a0 + a1)) / 2))) else (gd (acj ((IntKind.wrap .i64 ((IntKind.wrap .u64 (a0 + a1)) / 2)) + (1 : Int))) <| (aao fu a2 a3 a4 ((IntKind.wrap .i64 ((IntKind.wrap .u64 (a0 + a1)) / 2)) + (1 : Int)) a1))))))))) else some a0)
def aav (fu : Nat) (a2 : Int) : Nat → (List (Str × Str × Bool)) → Int → Option (List (Str × Str × Bool))
  | 0, _, _ => none
  | a3 + 1, a1, a0 => (if a2 < a0 then (gd (acj (a0 - (1 : Int))) <| (gd (acj (a0 - (1 : Int))) <| (gd (0 ≤ (a0 - (1 : Int)) ∧ (a0 - (1 : Int)) < (a1.length : Int)) <| (gd (0 ≤ (a0 - (1 : Int)) ∧ (a0 - (1 : Int)) < (a1.length : Int)) <| (gd (0 ≤ a0 ∧ a0 < (a1.length : Int)) <| (gd (0 ≤ a0 ∧ a0 < (a1.length : Int)) <| (gd (0 ≤ a0 ∧ a0 < (a1.length : Int)) <| (gd (0 ≤ a0 ∧ a0 < (a1.length : Int)) <| (gd (0 ≤ (a0 - (1 : Int)) ∧ (a0 - (1 : Int)) < ((List.set a1 (Int.toNat a0) ((el a1 (a0 - (1 : Int))).1, (el a1 (a0 - (1 : Int))).2.1, ((el a1 (a0 - (1 : Int))).2.2))).length : Int)) <| (gd (0 ≤ (a0 - (1 : Int)) ∧ (a0 - (1 : Int)) < ((List.set a1 (Int.toNat a0) ((el a1 (a0 - (1 : Int))).1, (el a1 (a0 - (1 : Int))).2.1, ((el a1 (a0 - (1 : Int))).2.2))).length : Int)) <| (gd (acj (a0 - (1 : Int))) <| (aav fu a2 a3 (List.set (List.set a1 (Int.toNat a0) ((el a1 (a0 - (1 : Int))).1, (el a1 (a0 - (1 : Int))).2.1, ((el a1 (a0 - (1 : Int))).2.2))) (Int.toNat (a0 - (1 : Int))) ((el a1 a0).1, (el a1 a0).2.1, ((el a1 a0).2.2))) (a0 - (1 : Int)))))))))))))) else some a1)
def aan (fu : Nat) (a2 : List (Str × Str × Bool)) (a3 : Int) (a4 : Int) (a5 : Int) : Nat → Int → Int → Option Int
  | 0, _, _ => none
  | a6 + 1, a0, a1 => (if a0 < a1 then (gd (acj (a0 + a1)) <| (gd (acj ((((IntKind.wrap .i64 ((IntKind.wrap .u64 (a3 + a5)) / 2)) + a4) - (1 : Int)) - (IntKind.wrap .i64 ((IntKind.wrap .u64 (a0 + a1)) / 2)))) <| (gd (0 ≤ ((((IntKind.wrap .i64 ((IntKind.wrap .u64 (a3 + a5)) / 2)) + a4) - (1 : Int)) - (IntKind.wrap .i64 ((IntKind.wrap .u64 (a0 + a1)) / 2))) ∧ ((((IntKind.wrap .i64 ((IntKind.wrap .u64 (a3 + a5)) / 2)) + a4) - (1 : Int)) - (IntKind.wrap .i64 ((IntKind.wrap .u64 (a0 + a1)) / 2))) < (a2.length : Int)) <| (gd (0 ≤ ((((IntKind.wrap .i64 ((IntKind.wrap .u64 (a3 + a5)) / 2)) + a4) - (1 : Int)) - (IntKind.wrap .i64 ((IntKind.wrap .u64 (a0 + a1)) / 2))) ∧ ((((IntKind.wrap .i64 ((IntKind.wrap .u64 (a3 + a5)) / 2)) + a4) - (1 : Int)) - (IntKind.wrap .i64 ((IntKind.wrap .u64 (a0 + a1)) / 2))) < (a2.length : Int)) <| (gd (0 ≤ (IntKind.wrap .i64 ((IntKind.wrap .u64 (a0 + a1)) / 2)) ∧ (IntKind.wrap .i64 ((IntKind.wrap .u64 (a0 + a1)) / 2)) < (a2.length : Int)) <| (gd (0 ≤ (IntKind.wrap .i64 ((IntKind.wrap .u64 (a0 + a1)) / 2)) ∧ (IntKind.wrap .i64 ((IntKind.wrap .u64 (a0 + a1)) / 2)) < (a2.length : Int)) <| ((afw fu ((el a2 ((((IntKind.wrap .i64 ((IntKind.wrap .u64 (a3 + a5)) / 2)) + a4) - (1 : Int)) - (IntKind.wrap .i64 ((IntKind.wrap .u64 (a0 + a1)) / 2)))).1, (el a2 ((((IntKind.wrap .i64 ((IntKind.wrap .u64 (a3 + a5)) / 2)) + a4) - (1 : Int)) - (IntKind.wrap .i64 ((IntKind.wrap .u64 (a0 + a1)) / 2)))).2.1, ((el a2 ((((IntKind.wrap .i64 ((IntKind.wrap .u64 (a3 + a5)) / 2)) + a4) - (1 : Int)) - (IntKind.wrap .i64 ((IntKind.wrap .u64 (a0 + a1)) / 2)))).2.2)) ((el a2 (IntKind.wrap .i64 ((IntKind.wrap .u64 (a0 + a1)) / 2))).1, (el a2 (IntKind.wrap .i64 ((IntKind.wrap .u64 (a0 + a1)) / 2))).2.1, ((el a2 (IntKind.wrap .i64 ((IntKind.wrap .u64 (a0 + a1)) / 2))).2.2))).bind fun (a7 : Int) => (if a7 < (0 : Int) then (aan fu a2 a3 a4 a5 a6 a0 (IntKind.wrap .i64 ((IntKind.wrap .u64 (a0 + a1)) / 2))) else (gd (acj ((IntKind.wrap .i64 ((IntKind.wrap .u64 (a0 + a1)) / 2)) + (1 : Int))) <| (aan fu a2 a3 a4 a5 a6 ((IntKind.wrap .i64 ((IntKind.wrap .u64 (a0 + a1)) / 2)) + (1 : Int)) a1)))))))))) else some a0)
def aam : Nat → (List (Str × Str × Bool)) → Int → Int → Int → Option (List (Str × Str × Bool))
  | 0, _, _, _, _ => none
  | fu + 1, a4, a0, a2, a1 => (((gd (acj (a2 - a0)) <| (if (a2 - a0) = (1 : Int) then (((aap fu a4 a0 fu a2 a1)).bind fun (a8 : Int) => (((aaw fu a8 fu a4 a0)).bind fun (a9 : List (Str × Str × Bool)) => some (.inr a9))) else some (.inl ())))).bind fun (b0 : (Unit ⊕ (List (Str × Str × Bool)))) => Sum.elim (fun (c0 : Unit) => (((gd (acj (a1 - a2)) <| (if (a1 - a2) = (1 : Int) then (((aao fu a4 a2 fu a0 a2)).bind fun (b1 : Int) => (((aav fu b1 fu a4 a2)).bind fun (b2 : List (Str × Str × Bool)) => some (.inr b2))) else some (.inl ())))).bind fun (b3 : (Unit ⊕ (List (Str × Str × Bool)))) => Sum.elim (fun (c1 : Unit) => (gd (acj (a0 + a1)) <| (gd (acj ((IntKind.wrap .i64 ((IntKind.wrap .u64 (a0 + a1)) / 2)) + a2)) <| (((if (IntKind.wrap .i64 ((IntKind.wrap .u64 (a0 + a1)) / 2)) < a2 then (gd (acj (((IntKind.wrap .i64 ((IntKind.wrap .u64 (a0 + a1)) / 2)) + a2) - a1)) <| some (((IntKind.wrap .i64 ((IntKind.wrap .u64 (a0 + a1)) / 2)) + a2) - a1, IntKind.wrap .i64 ((IntKind.wrap .u64 (a0 + a1)) / 2))) else some (a0, a2))).bind fun (a5 : (Int × Int)) => (gd (acj (((IntKind.wrap .i64 ((IntKind.wrap .u64 (a0 + a1)) / 2)) + a2) - (1 : Int))) <| (((aan fu a4 a0 a2 a1 fu a5.1 a5.2)).bind fun (a3 : Int) => (gd (acj (((IntKind.wrap .i64 ((IntKind.wrap .u64 (a0 + a1)) / 2)) + a2) - a3)) <| (((((if a3 < a2 then some (decide (a2 < (((IntKind.wrap .i64 ((IntKind.wrap .u64 (a0 + a1)) / 2)) + a2) - a3))) else some false)).bind fun (b4 : Bool) => (bif b4 then ((abn fu a4 a3 a2 (((IntKind.wrap .i64 ((IntKind.wrap .u64 (a0 + a1)) / 2)) + a2) - a3)).bind fun (b5 : List (Str × Str × Bool)) => some b5) else some a4))).bind fun (a6 : List (Str × Str × Bool)) => (((((if a0 < a3 then some (decide (a3 < (IntKind.wrap .i64 ((IntKind.wrap .u64 (a0 + a1)) / 2)))) else some false)).bind fun (b6 : Bool) => (bif b6 then ((aam fu a6 a0 a3 (IntKind.wrap .i64 ((IntKind.wrap .u64 (a0 + a1)) / 2))).bind fun (b7 : List (Str × Str × Bool)) => some b7) else some a6))).bind fun (a7 : List (Str × Str × Bool)) => (((if (IntKind.wrap .i64 ((IntKind.wrap .u64 (a0 + a1)) / 2)) < (((IntKind.wrap .i64 ((IntKind.wrap .u64 (a0 + a1)) / 2)) + a2) - a3) then some (decide ((((IntKind.wrap .i64 ((IntKind.wrap .u64 (a0 + a1)) / 2)) + a2) - a3) < a1)) else some false)).bind fun (b8 : Bool) => (bif b8 then ((aam fu a7 (IntKind.wrap .i64 ((IntKind.wrap .u64 (a0 + a1)) / 2)) (((IntKind.wrap .i64 ((IntKind.wrap .u64 (a0 + a1)) / 2)) + a2) - a3) a1).bind fun (b9 : List (Str × Str × Bool)) => some b9) else some a7))))))))))) (fun q => some q) b3)) (fun q => some q) b0)
def aai (fu : Nat) (a1 : Int) : Nat → (List (Str × Str × Bool)) → Int → Int → Option ((List (Str × Str × Bool)) × Int)
  | 0, _, _, _ => none
  | a4 + 1, a2, a3, a0 => (if a0 ≤ a1 then ((aal fu a2 a3 a0).bind fun (a5 : List (Str × Str × Bool)) => (gd (acj (a0 + (20 : Int))) <| (aai fu a1 a4 a5 a0 (a0 + (20 : Int))))) else some (a2, a3))
def aar (fu : Nat) (a3 : Int) (a0 : Int) : Nat → (List (Str × Str × Bool)) → Int → Int → Option ((List (Str × Str × Bool)) × Int)
  | 0, _, _, _ => none
  | a5 + 1, a4, a2, a1 => (if a1 ≤ a3 then (gd (acj (a2 + a0)) <| ((aam fu a4 a2 (a2 + a0) a1).bind fun (a6 : List (Str × Str × Bool)) => (gd (acj ((2 : Int) * a0)) <| (gd (acj (a1 + ((2 : Int) * a0))) <| (aar fu a3 a0 a5 a6 a1 (a1 + ((2 : Int) * a0))))))) else some (a4, a2))
def aae (fu : Nat) (a1 : Int) : Nat → (List (Str × Str × Bool)) → Int → Option (List (Str × Str × Bool))
  | 0, _, _ => none
  | a3 + 1, a4, a0 => (if a0 < a1 then (gd (acj ((2 : Int) * a0)) <| (((aar fu a1 a0 fu a4 (0 : Int) ((2 : Int) * a0))).bind fun (a2 : ((List (Str × Str × Bool)) × Int)) => (gd (acj (a2.2 + a0)) <| (if (a2.2 + a0) < a1 then ((aam fu a2.1 a2.2 (a2.2 + a0) a1).bind fun (a5 : List (Str × Str × Bool)) => (gd (acj (a0 * (2 : Int))) <| (aae fu a1 a3 a5 (a0 * (2 : Int))))) else (gd (acj (a0 * (2 : Int))) <| (aae fu a1 a3 a2.1 (a0 * (2 : Int)))))))) else some a4)
def acg (fu : Nat) (a2 : List (Str × Str × Bool)) (a0 : Int) : Option (List (Str × Str × Bool)) :=
  (((aai fu a0 fu a2 (0 : Int) (20 : Int))).bind fun (a1 : ((List (Str × Str × Bool)) × Int)) => ((aal fu a1.1 a1.2 a0).bind fun (a3 : List (Str × Str × Bool)) => (aae fu a0 fu a3 (20 : Int))))
def acb (fu : Nat) (a0 : List (Str × Str × Bool)) : Option (List (Str × Str × Bool)) :=
  ((acg fu a0 (a0.length : Int)).bind fun (y1 : List (Str × Str × Bool)) => some y1)
def abb (fu : Nat) (a0 : List (Str × Str × Bool)) : Option (List (Str × Str × Bool)) :=
  ((adj fu a0).bind fun (y1 : List (Str × Str × Bool)) => ((acb fu y1).bind fun (y9 : List (Str × Str × Bool)) => some y9))
def agw (fu : Nat) (a0 : List (Str × Str × Bool)) : Option (List (Str × Str × Bool)) :=
  ((agv fu a0).bind fun (y1 : List (Str × Str × Bool)) => ((abb fu a0).bind fun (y7 : List (Str × Str × Bool)) => some y7))
end Go.Wk
set_option linter.unusedVariables false
set_option linter.unusedSimpArgs false
set_option maxRecDepth 20000
set_option maxHeartbeats 1000000
namespace Go.Wk
open Go.Px
def aii (fu : Nat) (a0 : (Str × (List (Str × Str × Bool)))) : Option (Str × UInt8) :=
  (gd (a0.1.length ≤ 1000000000) <| ((((agf fu ((Lib.cut a0.1 ([47] : Str)).1)).bind fun (a2 : Bool) => (bif (!a2) then some true else (bif ((Lib.cut a0.1 ([47] : Str)).2.2) then ((agf fu ((Lib.cut a0.1 ([47] : Str)).2.1)).bind fun (a3 : Bool) => some (!a3)) else some false)))).bind fun (a4 : Bool) => (bif a4 then some (([] : Str), (2 : UInt8)) else ((agw fu a0.2).bind fun (a5 : List (Str × Str × Bool)) => ((adq fu a5).bind fun (a1 : (Str × UInt8)) => (if a1.2 = (0 : UInt8) then (gd (a0.1.length + a1.1.length ≤ 9223372036854775807) <| some (a0.1 ++ a1.1, (0 : UInt8))) else some (([] : Str), (2 : UInt8))))))))
def agd (fu : Nat) (a2 : List (Str × Str × Bool)) (a3 : List (Str × Str × Bool)) (a1 : Int) : Nat → Int → Option Int
  | 0, _ => none
  | a4 + 1, a0 => (((if (0 : Int) < a0 then (gd (acj (a0 - (1 : Int))) <| (gd (0 ≤ (a0 - (1 : Int)) ∧ (a0 - (1 : Int)) < (a3.length : Int)) <| (gd (0 ≤ (a0 - (1 : Int)) ∧ (a0 - (1 : Int)) < (a3.length : Int)) <| (gd (0 ≤ a1 ∧ a1 < (a2.length : Int)) <| (gd (0 ≤ a1 ∧ a1 < (a2.length : Int)) <| some (!(Op.bytesLess ((el a3 (a0 - (1 : Int))).1) ((el a2 a1).1) || ((el a3 (a0 - (1 : Int))).1) == ((el a2 a1).1)))))))) else some false)).bind fun (a5 : Bool) => (bif a5 then (gd (acj (a0 - (1 : Int))) <| (agd fu a2 a3 a1 a4 (a0 - (1 : Int)))) else some a0))
def afi (fu : Nat) (a1 : List (Str × Str × Bool)) : Nat → (List (Str × Str × Bool)) → Int → Option (List (Str × Str × Bool))
  | 0, _, _ => none
  | a4 + 1, a2, a0 => (if a0 < (a1.length : Int) then (((((agd fu a1 a2 a0 fu (a2.length : Int))).bind fun (a3 : Int) => (gd (0 ≤ a3 ∧ a3 ≤ (a2.length : Int)) <| (gd ((([] : List (Str × Str × Bool)).length + (List.take (Int.toNat a3) a2).length) * 40 ≤ 140737488355328) <| (gd (0 ≤ a0 ∧ a0 < (a1.length : Int)) <| (gd (0 ≤ a0 ∧ a0 < (a1.length : Int)) <| (gd (((([] : List (Str × Str × Bool)) ++ (List.take (Int.toNat a3) a2)).length + ([((el a1 a0).1, (el a1 a0).2.1, ((el a1 a0).2.2))] : List (Str × Str × Bool)).length) * 40 ≤ 140737488355328) <| (gd (0 ≤ a3 ∧ a3 ≤ (a2.length : Int)) <| (gd ((((([] : List (Str × Str × Bool)) ++ (List.take (Int.toNat a3) a2)) ++ ([((el a1 a0).1, (el a1 a0).2.1, ((el a1 a0).2.2))] : List (Str × Str × Bool))).length + (List.drop (Int.toNat a3) a2).length) * 40 ≤ 140737488355328) <| some (((([] : List (Str × Str × Bool)) ++ (List.take (Int.toNat a3) a2)) ++ ([((el a1 a0).1, (el a1 a0).2.1, ((el a1 a0).2.2))] : List (Str × Str × Bool))) ++ (List.drop (Int.toNat a3) a2))))))))))).bind fun (a5 : List (Str × Str × Bool)) => (gd (acj (a0 + (1 : Int))) <| (afi fu a1 a4 a5 (a0 + (1 : Int))))) else some a2)
def alo (fu : Nat) (a0 : List (Str × Str × Bool)) : Option (List (Str × Str × Bool)) :=
  (((afi fu a0 fu ([] : List (Str × Str × Bool)) (0 : Int))).bind fun (a1 : List (Str × Str × Bool)) => some a1)
def ajp (fu : Nat) (s_0 : Str) : Option Bool :=
  (((if s_0 = ([] : Str) then some false else ((afq fu s_0 (0 : Int)).bind fun (a0 : Int) => some (decide (a0 = (s_0.length : Int)))))).bind fun (a1 : Bool) => some a1)
def aft (fu : Nat) (s_0 : Str) : Nat → Int → Option (Unit ⊕ Bool)
  | 0, _ => none
  | a1 + 1, a0 => (if a0 < (s_0.length : Int) then (gd (0 ≤ a0 ∧ a0 < (s_0.length : Int)) <| ((ahn fu (at_ s_0 a0)).bind fun (a2 : Bool) => (bif a2 then some (.inr false) else (gd (acj (a0 + (1 : Int))) <| (aft fu s_0 a1 (a0 + (1 : Int))))))) else some (.inl ()))
def akw (fu : Nat) (s_0 : Str) : Option Bool :=
  (((aft fu s_0 fu (0 : Int))).bind fun (a0 : (Unit ⊕ Bool)) => Sum.elim (fun (a1 : Unit) => some true) (fun q => some q) a0)
def ahj (fu : Nat) (s_0 : Str) : Option Bool :=
  ((alz fu s_0).bind fun (y1 : (Str × Bool)) => (((bif y1.2 then (if y1.1 = s_0 then (gd (0 ≤ (0 : Int) ∧ (0 : Int) < (s_0.length : Int)) <| some (decide ((at_ s_0 (0 : Int)) = (91 : UInt8)))) else some false) else some false)).bind fun (a0 : Bool) => some a0))
def afa (fu : Nat) (s_0 : Str) : Nat → (List UInt8) → Int → Option ((List UInt8) ⊕ (Str × UInt8))
  | 0, _, _ => none
  | a3 + 1, a1, a0 => (if a0 < (s_0.length : Int) then (gd (0 ≤ a0 ∧ a0 < (s_0.length : Int)) <| ((ahn fu (at_ s_0 a0)).bind fun (a4 : Bool) => (bif a4 then some (.inr (([] : Str), (5 : UInt8))) else (((((gd (0 ≤ a0 ∧ a0 < (s_0.length : Int)) <| (if (at_ s_0 a0) = (34 : UInt8) then some true else (gd (0 ≤ a0 ∧ a0 < (s_0.length : Int)) <| some (decide ((at_ s_0 a0) = (92 : UInt8))))))).bind fun (a5 : Bool) => (bif a5 then (gd ((a1.length + ([(92 : UInt8)] : List UInt8).length) * 1 ≤ 140737488355328) <| some (a1 ++ ([(92 : UInt8)] : List UInt8))) else some a1))).bind fun (a2 : List UInt8) => (gd (0 ≤ a0 ∧ a0 < (s_0.length : Int)) <| (gd ((a2.length + ([at_ s_0 a0] : List UInt8).length) * 1 ≤ 140737488355328) <| (gd (acj (a0 + (1 : Int))) <| (afa fu s_0 a3 (a2 ++ ([at_ s_0 a0] : List UInt8)) (a0 + (1 : Int)))))))))) else some (.inl a1))
def amj (fu : Nat) (s_0 : Str) : Option (Str × UInt8) :=
  (((afa fu s_0 fu ([(34 : UInt8)] : List UInt8) (0 : Int))).bind fun (a1 : ((List UInt8) ⊕ (Str × UInt8))) => Sum.elim (fun (a0 : List UInt8) => (gd ((a0.length + ([(34 : UInt8)] : List UInt8).length) * 1 ≤ 140737488355328) <| some (a0 ++ ([(34 : UInt8)] : List UInt8), (0 : UInt8)))) (fun q => some q) a1)
def acn (fu : Nat) (a1 : List (Str × Str × Bool)) : Nat → Str → Int → Option (Str ⊕ (Str × UInt8))
  | 0, _, _ => none
  | a3 + 1, a2, a0 => (if a0 < (a1.length : Int) then (gd (0 ≤ a0 ∧ a0 < (a1.length : Int)) <| (gd (0 ≤ a0 ∧ a0 < (a1.length : Int)) <| ((((ajp fu ((el a1 a0).1)).bind fun (a5 : Bool) => (bif (!a5) then some true else ((age fu ((el a1 a0).1)).bind fun (a6 : Str) => (if a6 = ((el a1 a0).1) then ((akw fu ((el a1 a0).2.1)).bind fun (a7 : Bool) => (bif (!a7) then some true else (bif (!((el a1 a0).2.2)) then (if ((el a1 a0).2.1) = ([] : Str) then (gd (0 ≤ a0 ∧ a0 ≤ (a1.length : Int)) <| ((ahf fu (List.take (Int.toNat a0) a1) ((el a1 a0).1)).bind fun (a8 : UInt8) => some (!decide (a8 = (0 : UInt8))))) else some true) else (gd (0 ≤ a0 ∧ a0 ≤ (a1.length : Int)) <| ((ahf fu (List.take (Int.toNat a0) a1) ((el a1 a0).1)).bind fun (a9 : UInt8) => some (!decide (a9 = (0 : UInt8)))))))) else some true))))).bind fun (b0 : Bool) => (bif b0 then some (.inr (([] : Str), (2 : UInt8))) else (gd (a2.length + ([59] : Str).length ≤ 9223372036854775807) <| (gd ((a2 ++ ([59] : Str)).length + ((el a1 a0).1).length ≤ 9223372036854775807) <| (((bif ((el a1 a0).2.2) then ((ajp fu ((el a1 a0).2.1)).bind fun (b1 : Bool) => (bif b1 then some true else ((ahj fu ((el a1 a0).2.1)).bind fun (b2 : Bool) => some b2))) else some false)).bind fun (b3 : Bool) => (bif b3 then (gd (((a2 ++ ([59] : Str)) ++ ((el a1 a0).1)).length + ([61] : Str).length ≤ 9223372036854775807) <| (gd ((((a2 ++ ([59] : Str)) ++ ((el a1 a0).1)) ++ ([61] : Str)).length + ((el a1 a0).2.1).length ≤ 9223372036854775807) <| (gd (acj (a0 + (1 : Int))) <| (acn fu a1 a3 ((((a2 ++ ([59] : Str)) ++ ((el a1 a0).1)) ++ ([61] : Str)) ++ ((el a1 a0).2.1)) (a0 + (1 : Int)))))) else (bif ((el a1 a0).2.2) then ((amj fu ((el a1 a0).2.1)).bind fun (a4 : (Str × UInt8)) => (gd (((a2 ++ ([59] : Str)) ++ ((el a1 a0).1)).length + ([61] : Str).length ≤ 9223372036854775807) <| (gd ((((a2 ++ ([59] : Str)) ++ ((el a1 a0).1)) ++ ([61] : Str)).length + a4.1.length ≤ 9223372036854775807) <| (gd (acj (a0 + (1 : Int))) <| (acn fu a1 a3 ((((a2 ++ ([59] : Str)) ++ ((el a1 a0).1)) ++ ([61] : Str)) ++ a4.1) (a0 + (1 : Int))))))) else (gd (acj (a0 + (1 : Int))) <| (acn fu a1 a3 ((a2 ++ ([59] : Str)) ++ ((el a1 a0).1)) (a0 + (1 : Int))))))))))))) else some (.inl a2))
def ahm (fu : Nat) (a0 : List (Str × Str × Bool)) : Option (Str × UInt8) :=
  (((acn fu a0 fu ([] : Str) (0 : Int))).bind fun (a1 : (Str ⊕ (Str × UInt8))) => Sum.elim (fun (a2 : Str) => some (a2, (0 : UInt8))) (fun q => some q) a1)
def aje (fu : Nat) (a0 : (Str × (List (Str × Str × Bool)))) : Option (Str × UInt8) :=
  ((alo fu a0.2).bind fun (y4 : List (Str × Str × Bool)) => ((ahm fu y4).bind fun (a1 : (Str × UInt8)) => (((if a0.1 = ([] : Str) then some true else ((ajd fu a0.1).bind fun (a2 : Int) => (if a2 = (a0.1.length : Int) then some (!decide (a1.2 = (0 : UInt8))) else some true)))).bind fun (a3 : Bool) => (bif a3 then some (([] : Str), (2 : UInt8)) else (gd (a0.1.length + a1.1.length ≤ 9223372036854775807) <| some (a0.1 ++ a1.1, (0 : UInt8)))))))
end Go.Wk
set_option linter.unusedVariables false
set_option linter.unusedSimpArgs false
set_option maxRecDepth 20000
set_option maxHeartbeats 1000000
namespace Go.Wk
open Go.Px
def adw (fu : Nat) (a1 : List (Str × Str × Bool)) (a2 : List (Str × Str × Bool)) : Nat → Int → Option (Unit ⊕ Bool)
  | 0, _ => none
  | a3 + 1, a0 => (if a0 < (a1.length : Int) then (gd (0 ≤ a0 ∧ a0 < (a1.length : Int)) <| (gd (0 ≤ a0 ∧ a0 < (a1.length : Int)) <| (gd (0 ≤ a0 ∧ a0 < (a2.length : Int)) <| (gd (0 ≤ a0 ∧ a0 < (a2.length : Int)) <| (if ((el a1 a0).1, (el a1 a0).2.1, ((el a1 a0).2.2)) = ((el a2 a0).1, (el a2 a0).2.1, ((el a2 a0).2.2)) then (gd (acj (a0 + (1 : Int))) <| (adw fu a1 a2 a3 (a0 + (1 : Int)))) else some (.inr false)))))) else some (.inl ()))
def aif (fu : Nat) (a0 : List (Str × Str × Bool)) (a1 : List (Str × Str × Bool)) : Option Bool :=
  (if (a0.length : Int) = (a1.length : Int) then (((adw fu a0 a1 fu (0 : Int))).bind fun (a2 : (Unit ⊕ Bool)) => Sum.elim (fun (a3 : Unit) => some true) (fun q => some q) a2) else some false)
def ajq (fu : Nat) (a3 : Str) (a0 : (Str × (List (Str × Str × Bool)))) : Option Bool :=
  (if (40 : Int) < (a0.2.length : Int) then ((amk fu).bind fun (y5 : Bool) => some y5) else ((amm fu a3).bind fun (a1 : ((Str × (List (Str × Str × Bool))) × UInt8)) => ((ann fu a3).bind fun (a2 : ((Str × (List (Str × Str × Bool))) × UInt8)) => ((aii fu a0).bind fun (a4 : (Str × UInt8)) => ((aje fu a0).bind fun (a5 : (Str × UInt8)) => (((if a1.1.1 = a2.1.1 then ((aif fu a1.1.2 a2.1.2).bind fun (a6 : Bool) => (bif a6 then (if a1.2 = a2.2 then (if a4.1 = a5.1 then (if a4.2 = a5.2 then ((amk fu).bind fun (a7 : Bool) => some a7) else some false) else some false) else some false) else some false)) else some false)).bind fun (a8 : Bool) => some a8))))))
end Go.Wk
