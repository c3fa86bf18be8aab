/-
  The law HeaderItemBack holds, second form: for every item of at most 1048576 values and letters the call returns true; no condition beyond the statement's own (part 2 of 7).
-/
import Derived.Test.YtbfppjfgcjpknaaGreatDoorHl1
import Derived.Lib.SplitLaws
import Derived.Lib.Split
import GoSem.Core.Utf8
set_option linter.unusedSimpArgs false
set_option linter.unusedVariables false
namespace Go.Px
open Go.Wk
def spl (c : UInt8) : List UInt8 → List (List UInt8)
  | [] => [[]]
  | b :: l => if b = c then [] :: spl c l else match spl c l with | x :: r => (b :: x) :: r | [] => [[b]]
theorem spl_ne (c : UInt8) : ∀ l, spl c l ≠ []
  | [] => by simp [spl]
  | b :: l => by unfold spl; split; simp; split <;> simp
theorem splitK_spl (c : UInt8) : ∀ (s : List UInt8) (k : Nat), s.count c ≤ k → Lib.splitK [c] 0 k s = spl c s
  | [], k, _ => by cases k <;> simp [Lib.splitK, Lib.index, spl]
  | b :: l, k, h => by
    by_cases hb : b = c
    · subst hb
      obtain ⟨k, rfl⟩ : ∃ j, k = j + 1 := ⟨k - 1, by simp at h; omega⟩
      have ih := splitK_spl b l k (by simp at h; omega)
      simp [Lib.splitK, Lib.index, spl, ih]
    · have hc : (b :: l).count c = l.count c := by simp [List.count_cons, hb]
      rw [hc] at h
      have ih := splitK_spl c l k h
      unfold spl
      rw [if_neg hb, ← ih]
      cases k with
      | zero => simp [Lib.splitK]
      | succ k =>
        have hi : Lib.index (b :: l) [c] = if Lib.index l [c] == -1 then -1 else Lib.index l [c] + 1 := by
          conv => lhs; unfold Lib.index
          rw [if_neg (by simp; exact fun h => hb h.symm)]
        have hg := Lib.index_ge l [c]
        unfold Lib.splitK
        rw [hi]
        by_cases h1 : Lib.index l [c] = -1
        · simp [h1]
        · have h2 : ¬ (Lib.index l [c] + 1) = -1 := by omega
          have h3 : (Lib.index l [c] + 1).toNat = (Lib.index l [c]).toNat + 1 := by omega
          simp [h1, h2, h3]
theorem split_spl (s : List UInt8) (c : UInt8) : (Lib.splitB ⟨#[c]⟩ 0 (Lib.countB ⟨s.toArray⟩ ⟨#[c]⟩) ⟨s.toArray⟩).map Value.string = (spl c s).map str := by
  have h := Lib.splitB_data ⟨#[c]⟩ 0 (Lib.countB ⟨s.toArray⟩ ⟨#[c]⟩) ⟨s.toArray⟩
  have e : Lib.splitK [c] 0 (Lib.countB ⟨s.toArray⟩ ⟨#[c]⟩) s = spl c s := splitK_spl c s _ (Nat.le_of_eq (Lib.count_one c s).symm)
  have h' : (Lib.splitB ⟨#[c]⟩ 0 (Lib.countB ⟨s.toArray⟩ ⟨#[c]⟩) ⟨s.toArray⟩).map (·.data.toList) = spl c s := h.trans e
  rw [← h', List.map_map]
  refine List.map_congr_left fun x _ => ?_
  rfl
theorem split_spl_len (s : List UInt8) (c : UInt8) : Lib.countB ⟨s.toArray⟩ ⟨#[c]⟩ + 1 = (spl c s).length := by
  have : ∀ s : List UInt8, s.count c + 1 = (spl c s).length := by
    intro s
    induction s with
    | nil => rfl
    | cons b l ih =>
      unfold spl
      by_cases hb : b = c
      · subst hb; simp; omega
      · rw [if_neg hb]
        have hc : (b :: l).count c = l.count c := by simp [List.count_cons, hb]
        rw [hc, ih]
        split
        · rename_i h; rw [h]; simp
        · rename_i h; exact absurd h (spl_ne c l)
  show Lib.count s [c] + 1 = _
  rw [Lib.count_one, this]
theorem spl_sum (c : UInt8) : ∀ s : List UInt8, (spl c s).length ≤ s.length + 1 ∧ ∀ x ∈ spl c s, x.length ≤ s.length
  | [] => by simp [spl]
  | b :: l => by
    have ih := spl_sum c l
    unfold spl
    split
    · simp; exact ⟨ih.1, fun x hx => by have := ih.2 x hx; omega⟩
    · split
      · rename_i x r h
        rw [h] at ih
        simp at ih ⊢
        exact ⟨by omega, by omega, fun a ha => by have := ih.2.2 a ha; omega⟩
      · simp
theorem row_strs {w : World} (a : Addr) (xs : List (List UInt8)) (h : Rd w (some a) (xs.map str)) : ∀ (j : Nat) x, (xs.map fun l => (⟨l.toArray⟩ : ByteArray))[j]? = some x → w.cell? (a.add j) = some (.string x) := by
  intro j x hx
  simp only [List.getElem?_map, Option.map_eq_some_iff] at hx
  obtain ⟨l, hl, rfl⟩ := hx
  obtain ⟨p, e, hc⟩ := h j (str l) (by simp [hl])
  cases e
  exact hc
theorem rd_spot {w : World} {p : Addr} {v : Value} (h : w.cell? p = some v) : p.spot = none := by
  unfold World.cell? at h
  split at h
  · by_cases hs : p.spot.isSome = true
    · simp [hs] at h
    · simpa using hs
  · simp at h
theorem join_len (sep : List UInt8) (m : Nat) : ∀ xs : List (List UInt8), (∀ x ∈ xs, x.length ≤ m) → (Lib.join xs sep).length ≤ xs.length * (m + sep.length)
  | [], _ => by simp [Lib.join_nil]
  | x :: r, h => by
    rw [Lib.join_cons]
    have hr : (Lib.joinTail sep r).length ≤ r.length * (m + sep.length) := by
      have hr' : ∀ y ∈ r, y.length ≤ m := fun y hy => h y (List.mem_cons_of_mem _ hy)
      clear h
      induction r with
      | nil => simp [Lib.joinTail]
      | cons y r ih =>
        have := ih (fun z hz => hr' z (List.mem_cons_of_mem _ hz))
        have hy := hr' y (by simp)
        simp only [Lib.joinTail, List.map_cons, List.flatten_cons, List.length_append, List.length_cons, Nat.add_mul, Nat.one_mul] at *
        omega
    have hx := h x (by simp)
    rw [List.length_append, List.length_cons, Nat.add_mul, Nat.one_mul]
    omega
def ama (g : List UInt8) : Bool := decide (1 ≤ g.length) && decide (g.length ≤ 4) && g.all hexB
def grpN (g : List UInt8) : List UInt8 := if Lib.trimLeftS (lowP g) [48] = [] then [48] else Lib.trimLeftS (lowP g) [48]
theorem grpN_len (g : List UInt8) (h : ama g = true) : (grpN g).length ≤ 4 := by
  unfold ama at h
  simp only [Bool.and_eq_true, decide_eq_true_eq] at h
  unfold grpN
  split
  · simp
  · have := trimLeftS_len (lowP g) [48]; simp at this; omega
def ahe (s : List UInt8) : List (List UInt8) × Bool := if (spl 58 s).all ama then ((spl 58 s).map grpN, true) else ([], false)
theorem grpList_bd (s : List UInt8) : (ahe s).1.length ≤ s.length + 1 ∧ ∀ x ∈ (ahe s).1, x.length ≤ 4 := by
  have h := spl_sum 58 s
  unfold ahe
  split
  · rename_i ha
    refine ⟨by simp; exact h.1, fun x hx => ?_⟩
    simp at hx
    obtain ⟨y, hy, rfl⟩ := hx
    exact grpN_len y (List.all_eq_true.1 ha y hy)
  · simp
theorem el_app {α : Type} [Inhabited α] (a b : List α) (k : Nat) (h : a.length = k) : el (a ++ b) (k : Int) = el b 0 := by
  subst h; simp only [el, Int.toNat_natCast, List.getD_eq_getElem?_getD]; rw [List.getElem?_append_right (Nat.le_refl _)]; simp
theorem el_drop0 {α : Type} [Inhabited α] (l : List α) (k : Nat) : el (l.drop k) 0 = el l (k : Int) := by simp [el]
def aml (X : List (List UInt8)) (k : Nat) : List (List UInt8) := List.map grpN (List.take k X) ++ List.drop k X
theorem grpMix_len (X : List (List UInt8)) (k : Nat) (h : k ≤ X.length) : (aml X k).length = X.length := by simp [aml]; omega
theorem grpMix_zero (X : List (List UInt8)) : aml X 0 = X := by simp [aml]
theorem grpMix_all (X : List (List UInt8)) : aml X X.length = X.map grpN := by simp [aml]
theorem grp_step (X : List (List UInt8)) (k : Nat) (v : List UInt8) (h : k < X.length) (hv : v = grpN (el X (k : Int))) :
    aml X (k + 1) = List.set (aml X k) (k : Int).toNat v := by
  unfold aml
  have hl : (List.map grpN (List.take k X)).length = k := by simp; omega
  rw [Int.toNat_natCast, List.set_append_right _ _ (by omega), hl, Nat.sub_self, take_snoc' X k h, hv]
  rw [List.drop_eq_getElem_cons h]
  simp only [List.map_append, List.map_cons, List.map_nil, List.append_assoc, List.cons_append, List.nil_append, List.set_cons_zero]
theorem grp_el (X : List (List UInt8)) (k : Nat) (h : k < X.length) : el (aml X k) (k : Int) = el X (k : Int) := by
  unfold aml
  rw [el_app _ _ k (by simp; omega), el_drop0]
theorem grpN_zero (g : List UInt8) (h : Lib.trimLeftS (g.map aki) [48] = []) : [48] = grpN g := by unfold grpN; rw [if_pos h]
theorem grpN_else (g : List UInt8) (h : ¬ Lib.trimLeftS (g.map aki) [48] = []) : Lib.trimLeftS (g.map aki) [48] = grpN g := by unfold grpN; rw [if_neg h]
theorem grpOk_no1 (g : List UInt8) (h : (g.length : Int) < 1 ∨ 4 < (g.length : Int)) : ama g = false := by
  unfold ama
  rcases h with h | h
  · rw [show decide (1 ≤ g.length) = false by (rw [decide_eq_false_iff_not]; omega)]; rfl
  · rw [show decide (g.length ≤ 4) = false by (rw [decide_eq_false_iff_not]; omega)]; simp
theorem grpOk_no2 (g : List UInt8) (h : g.all hexB = false) : ama g = false := by unfold ama; rw [h]; simp
theorem grpOk_yes (g : List UInt8) (h1 : ¬ (g.length : Int) < 1) (h2 : ¬ 4 < (g.length : Int)) (h : g.all hexB = true) : ama g = true := by
  unfold ama; rw [h, show decide (1 ≤ g.length) = true by (rw [decide_eq_true_eq]; omega), show decide (g.length ≤ 4) = true by (rw [decide_eq_true_eq]; omega)]; rfl
theorem all_take_snoc' {α : Type} [Inhabited α] (p : α → Bool) (s : List α) (k : Nat) (h : k < s.length) (ha : (s.take k).all p = true) (hc : p (el s (k : Int)) = true) : (s.take (k + 1)).all p = true := by
  rw [take_snoc' s k h, List.all_append, ha]; simpa using hc
theorem all_false_at' {α : Type} [Inhabited α] (p : α → Bool) (s : List α) (k : Nat) (h : k < s.length) (hc : p (el s (k : Int)) = false) : s.all p = false := by
  rw [Bool.eq_false_iff]; intro ha
  have := List.all_eq_true.1 ha (el s (k : Int)) (by simp [el, h])
  rw [this] at hc; cases hc
theorem grpList_no (s : List UInt8) (h : (spl 58 s).all ama = false) : ahe s = ([], false) := by unfold ahe; rw [h]; rfl
theorem grpList_yes (s : List UInt8) (h : (spl 58 s).all ama = true) : ahe s = ((spl 58 s).map grpN, true) := by unfold ahe; rw [h]; rfl
theorem join_grp (s : List UInt8) (h : s.length ≤ 1000000000) : (Lib.join (ahe s).1 [58]).length ≤ 100000000000 := by
  have h1 := grpList_bd s
  have h2 := join_len [58] 4 (ahe s).1 h1.2
  simp at h2; omega
def alu (x : List UInt8) : List (List UInt8) × Bool := if x = [] then ([], true) else ahe x
theorem grpL0_nil (x : List UInt8) (h : x = []) : alu x = ([], true) := by unfold alu; rw [if_pos h]
theorem grpL0_else (x : List UInt8) (h : ¬ x = []) : alu x = ahe x := by unfold alu; rw [if_neg h]
def grpsP (s : List UInt8) : List UInt8 × Bool :=
  if 39 < s.length then ([], false)
  else if (Lib.cut s [58, 58]).2.2 = false then (Lib.join (ahe s).1 [58], (ahe s).2 && decide (((ahe s).1.length : Int) = 8))
  else if (!(alu (Lib.cut s [58, 58]).1).2 || !(alu (Lib.cut s [58, 58]).2.1).2 || decide (7 < ((alu (Lib.cut s [58, 58]).1).1.length : Int) + ((alu (Lib.cut s [58, 58]).2.1).1.length : Int))) = true then ([], false)
  else (Lib.join (alu (Lib.cut s [58, 58]).1).1 [58] ++ [58, 58] ++ Lib.join (alu (Lib.cut s [58, 58]).2.1).1 [58], true)
def octOk (n : List UInt8) : Bool := n.all ahx && !(n == []) && decide (aiq n ≤ 255) && (n == Lib.itoa (aiq n : Int))
def numsP (s : List UInt8) : Bool := decide (s.length ≤ 15) && (spl 46 s).all octOk && decide ((spl 46 s).length = 4)
theorem octOk_no1 (n : List UInt8) (h : n.all ahx = false) : octOk n = false := by unfold octOk; rw [h]; rfl
theorem octOk_no2 (n : List UInt8) (h : (n = [] ∨ 255 < (aiq n : Int)) ∨ ¬ n = Lib.itoa (aiq n : Int)) : octOk n = false := by
  unfold octOk
  rcases h with (h | h) | h
  · subst h; rfl
  · rw [show decide (aiq n ≤ 255) = false by (rw [decide_eq_false_iff_not]; omega)]; simp
  · rw [show (n == Lib.itoa (aiq n : Int)) = false by simpa using h]; simp
theorem octOk_yes (n : List UInt8) (h : n.all ahx = true) (h1 : ¬ n = []) (h2 : ¬ 255 < (aiq n : Int)) (h3 : n = Lib.itoa (aiq n : Int)) : octOk n = true := by
  unfold octOk
  rw [h, show decide (aiq n ≤ 255) = true by (rw [decide_eq_true_eq]; omega), show (n == Lib.itoa (aiq n : Int)) = true by rw [beq_iff_eq]; exact h3, show (n == []) = false by simpa using h1]; rfl
theorem numsP_long (s : List UInt8) (h : 15 < (s.length : Int)) : numsP s = false := by
  unfold numsP; rw [show decide (s.length ≤ 15) = false by (rw [decide_eq_false_iff_not]; omega)]; rfl
theorem numsP_no (s : List UInt8) (h : (spl 46 s).all octOk = false) : numsP s = false := by unfold numsP; rw [h]; simp
theorem numsP_fin (s : List UInt8) (h0 : ¬ 15 < (s.length : Int)) (h : (spl 46 s).all octOk = true) : numsP s = decide (((spl 46 s).length : Int) = 4) := by
  unfold numsP; rw [h, show decide (s.length ≤ 15) = true by (rw [decide_eq_true_eq]; omega)]
  rw [Bool.eq_iff_iff]; simp; omega
theorem el_mem' {α : Type} [Inhabited α] (l : List α) (k : Nat) (h : k < l.length) : el l (k : Int) ∈ l := by rw [el_nat l k h]; exact List.getElem_mem h
end Go.Px
namespace Go.Wk
open Go.Px
open Go.Value renaming slice → Vs, int → Vi, bool → Vb, pointer → Vp
def amb (x : (Str × Int)) : List Value := [(str x.1), (Vi .i64 x.2)]
theorem enc_enamekind : Enc amb 2 := ⟨fun _ => rfl, fun x v h => by
  simp only [amb, List.mem_cons, List.not_mem_nil, or_false] at h
  rcases h with h | h <;> subst h <;> rfl⟩
def aaa (x : PQ) : List Value := [(str x.1), (str x.2.1), (Vb x.2.2)]
theorem aab : Enc aaa 3 := ⟨fun _ => rfl, fun x v h => by
  simp only [aaa, List.mem_cons, List.not_mem_nil, or_false] at h
  rcases h with h | h | h <;> subst h <;> rfl⟩
def akx (x : (Int × Str)) : List Value := [(Vi .i64 x.1), (str x.2)]
theorem ank : Enc akx 2 := ⟨fun _ => rfl, fun x v h => by
  simp only [akx, List.mem_cons, List.not_mem_nil, or_false] at h
  rcases h with h | h <;> subst h <;> rfl⟩
def ahz : List Str := [[67, 97, 108, 108, 45, 73, 68], [67, 83, 101, 113], [77, 73, 77, 69, 45, 86, 101, 114, 115, 105, 111, 110], [77, 105, 110, 45, 83, 69], [82, 65, 99, 107], [82, 83, 101, 113], [87, 87, 87, 45, 65, 117, 116, 104, 101, 110, 116, 105, 99, 97, 116, 101]]
def akj : List (Str × Int) := [([70, 114, 111, 109], 1), ([84, 111], 1), ([67, 111, 110, 116, 97, 99, 116], 1), ([82, 111, 117, 116, 101], 1), ([82, 101, 99, 111, 114, 100, 45, 82, 111, 117, 116, 101], 1), ([80, 97, 116, 104], 1), ([83, 101, 114, 118, 105, 99, 101, 45, 82, 111, 117, 116, 101], 1), ([82, 101, 102, 101, 114, 45, 84, 111], 1), ([82, 101, 102, 101, 114, 114, 101, 100, 45, 66, 121], 1), ([82, 101, 112, 108, 121, 45, 84, 111], 1), ([86, 105, 97], 2), ([67, 83, 101, 113], 3), ([82, 65, 99, 107], 4), ([67, 111, 110, 116, 101, 110, 116, 45, 76, 101, 110, 103, 116, 104], 5), ([69, 120, 112, 105, 114, 101, 115], 5), ([77, 97, 120, 45, 70, 111, 114, 119, 97, 114, 100, 115], 5), ([77, 105, 110, 45, 69, 120, 112, 105, 114, 101, 115], 5), ([82, 83, 101, 113], 5), ([67, 111, 110, 116, 101, 110, 116, 45, 68, 105, 115, 112, 111, 115, 105, 116, 105, 111, 110], 6), ([67, 111, 110, 116, 101, 110, 116, 45, 84, 121, 112, 101], 6), ([69, 118, 101, 110, 116], 6), ([77, 105, 110, 45, 83, 69], 6), ([83, 101, 115, 115, 105, 111, 110, 45, 69, 120, 112, 105, 114, 101, 115], 6), ([83, 117, 98, 115, 99, 114, 105, 112, 116, 105, 111, 110, 45, 83, 116, 97, 116, 101], 6), ([65, 99, 99, 101, 112, 116], 7), ([65, 108, 108, 111, 119], 7), ([65, 108, 108, 111, 119, 45, 69, 118, 101, 110, 116, 115], 7), ([80, 114, 111, 120, 121, 45, 82, 101, 113, 117, 105, 114, 101], 7), ([82, 101, 113, 117, 105, 114, 101], 7), ([83, 117, 112, 112, 111, 114, 116, 101, 100], 7), ([85, 110, 115, 117, 112, 112, 111, 114, 116, 101, 100], 7)]
def gl_classes : List Str := [[38, 61, 43, 36, 44, 59, 63, 47], [91, 93, 47, 58, 38, 43, 36], [91, 93, 47, 63, 58, 43, 36]]
end Go.Wk
set_option maxRecDepth 20000
set_option maxHeartbeats 1000000
namespace Go.Wk
open Go.Px
open Int renaming toNat → zac
open List renaming drop → zak
open Sum renaming elim → zaC
def afa (fu : Nat) (a0 : Int) : Option Bool :=
  (((if (0 : Int) ≤ a0 then some (decide (a0 < (55296 : Int))) else some false)).bind fun (v5 : Bool) => (bif v5 then some true else (((if (57343 : Int) < a0 then some (decide (a0 ≤ (1114111 : Int))) else some false)).bind fun (a1 : Bool) => (bif a1 then some true else some false))))
def adv (fu : Nat) (s_0 : Str) : Nat → Nat → Option (Unit ⊕ Int)
  | 0, _ => none
  | a1 + 1, a0 => (if a0 < s_0.length then (if ((Utf8.decode ⟨List.toArray s_0⟩ a0).1 : Int) = (65533 : Int) then some (.inr (a0 : Int)) else (adv fu s_0 a1 (a0 + (Utf8.decode ⟨List.toArray s_0⟩ a0).2))) else some (.inl ()))
def agc (fu : Nat) (s_0 : Str) (a1 : Int) (a2 : Int) : Nat → Int → Option Int
  | 0, _ => none
  | a3 + 1, a0 => (if a0 < (((Utf8.encode a1).data.toList).length : Int) then (gd (acw (a2 - a0)) <| (gd (0 ≤ (a2 - a0) ∧ (a2 - a0) < (s_0.length : Int)) <| (gd (acw (((((Utf8.encode a1).data.toList).length : Int) - (1 : Int)) - a0)) <| (gd (0 ≤ (((((Utf8.encode a1).data.toList).length : Int) - (1 : Int)) - a0) ∧ (((((Utf8.encode a1).data.toList).length : Int) - (1 : Int)) - a0) < (((Utf8.encode a1).data.toList).length : Int)) <| (if (at_ s_0 (a2 - a0)) = (at_ ((Utf8.encode a1).data.toList) (((((Utf8.encode a1).data.toList).length : Int) - (1 : Int)) - a0)) then (gd (acw (a0 + (1 : Int))) <| (agc fu s_0 a1 a2 a3 (a0 + (1 : Int)))) else none))))) else (gd (acw (a2 - ((((Utf8.encode a1).data.toList).length : Int) - (1 : Int)))) <| some (a2 - ((((Utf8.encode a1).data.toList).length : Int) - (1 : Int)))))
def afi (fu : Nat) (s_0 : Str) (a0 : Int) : Nat → Option Int
  | 0 => none
  | a3 + 1 => (if ((((Utf8.encode a0).data.toList).length : Int) - (1 : Int)) < (s_0.length : Int) then (((gd (0 ≤ ((((Utf8.encode a0).data.toList).length : Int) - (1 : Int)) ∧ ((((Utf8.encode a0).data.toList).length : Int) - (1 : Int)) < (s_0.length : Int)) <| (gd (0 ≤ ((((Utf8.encode a0).data.toList).length : Int) - (1 : Int)) ∧ ((((Utf8.encode a0).data.toList).length : Int) - (1 : Int)) < (((Utf8.encode a0).data.toList).length : Int)) <| (if (at_ s_0 ((((Utf8.encode a0).data.toList).length : Int) - (1 : Int))) = (at_ ((Utf8.encode a0).data.toList) ((((Utf8.encode a0).data.toList).length : Int) - (1 : Int))) then some (.inl ((((Utf8.encode a0).data.toList).length : Int) - (1 : Int))) else (gd (acw (((((Utf8.encode a0).data.toList).length : Int) - (1 : Int)) + (1 : Int))) <| (gd (0 ≤ (((((Utf8.encode a0).data.toList).length : Int) - (1 : Int)) + (1 : Int)) ∧ (((((Utf8.encode a0).data.toList).length : Int) - (1 : Int)) + (1 : Int)) ≤ (s_0.length : Int)) <| (gd (0 ≤ ((((Utf8.encode a0).data.toList).length : Int) - (1 : Int)) ∧ ((((Utf8.encode a0).data.toList).length : Int) - (1 : Int)) < (((Utf8.encode a0).data.toList).length : Int)) <| (if (ixb (· == (at_ ((Utf8.encode a0).data.toList) ((((Utf8.encode a0).data.toList).length : Int) - (1 : Int)))) (zak (zac (((((Utf8.encode a0).data.toList).length : Int) - (1 : Int)) + (1 : Int))) s_0)) < (0 : Int) then some (.inr (-1 : Int)) else (gd (acw ((ixb (· == (at_ ((Utf8.encode a0).data.toList) ((((Utf8.encode a0).data.toList).length : Int) - (1 : Int)))) (zak (zac (((((Utf8.encode a0).data.toList).length : Int) - (1 : Int)) + (1 : Int))) s_0)) + (1 : Int))) <| (gd (acw (((((Utf8.encode a0).data.toList).length : Int) - (1 : Int)) + ((ixb (· == (at_ ((Utf8.encode a0).data.toList) ((((Utf8.encode a0).data.toList).length : Int) - (1 : Int)))) (zak (zac (((((Utf8.encode a0).data.toList).length : Int) - (1 : Int)) + (1 : Int))) s_0)) + (1 : Int)))) <| some (.inl (((((Utf8.encode a0).data.toList).length : Int) - (1 : Int)) + ((ixb (· == (at_ ((Utf8.encode a0).data.toList) ((((Utf8.encode a0).data.toList).length : Int) - (1 : Int)))) (zak (zac (((((Utf8.encode a0).data.toList).length : Int) - (1 : Int)) + (1 : Int))) s_0)) + (1 : Int)))))))))))))).bind fun (a1 : (Int ⊕ Int)) => zaC (fun (a2 : Int) => (agc fu s_0 a0 a2 fu (1 : Int))) (fun q => some q) a1) else some (-1 : Int))
def aem (fu : Nat) (s_0 : Str) (a0 : Int) : Option Int :=
  (((if (0 : Int) ≤ a0 then some (decide (a0 < (128 : Int))) else some false)).bind fun (v5 : Bool) => (bif v5 then some (ixb (· == (u8i a0)) s_0) else (if a0 = (65533 : Int) then (((adv fu s_0 fu 0)).bind fun (a1 : (Unit ⊕ Int)) => zaC (fun (a3 : Unit) => some (-1 : Int)) (fun q => some q) a1) else ((afa fu a0).bind fun (a2 : Bool) => (bif (!a2) then some (-1 : Int) else (gd (acw ((((Utf8.encode a0).data.toList).length : Int) - (1 : Int))) <| (afi fu s_0 a0 fu)))))))
def afh (fu : Nat) (a0 : Int) : Option Bool :=
  some (decide ((8 : Int) < a0))
def ado (fu : Nat) (s_0 : Str) (a1 : Str) : Nat → Nat → Option (Unit ⊕ Int)
  | 0, _ => none
  | a2 + 1, a0 => (if a0 < s_0.length then ((aem fu a1 ((Utf8.decode ⟨List.toArray s_0⟩ a0).1 : Int)).bind fun (a3 : Int) => (if (0 : Int) ≤ a3 then some (.inr (a0 : Int)) else (ado fu s_0 a1 a2 (a0 + (Utf8.decode ⟨List.toArray s_0⟩ a0).2)))) else some (.inl ()))
def ait (fu : Nat) (s_0 : Str) (a0 : Str) : Option Int :=
  (if a0 = ([] : Str) then some (-1 : Int) else (if (a0.length : Int) = (1 : Int) then (gd (0 ≤ (0 : Int) ∧ (0 : Int) < (a0.length : Int)) <| (((if (128 : Int) ≤ ((at_ a0 (0 : Int)).toNat : Int) then some (65533 : Int) else some ((at_ a0 (0 : Int)).toNat : Int))).bind fun (v8 : Int) => ((aem fu s_0 v8).bind fun (a1 : Int) => some a1))) else ((((afh fu (s_0.length : Int)).bind fun (a2 : Bool) => (bif a2 then none else some ()))).bind fun (a4 : Unit) => (((ado fu s_0 a0 fu 0)).bind fun (a3 : (Unit ⊕ Int)) => zaC (fun (a5 : Unit) => some (-1 : Int)) (fun q => some q) a3))))
end Go.Wk
namespace Go.Px
open Go.Wk
theorem get_at (l : List UInt8) (k : Nat) (h : k < l.length) : (⟨l.toArray⟩ : ByteArray).get! k = at_ l (k : Int) := by
  show l.toArray[k]! = _
  simp [at_, h]
theorem dec_ascii (l : List UInt8) (k : Nat) (h : k < l.length) (h1 : (at_ l (k : Int)).toNat < 128) : Utf8.decode ⟨l.toArray⟩ k = ((at_ l (k : Int)).toNat, 1) := by
  unfold Utf8.decode
  simp only [Nat.add_zero, get_at l k h]
  rw [if_pos (by omega)]
theorem dec_high (l : List UInt8) (k : Nat) (h : k < l.length) (h1 : ¬ (at_ l (k : Int)).toNat < 128) :
    128 ≤ (Utf8.decode ⟨l.toArray⟩ k).1 ∧ 1 ≤ (Utf8.decode ⟨l.toArray⟩ k).2 ∧ k + (Utf8.decode ⟨l.toArray⟩ k).2 ≤ l.length ∧
    ∀ j : Nat, k ≤ j → j < k + (Utf8.decode ⟨l.toArray⟩ k).2 → 128 ≤ (at_ l (j : Int)).toNat := by
  have hsz : (⟨l.toArray⟩ : ByteArray).size = l.length := rfl
  have hone : ∀ c : Nat, 128 ≤ c → 128 ≤ ((c, 1) : Nat × Nat).1 ∧ 1 ≤ ((c, 1) : Nat × Nat).2 ∧ k + ((c, 1) : Nat × Nat).2 ≤ l.length ∧ ∀ j : Nat, k ≤ j → j < k + ((c, 1) : Nat × Nat).2 → 128 ≤ (at_ l (j : Int)).toNat :=
    fun c hc => ⟨hc, Nat.le_refl _, by simp; omega, fun j h2 h3 => by
      have : j = k := by simp at h3; omega
      subst this; omega⟩
  have cont : ∀ i : Nat, (decide (k + i < l.length) && ((⟨l.toArray⟩ : ByteArray).get! (k + i)).toNat / 64 == 2) = true → k + i < l.length ∧ 128 ≤ (at_ l ((k + i : Nat) : Int)).toNat := by
    intro i hi
    simp only [Bool.and_eq_true, decide_eq_true_eq, beq_iff_eq] at hi
    rw [get_at l (k + i) hi.1] at hi
    omega
  have hre : 128 ≤ Utf8.runeError := by decide
  have hk0 : 128 ≤ (at_ l (k : Int)).toNat := by omega
  unfold Utf8.decode
  simp only [Nat.add_zero, get_at l k h, hsz]
  rw [if_neg (by omega)]
  split
  · rename_i h2
    simp only [Bool.and_eq_true] at h2
    have c1 := cont 1 (by simpa using h2.2)
    split
    · rename_i h3
      refine ⟨by simpa using h3, by simp, by simp; omega, fun j h4 h5 => ?_⟩
      have : j = k ∨ j = k + 1 := by simp at h5; omega
      rcases this with rfl | rfl
      · exact hk0
      · exact c1.2
    · exact hone _ hre
  split
  · rename_i h2
    simp only [Bool.and_eq_true] at h2
    have c1 := cont 1 (by simpa using h2.1.2)
    have c2 := cont 2 (by simpa using h2.2)
    split
    · rename_i h3
      simp only [Bool.and_eq_true, decide_eq_true_eq] at h3
      refine ⟨by have := h3.1; simp only [ge_iff_le] at this ⊢; omega, by simp, by simp; omega, fun j h4 h5 => ?_⟩
      have : j = k ∨ j = k + 1 ∨ j = k + 2 := by simp at h5; omega
      rcases this with rfl | rfl | rfl
      · exact hk0
      · exact c1.2
      · exact c2.2
    · exact hone _ hre
  split
  · rename_i h2
    simp only [Bool.and_eq_true] at h2
    have c1 := cont 1 (by simpa using h2.1.1.2)
    have c2 := cont 2 (by simpa using h2.1.2)
    have c3 := cont 3 (by simpa using h2.2)
    split
    · rename_i h3
      simp only [Bool.and_eq_true, decide_eq_true_eq] at h3
      refine ⟨by have := h3.1; simp only [ge_iff_le] at this ⊢; omega, by simp, by simp; omega, fun j h4 h5 => ?_⟩
      have : j = k ∨ j = k + 1 ∨ j = k + 2 ∨ j = k + 3 := by simp at h5; omega
      rcases this with rfl | rfl | rfl | rfl
      · exact hk0
      · exact c1.2
      · exact c2.2
      · exact c3.2
    · exact hone _ hre
  · exact hone _ hre
def encL (r : Int) : List UInt8 := (Utf8.encode r).data.toList
theorem encL_high (r : Int) (h : 128 ≤ r) : 2 ≤ (encL r).length ∧ (encL r).length ≤ 4 ∧ 128 ≤ (at_ (encL r) ((encL r).length - 1 : Int)).toNat := by
  have hv : ∀ n : Nat, 128 ≤ (UInt8.ofNat (128 + n % 64)).toNat := by
    intro n
    rw [UInt8.toNat_ofNat']
    omega
  unfold encL Utf8.encode
  have hc : 128 ≤ (if Utf8.valid r = true then r.toNat else Utf8.runeError) := by
    split
    · omega
    · decide
  generalize (if Utf8.valid r = true then r.toNat else Utf8.runeError) = c at hc
  simp only
  rw [if_neg (by omega)]
  split
  · exact ⟨by simp, by simp, hv c⟩
  split
  · exact ⟨by simp, by simp, hv c⟩
  · exact ⟨by simp, by simp, hv c⟩
end Go.Px
namespace Go.Wk
open Go.Px
open Int renaming toNat → zac
open List renaming set → zaf
open Sum renaming elim → zaC
def agx (fu : Nat) (a0 : UInt8) : Option Bool :=
  (((((if (97 : UInt8) ≤ a0 then some (decide (a0 ≤ (122 : UInt8))) else some false)).bind fun (a1 : Bool) => (bif a1 then (bif a1 then some (.inr true) else some (.inl ())) else (((if (65 : UInt8) ≤ a0 then some (decide (a0 ≤ (90 : UInt8))) else some false)).bind fun (a2 : Bool) => (bif a2 then (bif a2 then some (.inr true) else some (.inl ())) else (if (48 : UInt8) ≤ a0 then (if a0 ≤ (57 : UInt8) then some (.inr true) else some (.inl ())) else some (.inl ()))))))).bind fun (a3 : (Unit ⊕ Bool)) => zaC (fun (a4 : Unit) => (if a0 = (45 : UInt8) then (if a0 = (45 : UInt8) then some true else some false) else (if a0 = (46 : UInt8) then (if a0 = (46 : UInt8) then some true else some false) else (if a0 = (33 : UInt8) then (if a0 = (33 : UInt8) then some true else some false) else (if a0 = (37 : UInt8) then (if a0 = (37 : UInt8) then some true else some false) else (if a0 = (42 : UInt8) then (if a0 = (42 : UInt8) then some true else some false) else (if a0 = (95 : UInt8) then (if a0 = (95 : UInt8) then some true else some false) else (if a0 = (43 : UInt8) then (if a0 = (43 : UInt8) then some true else some false) else (if a0 = (39 : UInt8) then (if a0 = (39 : UInt8) then some true else some false) else (if a0 = (126 : UInt8) then (if a0 = (126 : UInt8) then some true else some false) else (if a0 = (96 : UInt8) then some true else some false))))))))))) (fun q => some q) a3)
def ace (fu : Nat) (s_0 : Str) : Nat → Int → Option Int
  | 0, _ => none
  | a1 + 1, a0 => (((if a0 < (s_0.length : Int) then (gd (0 ≤ a0 ∧ a0 < (s_0.length : Int)) <| ((agx fu (at_ s_0 a0)).bind fun (a2 : Bool) => some a2)) else some false)).bind fun (a3 : Bool) => (bif a3 then (gd (acw (a0 + (1 : Int))) <| (ace fu s_0 a1 (a0 + (1 : Int)))) else some a0))
def aea (fu : Nat) (s_0 : Str) (a0 : Int) : Option Int :=
  (((ace fu s_0 fu (min (max a0 (0 : Int)) (s_0.length : Int)))).bind fun (a1 : Int) => some a1)
def aep (fu : Nat) (s_0 : Str) (a0 : Int) : Option Int :=
  ((aea fu s_0 a0).bind fun (y1 : Int) => some y1)
def afk (fu : Nat) (s_0 : Str) : Option Bool :=
  (((if s_0 = ([] : Str) then some false else ((aep fu s_0 (0 : Int)).bind fun (a0 : Int) => some (decide (a0 = (s_0.length : Int)))))).bind fun (a1 : Bool) => some a1)
def aiv (fu : Nat) (a0 : UInt8) : Option UInt8 :=
  (((if (65 : UInt8) ≤ a0 then some (decide (a0 ≤ (90 : UInt8))) else some false)).bind fun (v5 : Bool) => (bif v5 then some (a0 + (32 : UInt8)) else some a0))
def akz (fu : Nat) (a0 : UInt8) : Option Str :=
  (if a0 = (98 : UInt8) then none else (if a0 = (99 : UInt8) then none else (if a0 = (101 : UInt8) then none else (if a0 = (102 : UInt8) then none else (if a0 = (105 : UInt8) then none else (if a0 = (107 : UInt8) then none else (if a0 = (108 : UInt8) then none else (if a0 = (109 : UInt8) then some ([67, 111, 110, 116, 97, 99, 116] : Str) else none))))))))
def adl (fu : Nat) (s_0 : Str) : Nat → Str → Int → Option Str
  | 0, _, _ => none
  | a2 + 1, a1, a0 => (if a0 < (s_0.length : Int) then (gd (0 ≤ a0 ∧ a0 < (a1.length : Int)) <| (gd (0 ≤ a0 ∧ a0 < (a1.length : Int)) <| ((aiv fu (at_ a1 a0)).bind fun (a3 : UInt8) => (gd (0 ≤ a0 ∧ a0 < (a1.length : Int)) <| (gd (0 ≤ a0 ∧ a0 < (a1.length : Int)) <| (gd (acw (a0 + (1 : Int))) <| (adl fu s_0 a2 (zaf a1 (zac a0) a3) (a0 + (1 : Int))))))))) else some a1)
def aec (fu : Nat) (s_0 : Str) : Option Str :=
  (((adl fu s_0 fu s_0 (0 : Int))).bind fun (a0 : Str) => some a0)
def ako (fu : Nat) (a0 : Str) : Nat → Option (Str × UInt8)
  | 0 => none
  | a2 + 1 => (if (0 : Int) < (7 : Int) then (gd (0 ≤ (0 : Int) ∧ (0 : Int) < (ahz.length : Int)) <| ((aec fu (el ahz (0 : Int))).bind fun (a1 : Str) => (if a1 = a0 then some (el ahz (0 : Int), (0 : UInt8)) else none))) else none)
def alh (fu : Nat) (a0 : Str) : Option (Str × UInt8) :=
  ((((afk fu a0).bind fun (a2 : Bool) => (bif (!a2) then none else some ()))).bind fun (v9 : Unit) => (if (64 : Int) < (a0.length : Int) then none else (if (a0.length : Int) = (1 : Int) then (gd (0 ≤ (0 : Int) ∧ (0 : Int) < (a0.length : Int)) <| ((aiv fu (at_ a0 (0 : Int))).bind fun (a3 : UInt8) => ((akz fu a3).bind fun (a1 : Str) => (if a1 = ([] : Str) then none else some (a1, (0 : UInt8)))))) else ((aec fu a0).bind fun (a4 : Str) => (ako fu a4 fu)))))
open List renaming drop → zak
def anp (fu : Nat) (a0 : Str) : Option Bool :=
  (if a0 = ([67, 111, 110, 116, 97, 99, 116] : Str) then (if a0 = ([67, 111, 110, 116, 97, 99, 116] : Str) then some true else none) else none)
def afx (fu : Nat) (a0 : UInt8) : Option Bool :=
  (((if a0 = (32 : UInt8) then some true else some (decide (a0 = (9 : UInt8))))).bind fun (v5 : Bool) => some v5)
def abp (fu : Nat) (s_0 : Str) : Nat → Int → Option Int
  | 0, _ => none
  | a1 + 1, a0 => (((if a0 < (s_0.length : Int) then (gd (0 ≤ a0 ∧ a0 < (s_0.length : Int)) <| ((afx fu (at_ s_0 a0)).bind fun (a2 : Bool) => some a2)) else some false)).bind fun (a3 : Bool) => (bif a3 then (gd (acw (a0 + (1 : Int))) <| (abp fu s_0 a1 (a0 + (1 : Int)))) else some a0))
def aex (fu : Nat) (s_0 : Str) (a0 : Int) : Option Int :=
  (((abp fu s_0 fu (min (max a0 (0 : Int)) (s_0.length : Int)))).bind fun (a1 : Int) => some a1)
def age (fu : Nat) (s_0 : Str) (a0 : Int) : Option Int :=
  ((aex fu s_0 a0).bind fun (y1 : Int) => some y1)
def alv (fu : Nat) (s_0 : Str) (a1 : Int) (a0 : Int) : Option (Int × Str) :=
  ((age fu s_0 a1).bind fun (y4 : Int) => (gd (0 ≤ (min y4 a0) ∧ (min y4 a0) ≤ a0 ∧ a0 ≤ (s_0.length : Int)) <| (gd ((sub s_0 (min y4 a0) a0).length ≤ 1000000000) <| gd (([32, 9] : Str).length ≤ 1000 ∧ ([32, 9] : Str).all (fun b => decide (b.toNat < 128)) = true) <| some (min y4 a0, Lib.trimRightS (sub s_0 (min y4 a0) a0) ([32, 9] : Str)))))
def agi (fu : Nat) (s_0 : Str) (a2 : UInt8) : Nat → (List (Int × Str)) → Int → Int → Option ((List (Int × Str)) × Int)
  | 0, _, _, _ => none
  | a4 + 1, a1, a3, a0 => (if a0 < (s_0.length : Int) then (gd (0 ≤ a0 ∧ a0 < (s_0.length : Int)) <| (if (at_ s_0 a0) = (34 : UInt8) then none else (if (at_ s_0 a0) = (60 : UInt8) then (gd (0 ≤ a0 ∧ a0 ≤ (s_0.length : Int)) <| (if (ixb (· == (62 : UInt8)) (zak (zac a0) s_0)) < (0 : Int) then none else (gd (acw ((ixb (· == (62 : UInt8)) (zak (zac a0) s_0)) + (1 : Int))) <| (gd (acw (a0 + ((ixb (· == (62 : UInt8)) (zak (zac a0) s_0)) + (1 : Int)))) <| (agi fu s_0 a2 a4 a1 a3 (a0 + ((ixb (· == (62 : UInt8)) (zak (zac a0) s_0)) + (1 : Int)))))))) else (if (at_ s_0 a0) = (62 : UInt8) then none else (if (at_ s_0 a0) = a2 then ((alv fu s_0 a3 a0).bind fun (a5 : (Int × Str)) => (gd ((a1.length + ([a5] : List (Int × Str)).length) * 24 ≤ 140737488355328) <| (gd (acw (a0 + (1 : Int))) <| (agi fu s_0 a2 a4 (a1 ++ ([a5] : List (Int × Str))) (a0 + (1 : Int)) (a0 + (1 : Int)))))) else (gd (acw (a0 + (1 : Int))) <| (agi fu s_0 a2 a4 a1 a3 (a0 + (1 : Int))))))))) else some (a1, a3))
def ann (fu : Nat) (s_0 : Str) (a0 : UInt8) : Option ((List (Int × Str)) × Int × UInt8) :=
  ((((afx fu a0).bind fun (a3 : Bool) => (bif a3 then none else (if a0 = (34 : UInt8) then none else (if a0 = (60 : UInt8) then none else some ()))))).bind fun (a4 : Unit) => (if a0 = (62 : UInt8) then none else (((agi fu s_0 a0 fu ([] : List (Int × Str)) (0 : Int) (0 : Int))).bind fun (a1 : ((List (Int × Str)) × Int)) => ((alv fu s_0 a1.2 (s_0.length : Int)).bind fun (a2 : (Int × Str)) => (gd ((a1.1.length + ([a2] : List (Int × Str)).length) * 24 ≤ 140737488355328) <| some (a1.1 ++ ([a2] : List (Int × Str)), (0 : Int), (0 : UInt8)))))))
def ajk (fu : Nat) (y1 : ((List (Int × Str)) × Int × UInt8)) : Nat → (List Str) → Int → Option (List Str)
  | 0, _, _ => none
  | a2 + 1, a1, a0 => (if a0 < (y1.1.length : Int) then (gd (0 ≤ a0 ∧ a0 < (y1.1.length : Int)) <| (gd (0 ≤ a0 ∧ a0 < (y1.1.length : Int)) <| (if ((el y1.1 a0).2) = ([] : Str) then none else (gd ((a1.length + ([(el y1.1 a0).2] : List Str).length) * 16 ≤ 140737488355328) <| (gd (acw (a0 + (1 : Int))) <| (ajk fu y1 a2 (a1 ++ ([(el y1.1 a0).2] : List Str)) (a0 + (1 : Int)))))))) else some a1)
def anr (fu : Nat) (a0 : Str) : Option ((List Str) × UInt8) :=
  ((ann fu a0 (44 : UInt8)).bind fun (y1 : ((List (Int × Str)) × Int × UInt8)) => (if y1.2.2 = (0 : UInt8) then (((ajk fu y1 fu ([] : List Str) (0 : Int))).bind fun (a1 : List Str) => some (a1, (0 : UInt8))) else none))
def aib (fu : Nat) (a1 : Str) : Nat → Int → Option Int
  | 0, _ => none
  | a2 + 1, a0 => (if a0 < (31 : Int) then (gd (0 ≤ a0 ∧ a0 < (31 : Int)) <| (gd (0 ≤ a0 ∧ a0 < (akj.length : Int)) <| (if ((el akj a0).1) = a1 then (gd (0 ≤ a0 ∧ a0 < (31 : Int)) <| (gd (0 ≤ a0 ∧ a0 < (akj.length : Int)) <| some ((el akj a0).2))) else (gd (acw (a0 + (1 : Int))) <| (aib fu a1 a2 (a0 + (1 : Int))))))) else none)
def amc (fu : Nat) (a0 : Str) : Option Int :=
  (aib fu a0 fu (0 : Int))
open Go.Lib renaming indexAny → zar, join → zax
open List renaming drop → zak, set → zaf
def agd (fu : Nat) (s_0 : Str) : Option Str :=
  (gd (s_0.length ≤ 1000000000) <| gd (([32, 9] : Str).length ≤ 1000 ∧ ([32, 9] : Str).all (fun b => decide (b.toNat < 128)) = true) <| some (Lib.trimS s_0 ([32, 9] : Str)))
def acm (fu : Nat) (a0 : (Str × Int)) : Option (Str × Int) :=
  ((age fu a0.1 a0.2).bind fun (y1 : Int) => some (a0.1, y1))
def aei (fu : Nat) (a0 : (Str × Int)) : Option Bool :=
  some (decide ((a0.1.length : Int) ≤ a0.2))
def abk (fu : Nat) (a0 : (Str × Int)) (a1 : UInt8) : Option Bool :=
  ((((aei fu a0).bind fun (a2 : Bool) => (bif (!a2) then (gd (0 ≤ a0.2 ∧ a0.2 < (a0.1.length : Int)) <| some (decide ((at_ a0.1 a0.2) = a1))) else some false))).bind fun (a3 : Bool) => some a3)
def aeh (fu : Nat) (a0 : (Str × Int)) : Option (Str × (Str × Int)) :=
  ((aep fu a0.1 a0.2).bind fun (y1 : Int) => (gd (0 ≤ a0.2 ∧ a0.2 ≤ y1 ∧ y1 ≤ (a0.1.length : Int)) <| some (sub a0.1 a0.2 y1, (a0.1, y1))))
def aeu (fu : Nat) : Nat → (List Str) → Str → Int → Option ((List Str) × Str × Int)
  | 0, _, _, _ => none
  | a5 + 1, a1, a2, a3 => ((abk fu (a2, a3) (60 : UInt8)).bind fun (a6 : Bool) => (bif (!a6) then ((aeh fu (a2, a3)).bind fun (a0 : (Str × (Str × Int))) => (if a0.1 = ([] : Str) then none else (gd ((a1.length + ([a0.1] : List Str).length) * 16 ≤ 140737488355328) <| ((acm fu a0.2).bind fun (a4 : (Str × Int)) => (aeu fu a5 (a1 ++ ([a0.1] : List Str)) a4.1 a4.2))))) else some (a1, a2, a3)))
def agp (fu : Nat) (a1 : (Str × Int)) (a2 : (Str × (Str × Str × Str × Int × (List PQ) × (List PQ)) × (List PQ))) : Option (Int × UInt8 × (Str × Int) × (Str × (Str × Str × Str × Int × (List PQ) × (List PQ)) × (List PQ))) :=
  (((aeu fu fu ([] : List Str) a1.1 a1.2)).bind fun (a0 : ((List Str) × Str × Int)) => (gd (a0.1.length ≤ 1000000000 ∧ (zax a0.1 ([32] : Str)).length ≤ 100000000000) <| some ((0 : Int), (0 : UInt8), a0.2, (zax a0.1 ([32] : Str), a2.2.1, a2.2.2))))
def aee (fu : Nat) (a1 : Str) (a0 : Int) (a2 : Str) : Option Int :=
  (gd (0 ≤ a0 ∧ a0 ≤ (a1.length : Int)) <| (gd ((zak (zac a0) a1).length ≤ 1000000000 ∧ a2.length ≤ 1000 ∧ a2.all (fun b => decide (b.toNat < 128)) = true) <| (if (0 : Int) ≤ (zar (zak (zac a0) a1) a2) then (gd (acw (a0 + (zar (zak (zac a0) a1) a2))) <| some (a0 + (zar (zak (zac a0) a1) a2))) else some (a1.length : Int))))
def aen (fu : Nat) (s_0 : Str) : Nat → Str → Int → Option Str
  | 0, _, _ => none
  | a2 + 1, a1, a0 => (if a0 < (s_0.length : Int) then (gd (0 ≤ a0 ∧ a0 < (a1.length : Int)) <| (gd (0 ≤ a0 ∧ a0 < (a1.length : Int)) <| (((if (65 : UInt8) ≤ (at_ a1 a0) then some (decide ((at_ a1 a0) ≤ (90 : UInt8))) else some false)).bind fun (a3 : Bool) => (bif a3 then (gd (0 ≤ a0 ∧ a0 < (a1.length : Int)) <| (gd (0 ≤ a0 ∧ a0 < (a1.length : Int)) <| (gd (acw (a0 + (1 : Int))) <| (aen fu s_0 a2 (zaf a1 (zac a0) ((at_ a1 a0) + (32 : UInt8))) (a0 + (1 : Int)))))) else (gd (acw (a0 + (1 : Int))) <| (aen fu s_0 a2 a1 (a0 + (1 : Int)))))))) else some a1)
def adh (fu : Nat) (s_0 : Str) : Option Str :=
  (((aen fu s_0 fu s_0 (0 : Int))).bind fun (a0 : Str) => some a0)
def agr (fu : Nat) (a0 : UInt8) : Option Bool :=
  (((if (97 : UInt8) ≤ a0 then (if a0 ≤ (122 : UInt8) then some true else (if (65 : UInt8) ≤ a0 then some (decide (a0 ≤ (90 : UInt8))) else some false)) else (if (65 : UInt8) ≤ a0 then some (decide (a0 ≤ (90 : UInt8))) else some false))).bind fun (v8 : Bool) => some v8)
def ajl (fu : Nat) (a0 : UInt8) (a2 : Int) : Option Bool :=
  ((((agr fu a0).bind fun (a1 : Bool) => (bif a1 then some () else none))).bind fun (v9 : Unit) => some true)
def afr (fu : Nat) (a1 : (Str × Int)) (a2 : Int) (a3 : Int) : Nat → Int → Option Unit
  | 0, _ => none
  | a4 + 1, a0 => (if a0 < a2 then (gd (0 ≤ a0 ∧ a0 < (a1.1.length : Int)) <| ((ajl fu (at_ a1.1 a0) a3).bind fun (a5 : Bool) => (bif a5 then (gd (acw (a0 + (1 : Int))) <| (afr fu a1 a2 a3 a4 (a0 + (1 : Int)))) else none))) else some ())
def agm (fu : Nat) (a0 : (Str × Int)) (a1 : Int) (a2 : Int) : Option (Int × Bool) :=
  (((afr fu a0 a1 a2 fu a0.2)).bind fun (a3 : Unit) => some ((0 : Int), false))
def agn (fu : Nat) (s_0 : Str) : Nat → (List UInt8) → Int → Option (List UInt8)
  | 0, _, _ => none
  | a2 + 1, a1, a0 => (if a0 < (s_0.length : Int) then (gd (0 ≤ a0 ∧ a0 < (s_0.length : Int)) <| (if (at_ s_0 a0) = (37 : UInt8) then none else (gd (0 ≤ a0 ∧ a0 < (s_0.length : Int)) <| (gd ((a1.length + ([at_ s_0 a0] : List UInt8).length) * 1 ≤ 140737488355328) <| (gd (acw (a0 + (1 : Int))) <| (agn fu s_0 a2 (a1 ++ ([at_ s_0 a0] : List UInt8)) (a0 + (1 : Int)))))))) else some a1)
def akp (fu : Nat) (s_0 : Str) : Option (Str × Int × UInt8) :=
  (gd (0 ≤ (s_0.length : Int) ∧ (1 : Int) * (s_0.length : Int) ≤ 281474976710656) <| (((agn fu s_0 fu ([] : List UInt8) (0 : Int))).bind fun (a0 : List UInt8) => some (a0, (0 : Int), (0 : UInt8))))
def ajm (fu : Nat) (s_0 : Str) : Option Str :=
  ((akp fu s_0).bind fun (y1 : (Str × Int × UInt8)) => some y1.1)
def afl (fu : Nat) (a0 : UInt8) : Option Bool :=
  (((if (48 : UInt8) ≤ a0 then some (decide (a0 ≤ (57 : UInt8))) else some false)).bind fun (v5 : Bool) => some v5)
def aha (fu : Nat) (a0 : UInt8) : Option (UInt8 × Bool) :=
  ((afl fu a0).bind fun (y1 : Bool) => (bif y1 then some (a0 - (48 : UInt8), true) else (((if (97 : UInt8) ≤ a0 then some (decide (a0 ≤ (102 : UInt8))) else some false)).bind fun (a1 : Bool) => (bif a1 then some ((a0 - (97 : UInt8)) + (10 : UInt8), true) else (((if (65 : UInt8) ≤ a0 then some (decide (a0 ≤ (70 : UInt8))) else some false)).bind fun (a2 : Bool) => (bif a2 then some ((a0 - (65 : UInt8)) + (10 : UInt8), true) else some ((0 : UInt8), false)))))))
def act (fu : Nat) (a1 : List Str) (a2 : Int) : Nat → Int → Option (Unit ⊕ ((List Str) × Bool))
  | 0, _ => none
  | a3 + 1, a0 => (if a0 < ((el a1 a2).length : Int) then (gd (0 ≤ a0 ∧ a0 < ((el a1 a2).length : Int)) <| ((aha fu (at_ (el a1 a2) a0)).bind fun (a4 : (UInt8 × Bool)) => (bif (!a4.2) then some (.inr (([] : List Str), false)) else (gd (acw (a0 + (1 : Int))) <| (act fu a1 a2 a3 (a0 + (1 : Int))))))) else some (.inl ()))
def acu (fu : Nat) (s_0 : Str) : Nat → (List Str) → Int → Option ((List Str) ⊕ ((List Str) × Bool))
  | 0, _, _ => none
  | a3 + 1, a1, a0 => (if a0 < ((spl 58 s_0).length : Int) then (((gd (0 ≤ a0 ∧ a0 < (a1.length : Int)) <| (gd (0 ≤ a0 ∧ a0 < (a1.length : Int)) <| (((if ((el a1 a0).length : Int) < (1 : Int) then some true else some (decide ((4 : Int) < ((el a1 a0).length : Int))))).bind fun (a4 : Bool) => (bif a4 then some (.inr (([] : List Str), false)) else (((act fu a1 a0 fu (0 : Int))).bind fun (a5 : (Unit ⊕ ((List Str) × Bool))) => zaC (fun (a8 : Unit) => ((adh fu (el a1 a0)).bind fun (a2 : Str) => (gd (a2.length ≤ 1000000000) <| gd (([48] : Str).length ≤ 1000 ∧ ([48] : Str).all (fun b => decide (b.toNat < 128)) = true) <| (if (Lib.trimLeftS a2 ([48] : Str)) = ([] : Str) then (gd (0 ≤ a0 ∧ a0 < (a1.length : Int)) <| (gd (0 ≤ a0 ∧ a0 < (a1.length : Int)) <| some (.inl (zaf a1 (zac a0) ([48] : Str))))) else (gd (0 ≤ a0 ∧ a0 < (a1.length : Int)) <| (gd (0 ≤ a0 ∧ a0 < (a1.length : Int)) <| some (.inl (zaf a1 (zac a0) (Lib.trimLeftS a2 ([48] : Str)))))))))) (fun q => some (.inr q)) a5)))))).bind fun (a6 : ((List Str) ⊕ ((List Str) × Bool))) => zaC (fun (a7 : List Str) => (gd (acw (a0 + (1 : Int))) <| (acu fu s_0 a3 a7 (a0 + (1 : Int))))) (fun q => some (.inr q)) a6) else some (.inl a1))
def aeo (fu : Nat) (s_0 : Str) : Option ((List Str) × Bool) :=
  (gd (s_0.length ≤ 1000000000) <| (((acu fu s_0 fu (spl 58 s_0) (0 : Int))).bind fun (a0 : ((List Str) ⊕ ((List Str) × Bool))) => zaC (fun (a1 : List Str) => some (a1, true)) (fun q => some q) a0))
open Go.Lib renaming cut → zaB, index → zap, join → zax
open List renaming drop → zak, take → zas
def aih (fu : Nat) (s_0 : Str) : Option (Str × Bool) :=
  (if (39 : Int) < (s_0.length : Int) then some (([] : Str), false) else (gd (s_0.length ≤ 1000000000) <| (bif (!((zaB s_0 ([58, 58] : Str)).2.2)) then ((aeo fu s_0).bind fun (y7 : ((List Str) × Bool)) => (((gd (y7.1.length ≤ 1000000000 ∧ (zax y7.1 ([58] : Str)).length ≤ 100000000000) <| (bif y7.2 then some (decide ((y7.1.length : Int) = (8 : Int))) else some false))).bind fun (a4 : Bool) => some (zax y7.1 ([58] : Str), a4))) else (((if ((zaB s_0 ([58, 58] : Str)).1) = ([] : Str) then some (([] : List Str), true) else ((aeo fu ((zaB s_0 ([58, 58] : Str)).1)).bind fun (a2 : ((List Str) × Bool)) => some (a2.1, a2.2)))).bind fun (a0 : ((List Str) × Bool)) => (((if ((zaB s_0 ([58, 58] : Str)).2.1) = ([] : Str) then some (([] : List Str), true) else ((aeo fu ((zaB s_0 ([58, 58] : Str)).2.1)).bind fun (a3 : ((List Str) × Bool)) => some (a3.1, a3.2)))).bind fun (a1 : ((List Str) × Bool)) => (((bif (!a0.2) then some true else (bif (!a1.2) then some true else (gd (acw ((a0.1.length : Int) + (a1.1.length : Int))) <| some (decide ((7 : Int) < ((a0.1.length : Int) + (a1.1.length : Int)))))))).bind fun (a5 : Bool) => (bif a5 then some (([] : Str), false) else (gd (a0.1.length ≤ 1000000000 ∧ (zax a0.1 ([58] : Str)).length ≤ 100000000000) <| (gd ((zax a0.1 ([58] : Str)).length + ([58, 58] : Str).length ≤ 9223372036854775807) <| (gd (a1.1.length ≤ 1000000000 ∧ (zax a1.1 ([58] : Str)).length ≤ 100000000000) <| (gd (((zax a0.1 ([58] : Str)) ++ ([58, 58] : Str)).length + (zax a1.1 ([58] : Str)).length ≤ 9223372036854775807) <| some (((zax a0.1 ([58] : Str)) ++ ([58, 58] : Str)) ++ (zax a1.1 ([58] : Str)), true))))))))))))
def adt (fu : Nat) (s_0 : Str) (a1 : Int) : Nat → Int → Int → Option (Int ⊕ Bool)
  | 0, _, _ => none
  | a3 + 1, a2, a0 => (if a0 < ((el (spl 46 s_0) a1).length : Int) then (gd (0 ≤ a0 ∧ a0 < ((el (spl 46 s_0) a1).length : Int)) <| ((afl fu (at_ (el (spl 46 s_0) a1) a0)).bind fun (a4 : Bool) => (bif (!a4) then some (.inr false) else (gd (acw ((10 : Int) * a2)) <| (gd (0 ≤ a0 ∧ a0 < ((el (spl 46 s_0) a1).length : Int)) <| (gd (acw (((10 : Int) * a2) + (((at_ (el (spl 46 s_0) a1) a0) - (48 : UInt8)).toNat : Int))) <| (gd (acw (a0 + (1 : Int))) <| (adt fu s_0 a1 a3 (((10 : Int) * a2) + (((at_ (el (spl 46 s_0) a1) a0) - (48 : UInt8)).toNat : Int)) (a0 + (1 : Int)))))))))) else some (.inl a2))
def adu (fu : Nat) (s_0 : Str) : Nat → Int → Option (Unit ⊕ Bool)
  | 0, _ => none
  | a2 + 1, a0 => (if a0 < ((spl 46 s_0).length : Int) then (((gd (0 ≤ a0 ∧ a0 < ((spl 46 s_0).length : Int)) <| (gd (0 ≤ a0 ∧ a0 < ((spl 46 s_0).length : Int)) <| (((adt fu s_0 a0 fu (0 : Int) (0 : Int))).bind fun (a3 : (Int ⊕ Bool)) => zaC (fun (a1 : Int) => (((if (el (spl 46 s_0) a0) = ([] : Str) then some true else (if (255 : Int) < a1 then some true else (gd (acw a1) <| some (!decide ((el (spl 46 s_0) a0) = (Lib.itoa a1))))))).bind fun (a4 : Bool) => (bif a4 then some (.inr false) else some (.inl ())))) (fun q => some (.inr q)) a3)))).bind fun (a5 : (Unit ⊕ Bool)) => zaC (fun (a6 : Unit) => (gd (acw (a0 + (1 : Int))) <| (adu fu s_0 a2 (a0 + (1 : Int))))) (fun q => some (.inr q)) a5) else some (.inl ()))
def ahr (fu : Nat) (s_0 : Str) : Option Bool :=
  (if (15 : Int) < (s_0.length : Int) then some false else (gd (s_0.length ≤ 1000000000) <| (((adu fu s_0 fu (0 : Int))).bind fun (a0 : (Unit ⊕ Bool)) => zaC (fun (a1 : Unit) => some (decide (((spl 46 s_0).length : Int) = (4 : Int)))) (fun q => some q) a0)))
def air (fu : Nat) (s_0 : Str) (a0 : Str) (a1 : Int) : Option (Str × Str × Int) :=
  some (a0, s_0, a1)
def ais (fu : Nat) (s_0 : Str) (a0 : Str) : Option (Str × Str × Int) :=
  ((air fu s_0 a0 (0 : Int)).bind fun (y1 : (Str × Str × Int)) => some (y1.1, y1.2.1, y1.2.2))
def abu (fu : Nat) (a1 : Str) (a2 : Bool) : Nat → Int → Bool → Option ((Nat × Bool × Bool))
  | 0, _, _ => none
  | a4 + 1, a0, a3 => (if a0 < (a1.length : Int) then (gd (0 ≤ a0 ∧ a0 < (a1.length : Int)) <| ((((agr fu (at_ a1 a0)).bind fun (a5 : Bool) => (bif (!a5) then ((afl fu (at_ a1 a0)).bind fun (a6 : Bool) => (bif (!a6) then some (!decide ((at_ a1 a0) = (45 : UInt8))) else some false)) else some false))).bind fun (a7 : Bool) => (bif a7 then some (1, a3, false) else (bif a3 then (gd (acw (a0 + (1 : Int))) <| (abu fu a1 a2 a4 (a0 + (1 : Int)) true)) else ((afl fu (at_ a1 a0)).bind fun (a8 : Bool) => (gd (acw (a0 + (1 : Int))) <| (abu fu a1 a2 a4 (a0 + (1 : Int)) (!a8)))))))) else some (0, a3, a2))
def adx (fu : Nat) (a0 : Str) (a1 : Bool) (a2 : Bool) : Option (Nat × Bool × Bool) :=
  (((if (a0.length : Int) < (1 : Int) then some true else (if (63 : Int) < (a0.length : Int) then some true else (gd (0 ≤ (0 : Int) ∧ (0 : Int) < (a0.length : Int)) <| (if (at_ a0 (0 : Int)) = (45 : UInt8) then some true else (gd (acw ((a0.length : Int) - (1 : Int))) <| (gd (0 ≤ ((a0.length : Int) - (1 : Int)) ∧ ((a0.length : Int) - (1 : Int)) < (a0.length : Int)) <| some (decide ((at_ a0 ((a0.length : Int) - (1 : Int))) = (45 : UInt8)))))))))).bind fun (a3 : Bool) => (bif a3 then some (1, a1, false) else (abu fu a0 a2 fu (0 : Int) a1)))
def adz (fu : Nat) (a0 : Str) : Nat → Option Unit
  | 0 => none
  | a1 + 1 => (if (0 : Int) < (a0.length : Int) then none else some ())
def abd (fu : Nat) (a1 : Str) (a3 : Int) : Nat → Bool → Bool → Str → Option ((Bool × Bool × Str) ⊕ (Bool × Bool × Str × Nat))
  | 0, _, _, _ => none
  | a6 + 1, a4, a5, a0 => (gd (a0.length ≤ 1000000000) <| (if (zap a0 a1) < (0 : Int) then some (.inl (a4, a5, a0)) else (gd (acw ((zap a0 a1) + a3)) <| (gd (0 ≤ ((zap a0 a1) + a3) ∧ ((zap a0 a1) + a3) ≤ (a0.length : Int)) <| ((adx fu (zas (zac ((zap a0 a1) + a3)) a0) a4 a5).bind fun (a2 : (Nat × Bool × Bool)) => (if a2.1 = 0 then (gd (acw ((zap a0 a1) + (a1.length : Int))) <| (gd (0 ≤ ((zap a0 a1) + (a1.length : Int)) ∧ ((zap a0 a1) + (a1.length : Int)) ≤ (a0.length : Int)) <| (abd fu a1 a3 a6 a2.2.1 a2.2.2 (zak (zac ((zap a0 a1) + (a1.length : Int))) a0)))) else some (.inr (a2.2.1, a2.2.2, a0, a2.1))))))))
def adj (fu : Nat) (a3 : Bool) (a4 : Bool) (a5 : Str) (a2 : Str) (a6 : Int) : Option (Bool × Bool × Str × Nat) :=
  (((if (a5.length : Int) = (0 : Int) then (((adz fu a2 fu)).bind fun (a9 : Unit) => some (.inr (a3, a4, a2, 0))) else some (.inl ()))).bind fun (a7 : (Unit ⊕ (Bool × Bool × Str × Nat))) => zaC (fun (b0 : Unit) => (((abd fu a5 a6 fu a3 a4 a2)).bind fun (a8 : ((Bool × Bool × Str) ⊕ (Bool × Bool × Str × Nat))) => zaC (fun (a1 : (Bool × Bool × Str)) => ((adx fu a1.2.2 a1.1 a1.2.1).bind fun (a0 : (Nat × Bool × Bool)) => (if a0.1 = 0 then some (a0.2.1, a0.2.2, a1.2.2, 0) else some (a0.2.1, a0.2.2, a1.2.2, a0.1)))) (fun q => some q) a8)) (fun q => some q) a7)
def ajc (fu : Nat) (s_0 : Str) : Option Bool :=
  (((if (s_0.length : Int) < (1 : Int) then some true else some (decide ((255 : Int) < (s_0.length : Int))))).bind fun (v8 : Bool) => (bif v8 then some false else ((ais fu s_0 ([46] : Str)).bind fun (a1 : (Str × Str × Int)) => ((adj fu false false a1.1 a1.2.1 a1.2.2).bind fun (a0 : (Bool × Bool × Str × Nat)) => (if a0.2.2.2 = 0 then some a0.1 else (if a0.2.2.2 = 1 then some a0.2.1 else none))))))
def aft (fu : Nat) (s_0 : Str) : Option (Str × Bool) :=
  (((if (2 : Int) ≤ (s_0.length : Int) then (gd (0 ≤ (0 : Int) ∧ (0 : Int) < (s_0.length : Int)) <| (if (at_ s_0 (0 : Int)) = (91 : UInt8) then (gd (acw ((s_0.length : Int) - (1 : Int))) <| (gd (0 ≤ ((s_0.length : Int) - (1 : Int)) ∧ ((s_0.length : Int) - (1 : Int)) < (s_0.length : Int)) <| some (decide ((at_ s_0 ((s_0.length : Int) - (1 : Int))) = (93 : UInt8))))) else some false)) else some false)).bind fun (v9 : Bool) => (bif v9 then (gd (acw ((s_0.length : Int) - (1 : Int))) <| (gd (0 ≤ (1 : Int) ∧ (1 : Int) ≤ ((s_0.length : Int) - (1 : Int)) ∧ ((s_0.length : Int) - (1 : Int)) ≤ (s_0.length : Int)) <| ((aih fu (sub s_0 (1 : Int) ((s_0.length : Int) - (1 : Int)))).bind fun (a0 : (Str × Bool)) => (bif (!a0.2) then some (([] : Str), false) else (gd (([91] : Str).length + a0.1.length ≤ 9223372036854775807) <| (gd ((([91] : Str) ++ a0.1).length + ([93] : Str).length ≤ 9223372036854775807) <| some ((([91] : Str) ++ a0.1) ++ ([93] : Str), true))))))) else ((ahr fu s_0).bind fun (a1 : Bool) => (bif a1 then some (s_0, true) else ((ajc fu s_0).bind fun (a2 : Bool) => (bif a2 then ((adh fu s_0).bind fun (a3 : Str) => some (a3, true)) else some (([] : Str), false)))))))
def aim (fu : Nat) (a0 : (Str × Int)) (a3 : (Str × Str × Str × Int × (List PQ) × (List PQ))) : Option (Int × UInt8 × (Str × Int) × (Str × Str × Str × Int × (List PQ) × (List PQ))) :=
  (((gd (0 ≤ a0.2 ∧ a0.2 ≤ (a0.1.length : Int)) <| (if (0 : Int) ≤ (ixb (· == (64 : UInt8)) (zak (zac a0.2) a0.1)) then (gd (acw (a0.2 + (ixb (· == (64 : UInt8)) (zak (zac a0.2) a0.1)))) <| ((agm fu a0 (a0.2 + (ixb (· == (64 : UInt8)) (zak (zac a0.2) a0.1))) (0 : Int)).bind fun (a5 : (Int × Bool)) => (bif a5.2 then none else (if (ixb (· == (64 : UInt8)) (zak (zac a0.2) a0.1)) = (0 : Int) then none else (gd (0 ≤ a0.2 ∧ a0.2 ≤ (a0.2 + (ixb (· == (64 : UInt8)) (zak (zac a0.2) a0.1))) ∧ (a0.2 + (ixb (· == (64 : UInt8)) (zak (zac a0.2) a0.1))) ≤ (a0.1.length : Int)) <| ((ajm fu (sub a0.1 a0.2 (a0.2 + (ixb (· == (64 : UInt8)) (zak (zac a0.2) a0.1))))).bind fun (a6 : Str) => (gd (acw ((a0.2 + (ixb (· == (64 : UInt8)) (zak (zac a0.2) a0.1))) + (1 : Int))) <| some ((a0.2 + (ixb (· == (64 : UInt8)) (zak (zac a0.2) a0.1))) + (1 : Int), a6)))))))) else some (a0.2, a3.2.1)))).bind fun (a2 : (Int × Str)) => ((aee fu a0.1 a2.1 ([58, 59, 63] : Str)).bind fun (a1 : Int) => ((abk fu (a0.1, a2.1) (91 : UInt8)).bind fun (a7 : Bool) => (bif a7 then none else (gd (0 ≤ a2.1 ∧ a2.1 ≤ a1 ∧ a1 ≤ (a0.1.length : Int)) <| ((aft fu (sub a0.1 a2.1 a1)).bind fun (a4 : (Str × Bool)) => (bif (!a4.2) then none else ((abk fu (a0.1, a1) (58 : UInt8)).bind fun (a8 : Bool) => (bif a8 then none else ((((aei fu (a0.1, a1)).bind fun (a9 : Bool) => (bif (!a9) then ((abk fu (a0.1, a1) (59 : UInt8)).bind fun (b0 : Bool) => (bif (!b0) then none else some ())) else some ()))).bind fun (b1 : Unit) => some ((0 : Int), (0 : UInt8), (a0.1, a1), (a3.1, a2.2, a4.1, a3.2.2.2.1, a3.2.2.2.2.1, a3.2.2.2.2.2))))))))))))
def ahs (fu : Nat) (a0 : PQ) (a1 : Str) : Option Bool :=
  some (decide (a0.1 = a1))
def aav (fu : Nat) (s_0 : List PQ) (a1 : Str) : Nat → Int → Option (Unit ⊕ Int)
  | 0, _ => none
  | a2 + 1, a0 => (if a0 < (s_0.length : Int) then (gd (0 ≤ a0 ∧ a0 < (s_0.length : Int)) <| (gd (0 ≤ a0 ∧ a0 < (s_0.length : Int)) <| ((ahs fu ((el s_0 a0).1, (el s_0 a0).2.1, ((el s_0 a0).2.2)) a1).bind fun (a3 : Bool) => (bif a3 then some (.inr a0) else (gd (acw (a0 + (1 : Int))) <| (aav fu s_0 a1 a2 (a0 + (1 : Int)))))))) else some (.inl ()))
def ada (fu : Nat) (s_0 : List PQ) (a0 : Str) : Option Int :=
  (((aav fu s_0 a0 fu (0 : Int))).bind fun (a1 : (Unit ⊕ Int)) => zaC (fun (a2 : Unit) => some (-1 : Int)) (fun q => some q) a1)
def acs (fu : Nat) (s_0 : List PQ) (a0 : Str) : Option Bool :=
  ((ada fu s_0 a0).bind fun (y1 : Int) => some (decide ((0 : Int) ≤ y1)))
def agk (fu : Nat) (a0 : List PQ) (a1 : Str) : Option Bool :=
  ((acs fu a0 a1).bind fun (y4 : Bool) => some y4)
def aik (fu : Nat) (a0 : List PQ) (a1 : Str) : Option UInt8 :=
  ((agk fu a0 a1).bind fun (y1 : Bool) => (bif y1 then some (7 : UInt8) else (if (16 : Int) ≤ (a0.length : Int) then some (4 : UInt8) else some (0 : UInt8))))
def ain (fu : Nat) (a0 : (Str × Int)) (a2 : List PQ) (a1 : Int) (a4 : Int) : Option ((List PQ) × Int × UInt8 × (Str × Int)) :=
  (gd (0 ≤ a0.2 ∧ a0.2 ≤ a1 ∧ a1 ≤ (a0.1.length : Int)) <| (if (0 : Int) ≤ (ixb (· == (61 : UInt8)) (sub a0.1 a0.2 a1)) then none else ((agm fu a0 a1 a4).bind fun (y7 : (Int × Bool)) => (bif y7.2 then none else (if a1 = a0.2 then none else (gd (0 ≤ a0.2 ∧ a0.2 ≤ a1 ∧ a1 ≤ (a0.1.length : Int)) <| ((ajm fu (sub a0.1 a0.2 a1)).bind fun (a5 : Str) => ((adh fu a5).bind fun (a3 : Str) => (if (0 : Int) ≤ (ixb (· == (61 : UInt8)) (sub a0.1 a0.2 a1)) then none else (if a4 = (2 : Int) then none else ((aik fu a2 a3).bind fun (a6 : UInt8) => (if a6 = (0 : UInt8) then (gd ((a2.length + ([(a3, ([] : Str), (decide ((0 : Int) ≤ (ixb (· == (61 : UInt8)) (sub a0.1 a0.2 a1)))))] : List PQ).length) * 40 ≤ 140737488355328) <| some (a2 ++ ([(a3, ([] : Str), (decide ((0 : Int) ≤ (ixb (· == (61 : UInt8)) (sub a0.1 a0.2 a1)))))] : List PQ), (0 : Int), (0 : UInt8), (a0.1, a1))) else none))))))))))))
def agz (fu : Nat) (a0 : Str) : Option Bool :=
  some (!decide (a0 = a0))
open Go.IntKind renaming wrap → zaa
open Go.Op renaming bytesLess → zay
def agb (fu : Nat) (a0 : Str) (a1 : Str) : Option Int :=
  ((agz fu a0).bind fun (y1 : Bool) => ((agz fu a1).bind fun (y6 : Bool) => (bif y1 then (bif y6 then some (0 : Int) else some (-1 : Int)) else (bif y6 then some (1 : Int) else (bif (zay a0 a1) then some (-1 : Int) else (bif (!(zay a0 a1 || a0 == a1)) then some (1 : Int) else some (0 : Int)))))))
def afy (fu : Nat) (a0 : PQ) (a1 : PQ) : Option Int :=
  ((agb fu a0.1 a1.1).bind fun (y7 : Int) => some y7)
def abq (fu : Nat) (a2 : Int) : Nat → (List PQ) → Int → Option (List PQ)
  | 0, _, _ => none
  | a3 + 1, a1, a0 => (((if a2 < a0 then (gd (0 ≤ a0 ∧ a0 < (a1.length : Int)) <| (gd (0 ≤ a0 ∧ a0 < (a1.length : Int)) <| (gd (acw (a0 - (1 : Int))) <| (gd (0 ≤ (a0 - (1 : Int)) ∧ (a0 - (1 : Int)) < (a1.length : Int)) <| (gd (0 ≤ (a0 - (1 : Int)) ∧ (a0 - (1 : Int)) < (a1.length : Int)) <| ((afy fu ((el a1 a0).1, (el a1 a0).2.1, ((el a1 a0).2.2)) ((el a1 (a0 - (1 : Int))).1, (el a1 (a0 - (1 : Int))).2.1, ((el a1 (a0 - (1 : Int))).2.2))).bind fun (a4 : Int) => some (decide (a4 < (0 : Int))))))))) else some false)).bind fun (a5 : Bool) => (bif a5 then (gd (acw (a0 - (1 : Int))) <| (gd (acw (a0 - (1 : Int))) <| (gd (0 ≤ (a0 - (1 : Int)) ∧ (a0 - (1 : Int)) < (a1.length : Int)) <| (gd (0 ≤ (a0 - (1 : Int)) ∧ (a0 - (1 : Int)) < (a1.length : Int)) <| (gd (0 ≤ a0 ∧ a0 < (a1.length : Int)) <| (gd (0 ≤ a0 ∧ a0 < (a1.length : Int)) <| (gd (0 ≤ a0 ∧ a0 < (a1.length : Int)) <| (gd (0 ≤ a0 ∧ a0 < (a1.length : Int)) <| (gd (0 ≤ (a0 - (1 : Int)) ∧ (a0 - (1 : Int)) < ((zaf a1 (zac a0) ((el a1 (a0 - (1 : Int))).1, (el a1 (a0 - (1 : Int))).2.1, ((el a1 (a0 - (1 : Int))).2.2))).length : Int)) <| (gd (0 ≤ (a0 - (1 : Int)) ∧ (a0 - (1 : Int)) < ((zaf a1 (zac a0) ((el a1 (a0 - (1 : Int))).1, (el a1 (a0 - (1 : Int))).2.1, ((el a1 (a0 - (1 : Int))).2.2))).length : Int)) <| (gd (acw (a0 - (1 : Int))) <| (abq fu a2 a3 (zaf (zaf a1 (zac a0) ((el a1 (a0 - (1 : Int))).1, (el a1 (a0 - (1 : Int))).2.1, ((el a1 (a0 - (1 : Int))).2.2))) (zac (a0 - (1 : Int))) ((el a1 a0).1, (el a1 a0).2.1, ((el a1 a0).2.2))) (a0 - (1 : Int)))))))))))))) else some a1))
def abr (fu : Nat) (a1 : Int) (a2 : Int) : Nat → (List PQ) → Int → Option (List PQ)
  | 0, _, _ => none
  | a4 + 1, a3, a0 => (if a0 < a2 then (((abq fu a1 fu a3 a0)).bind fun (a5 : List PQ) => (gd (acw (a0 + (1 : Int))) <| (abr fu a1 a2 a4 a5 (a0 + (1 : Int))))) else some a3)
def abz (fu : Nat) (a1 : List PQ) (a0 : Int) (a2 : Int) : Option (List PQ) :=
  (gd (acw (a0 + (1 : Int))) <| (abr fu a0 a2 fu a1 (a0 + (1 : Int))))
def aby (fu : Nat) (a3 : Int) (a2 : Int) (a4 : Int) : Nat → (List PQ) → Int → Option (List PQ)
  | 0, _, _ => none
  | a5 + 1, a1, a0 => (if a0 < a4 then (gd (acw (a3 + a0)) <| (gd (acw (a2 + a0)) <| (gd (acw (a2 + a0)) <| (gd (0 ≤ (a2 + a0) ∧ (a2 + a0) < (a1.length : Int)) <| (gd (0 ≤ (a2 + a0) ∧ (a2 + a0) < (a1.length : Int)) <| (gd (acw (a3 + a0)) <| (gd (0 ≤ (a3 + a0) ∧ (a3 + a0) < (a1.length : Int)) <| (gd (0 ≤ (a3 + a0) ∧ (a3 + a0) < (a1.length : Int)) <| (gd (0 ≤ (a3 + a0) ∧ (a3 + a0) < (a1.length : Int)) <| (gd (0 ≤ (a3 + a0) ∧ (a3 + a0) < (a1.length : Int)) <| (gd (0 ≤ (a2 + a0) ∧ (a2 + a0) < ((zaf a1 (zac (a3 + a0)) ((el a1 (a2 + a0)).1, (el a1 (a2 + a0)).2.1, ((el a1 (a2 + a0)).2.2))).length : Int)) <| (gd (0 ≤ (a2 + a0) ∧ (a2 + a0) < ((zaf a1 (zac (a3 + a0)) ((el a1 (a2 + a0)).1, (el a1 (a2 + a0)).2.1, ((el a1 (a2 + a0)).2.2))).length : Int)) <| (gd (acw (a0 + (1 : Int))) <| (aby fu a3 a2 a4 a5 (zaf (zaf a1 (zac (a3 + a0)) ((el a1 (a2 + a0)).1, (el a1 (a2 + a0)).2.1, ((el a1 (a2 + a0)).2.2))) (zac (a2 + a0)) ((el a1 (a3 + a0)).1, (el a1 (a3 + a0)).2.1, ((el a1 (a3 + a0)).2.2))) (a0 + (1 : Int)))))))))))))))) else some a1)
def abo (fu : Nat) (a0 : List PQ) (a1 : Int) (a2 : Int) (a3 : Int) : Option (List PQ) :=
  (aby fu a1 a2 a3 fu a0 (0 : Int))
def abn (fu : Nat) (a2 : Int) : Nat → (List PQ) → Int → Int → Option ((List PQ) × Int)
  | 0, _, _, _ => none
  | a4 + 1, a3, a0, a1 => (if a0 = a1 then some (a3, a0) else (if a1 < a0 then (gd (acw (a2 - a0)) <| ((abo fu a3 (a2 - a0) a2 a1).bind fun (a5 : List PQ) => (gd (acw (a0 - a1)) <| (abn fu a2 a4 a5 (a0 - a1) a1)))) else (gd (acw (a2 - a0)) <| (gd (acw (a2 + a1)) <| (gd (acw ((a2 + a1) - a0)) <| ((abo fu a3 (a2 - a0) ((a2 + a1) - a0) a0).bind fun (a6 : List PQ) => (gd (acw (a1 - a0)) <| (abn fu a2 a4 a6 a0 (a1 - a0)))))))))
def adr (fu : Nat) (a4 : List PQ) (a2 : Int) (a0 : Int) (a3 : Int) : Option (List PQ) :=
  (gd (acw (a0 - a2)) <| (gd (acw (a3 - a0)) <| (((abn fu a0 fu a4 (a0 - a2) (a3 - a0))).bind fun (a1 : ((List PQ) × Int)) => (gd (acw (a0 - a1.2)) <| ((abo fu a1.1 (a0 - a1.2) a0 a1.2).bind fun (a5 : List PQ) => some a5)))))
def abj (fu : Nat) (a2 : List PQ) (a3 : Int) : Nat → Int → Int → Option Int
  | 0, _, _ => none
  | a4 + 1, a0, a1 => (if a0 < a1 then (gd (acw (a0 + a1)) <| (gd (0 ≤ (zaa .i64 ((zaa .u64 (a0 + a1)) / 2)) ∧ (zaa .i64 ((zaa .u64 (a0 + a1)) / 2)) < (a2.length : Int)) <| (gd (0 ≤ (zaa .i64 ((zaa .u64 (a0 + a1)) / 2)) ∧ (zaa .i64 ((zaa .u64 (a0 + a1)) / 2)) < (a2.length : Int)) <| (gd (0 ≤ a3 ∧ a3 < (a2.length : Int)) <| (gd (0 ≤ a3 ∧ a3 < (a2.length : Int)) <| ((afy fu ((el a2 (zaa .i64 ((zaa .u64 (a0 + a1)) / 2))).1, (el a2 (zaa .i64 ((zaa .u64 (a0 + a1)) / 2))).2.1, ((el a2 (zaa .i64 ((zaa .u64 (a0 + a1)) / 2))).2.2)) ((el a2 a3).1, (el a2 a3).2.1, ((el a2 a3).2.2))).bind fun (a5 : Int) => (if a5 < (0 : Int) then (gd (acw ((zaa .i64 ((zaa .u64 (a0 + a1)) / 2)) + (1 : Int))) <| (abj fu a2 a3 a4 ((zaa .i64 ((zaa .u64 (a0 + a1)) / 2)) + (1 : Int)) a1)) else (abj fu a2 a3 a4 a0 (zaa .i64 ((zaa .u64 (a0 + a1)) / 2)))))))))) else some a0)
def acd (fu : Nat) (a2 : Int) : Nat → (List PQ) → Int → Option (List PQ)
  | 0, _, _ => none
  | a3 + 1, a1, a0 => (gd (acw (a2 - (1 : Int))) <| (if a0 < (a2 - (1 : Int)) then (gd (acw (a0 + (1 : Int))) <| (gd (acw (a0 + (1 : Int))) <| (gd (0 ≤ (a0 + (1 : Int)) ∧ (a0 + (1 : Int)) < (a1.length : Int)) <| (gd (0 ≤ (a0 + (1 : Int)) ∧ (a0 + (1 : Int)) < (a1.length : Int)) <| (gd (0 ≤ a0 ∧ a0 < (a1.length : Int)) <| (gd (0 ≤ a0 ∧ a0 < (a1.length : Int)) <| (gd (0 ≤ a0 ∧ a0 < (a1.length : Int)) <| (gd (0 ≤ a0 ∧ a0 < (a1.length : Int)) <| (gd (0 ≤ (a0 + (1 : Int)) ∧ (a0 + (1 : Int)) < ((zaf a1 (zac a0) ((el a1 (a0 + (1 : Int))).1, (el a1 (a0 + (1 : Int))).2.1, ((el a1 (a0 + (1 : Int))).2.2))).length : Int)) <| (gd (0 ≤ (a0 + (1 : Int)) ∧ (a0 + (1 : Int)) < ((zaf a1 (zac a0) ((el a1 (a0 + (1 : Int))).1, (el a1 (a0 + (1 : Int))).2.1, ((el a1 (a0 + (1 : Int))).2.2))).length : Int)) <| (gd (acw (a0 + (1 : Int))) <| (acd fu a2 a3 (zaf (zaf a1 (zac a0) ((el a1 (a0 + (1 : Int))).1, (el a1 (a0 + (1 : Int))).2.1, ((el a1 (a0 + (1 : Int))).2.2))) (zac (a0 + (1 : Int))) ((el a1 a0).1, (el a1 a0).2.1, ((el a1 a0).2.2))) (a0 + (1 : Int)))))))))))))) else some a1))
def abi (fu : Nat) (a2 : List PQ) (a3 : Int) : Nat → Int → Int → Option Int
  | 0, _, _ => none
  | a4 + 1, a0, a1 => (if a0 < a1 then (gd (acw (a0 + a1)) <| (gd (0 ≤ a3 ∧ a3 < (a2.length : Int)) <| (gd (0 ≤ a3 ∧ a3 < (a2.length : Int)) <| (gd (0 ≤ (zaa .i64 ((zaa .u64 (a0 + a1)) / 2)) ∧ (zaa .i64 ((zaa .u64 (a0 + a1)) / 2)) < (a2.length : Int)) <| (gd (0 ≤ (zaa .i64 ((zaa .u64 (a0 + a1)) / 2)) ∧ (zaa .i64 ((zaa .u64 (a0 + a1)) / 2)) < (a2.length : Int)) <| ((afy fu ((el a2 a3).1, (el a2 a3).2.1, ((el a2 a3).2.2)) ((el a2 (zaa .i64 ((zaa .u64 (a0 + a1)) / 2))).1, (el a2 (zaa .i64 ((zaa .u64 (a0 + a1)) / 2))).2.1, ((el a2 (zaa .i64 ((zaa .u64 (a0 + a1)) / 2))).2.2))).bind fun (a5 : Int) => (if a5 < (0 : Int) then (abi fu a2 a3 a4 a0 (zaa .i64 ((zaa .u64 (a0 + a1)) / 2))) else (gd (acw ((zaa .i64 ((zaa .u64 (a0 + a1)) / 2)) + (1 : Int))) <| (abi fu a2 a3 a4 ((zaa .i64 ((zaa .u64 (a0 + a1)) / 2)) + (1 : Int)) a1))))))))) else some a0)
def acb (fu : Nat) (a2 : Int) : Nat → (List PQ) → Int → Option (List PQ)
  | 0, _, _ => none
  | a3 + 1, a1, a0 => (if a2 < a0 then (gd (acw (a0 - (1 : Int))) <| (gd (acw (a0 - (1 : Int))) <| (gd (0 ≤ (a0 - (1 : Int)) ∧ (a0 - (1 : Int)) < (a1.length : Int)) <| (gd (0 ≤ (a0 - (1 : Int)) ∧ (a0 - (1 : Int)) < (a1.length : Int)) <| (gd (0 ≤ a0 ∧ a0 < (a1.length : Int)) <| (gd (0 ≤ a0 ∧ a0 < (a1.length : Int)) <| (gd (0 ≤ a0 ∧ a0 < (a1.length : Int)) <| (gd (0 ≤ a0 ∧ a0 < (a1.length : Int)) <| (gd (0 ≤ (a0 - (1 : Int)) ∧ (a0 - (1 : Int)) < ((zaf a1 (zac a0) ((el a1 (a0 - (1 : Int))).1, (el a1 (a0 - (1 : Int))).2.1, ((el a1 (a0 - (1 : Int))).2.2))).length : Int)) <| (gd (0 ≤ (a0 - (1 : Int)) ∧ (a0 - (1 : Int)) < ((zaf a1 (zac a0) ((el a1 (a0 - (1 : Int))).1, (el a1 (a0 - (1 : Int))).2.1, ((el a1 (a0 - (1 : Int))).2.2))).length : Int)) <| (gd (acw (a0 - (1 : Int))) <| (acb fu a2 a3 (zaf (zaf a1 (zac a0) ((el a1 (a0 - (1 : Int))).1, (el a1 (a0 - (1 : Int))).2.1, ((el a1 (a0 - (1 : Int))).2.2))) (zac (a0 - (1 : Int))) ((el a1 a0).1, (el a1 a0).2.1, ((el a1 a0).2.2))) (a0 - (1 : Int)))))))))))))) else some a1)
def abh (fu : Nat) (a2 : List PQ) (a3 : Int) (a4 : Int) (a5 : Int) : Nat → Int → Int → Option Int
  | 0, _, _ => none
  | a6 + 1, a0, a1 => (if a0 < a1 then (gd (acw (a0 + a1)) <| (gd (acw ((((zaa .i64 ((zaa .u64 (a3 + a5)) / 2)) + a4) - (1 : Int)) - (zaa .i64 ((zaa .u64 (a0 + a1)) / 2)))) <| (gd (0 ≤ ((((zaa .i64 ((zaa .u64 (a3 + a5)) / 2)) + a4) - (1 : Int)) - (zaa .i64 ((zaa .u64 (a0 + a1)) / 2))) ∧ ((((zaa .i64 ((zaa .u64 (a3 + a5)) / 2)) + a4) - (1 : Int)) - (zaa .i64 ((zaa .u64 (a0 + a1)) / 2))) < (a2.length : Int)) <| (gd (0 ≤ ((((zaa .i64 ((zaa .u64 (a3 + a5)) / 2)) + a4) - (1 : Int)) - (zaa .i64 ((zaa .u64 (a0 + a1)) / 2))) ∧ ((((zaa .i64 ((zaa .u64 (a3 + a5)) / 2)) + a4) - (1 : Int)) - (zaa .i64 ((zaa .u64 (a0 + a1)) / 2))) < (a2.length : Int)) <| (gd (0 ≤ (zaa .i64 ((zaa .u64 (a0 + a1)) / 2)) ∧ (zaa .i64 ((zaa .u64 (a0 + a1)) / 2)) < (a2.length : Int)) <| (gd (0 ≤ (zaa .i64 ((zaa .u64 (a0 + a1)) / 2)) ∧ (zaa .i64 ((zaa .u64 (a0 + a1)) / 2)) < (a2.length : Int)) <| ((afy fu ((el a2 ((((zaa .i64 ((zaa .u64 (a3 + a5)) / 2)) + a4) - (1 : Int)) - (zaa .i64 ((zaa .u64 (a0 + a1)) / 2)))).1, (el a2 ((((zaa .i64 ((zaa .u64 (a3 + a5)) / 2)) + a4) - (1 : Int)) - (zaa .i64 ((zaa .u64 (a0 + a1)) / 2)))).2.1, ((el a2 ((((zaa .i64 ((zaa .u64 (a3 + a5)) / 2)) + a4) - (1 : Int)) - (zaa .i64 ((zaa .u64 (a0 + a1)) / 2)))).2.2)) ((el a2 (zaa .i64 ((zaa .u64 (a0 + a1)) / 2))).1, (el a2 (zaa .i64 ((zaa .u64 (a0 + a1)) / 2))).2.1, ((el a2 (zaa .i64 ((zaa .u64 (a0 + a1)) / 2))).2.2))).bind fun (a7 : Int) => (if a7 < (0 : Int) then (abh fu a2 a3 a4 a5 a6 a0 (zaa .i64 ((zaa .u64 (a0 + a1)) / 2))) else (gd (acw ((zaa .i64 ((zaa .u64 (a0 + a1)) / 2)) + (1 : Int))) <| (abh fu a2 a3 a4 a5 a6 ((zaa .i64 ((zaa .u64 (a0 + a1)) / 2)) + (1 : Int)) a1)))))))))) else some a0)
def abe : Nat → (List PQ) → Int → Int → Int → Option (List PQ)
  | 0, _, _, _, _ => none
  | fu + 1, a4, a0, a2, a1 => (((gd (acw (a2 - a0)) <| (if (a2 - a0) = (1 : Int) then (((abj fu a4 a0 fu a2 a1)).bind fun (a8 : Int) => (((acd fu a8 fu a4 a0)).bind fun (a9 : List PQ) => some (.inr a9))) else some (.inl ())))).bind fun (b0 : (Unit ⊕ (List PQ))) => zaC (fun (c0 : Unit) => (((gd (acw (a1 - a2)) <| (if (a1 - a2) = (1 : Int) then (((abi fu a4 a2 fu a0 a2)).bind fun (b1 : Int) => (((acb fu b1 fu a4 a2)).bind fun (b2 : List PQ) => some (.inr b2))) else some (.inl ())))).bind fun (b3 : (Unit ⊕ (List PQ))) => zaC (fun (c1 : Unit) => (gd (acw (a0 + a1)) <| (gd (acw ((zaa .i64 ((zaa .u64 (a0 + a1)) / 2)) + a2)) <| (((if (zaa .i64 ((zaa .u64 (a0 + a1)) / 2)) < a2 then (gd (acw (((zaa .i64 ((zaa .u64 (a0 + a1)) / 2)) + a2) - a1)) <| some (((zaa .i64 ((zaa .u64 (a0 + a1)) / 2)) + a2) - a1, zaa .i64 ((zaa .u64 (a0 + a1)) / 2))) else some (a0, a2))).bind fun (a5 : (Int × Int)) => (gd (acw (((zaa .i64 ((zaa .u64 (a0 + a1)) / 2)) + a2) - (1 : Int))) <| (((abh fu a4 a0 a2 a1 fu a5.1 a5.2)).bind fun (a3 : Int) => (gd (acw (((zaa .i64 ((zaa .u64 (a0 + a1)) / 2)) + a2) - a3)) <| (((((if a3 < a2 then some (decide (a2 < (((zaa .i64 ((zaa .u64 (a0 + a1)) / 2)) + a2) - a3))) else some false)).bind fun (b4 : Bool) => (bif b4 then ((adr fu a4 a3 a2 (((zaa .i64 ((zaa .u64 (a0 + a1)) / 2)) + a2) - a3)).bind fun (b5 : List PQ) => some b5) else some a4))).bind fun (a6 : List PQ) => (((((if a0 < a3 then some (decide (a3 < (zaa .i64 ((zaa .u64 (a0 + a1)) / 2)))) else some false)).bind fun (b6 : Bool) => (bif b6 then ((abe fu a6 a0 a3 (zaa .i64 ((zaa .u64 (a0 + a1)) / 2))).bind fun (b7 : List PQ) => some b7) else some a6))).bind fun (a7 : List PQ) => (((if (zaa .i64 ((zaa .u64 (a0 + a1)) / 2)) < (((zaa .i64 ((zaa .u64 (a0 + a1)) / 2)) + a2) - a3) then some (decide ((((zaa .i64 ((zaa .u64 (a0 + a1)) / 2)) + a2) - a3) < a1)) else some false)).bind fun (b8 : Bool) => (bif b8 then ((abe fu a7 (zaa .i64 ((zaa .u64 (a0 + a1)) / 2)) (((zaa .i64 ((zaa .u64 (a0 + a1)) / 2)) + a2) - a3) a1).bind fun (b9 : List PQ) => some b9) else some a7))))))))))) (fun q => some q) b3)) (fun q => some q) b0)
def acj (fu : Nat) (a1 : Int) : Nat → (List PQ) → Int → Int → Option ((List PQ) × Int)
  | 0, _, _, _ => none
  | a4 + 1, a2, a3, a0 => (if a0 ≤ a1 then ((abz fu a2 a3 a0).bind fun (a5 : List PQ) => (gd (acw (a0 + (20 : Int))) <| (acj fu a1 a4 a5 a0 (a0 + (20 : Int))))) else some (a2, a3))
def aci (fu : Nat) (a3 : Int) (a0 : Int) : Nat → (List PQ) → Int → Int → Option ((List PQ) × Int)
  | 0, _, _, _ => none
  | a5 + 1, a4, a2, a1 => (if a1 ≤ a3 then (gd (acw (a2 + a0)) <| ((abe fu a4 a2 (a2 + a0) a1).bind fun (a6 : List PQ) => (gd (acw ((2 : Int) * a0)) <| (gd (acw (a1 + ((2 : Int) * a0))) <| (aci fu a3 a0 a5 a6 a1 (a1 + ((2 : Int) * a0))))))) else some (a4, a2))
def abm (fu : Nat) (a1 : Int) : Nat → (List PQ) → Int → Option (List PQ)
  | 0, _, _ => none
  | a3 + 1, a4, a0 => (if a0 < a1 then (gd (acw ((2 : Int) * a0)) <| (((aci fu a1 a0 fu a4 (0 : Int) ((2 : Int) * a0))).bind fun (a2 : ((List PQ) × Int)) => (gd (acw (a2.2 + a0)) <| (if (a2.2 + a0) < a1 then ((abe fu a2.1 a2.2 (a2.2 + a0) a1).bind fun (a5 : List PQ) => (gd (acw (a0 * (2 : Int))) <| (abm fu a1 a3 a5 (a0 * (2 : Int))))) else (gd (acw (a0 * (2 : Int))) <| (abm fu a1 a3 a2.1 (a0 * (2 : Int)))))))) else some a4)
def adq (fu : Nat) (a2 : List PQ) (a0 : Int) : Option (List PQ) :=
  (((acj fu a0 fu a2 (0 : Int) (20 : Int))).bind fun (a1 : ((List PQ) × Int)) => ((abz fu a1.1 a1.2 a0).bind fun (a3 : List PQ) => (abm fu a0 fu a3 (20 : Int))))
def adn (fu : Nat) (a0 : List PQ) : Option (List PQ) :=
  ((adq fu a0 (a0.length : Int)).bind fun (y1 : List PQ) => some y1)
open List renaming take → zas
def agq (fu : Nat) (a0 : List PQ) : Option (List PQ) :=
  (gd ((0 + a0.length) * 40 ≤ 140737488355328) <| ((adn fu a0).bind fun (y8 : List PQ) => some y8))
def aif (fu : Nat) : Nat → Int → UInt8 → Str → Int → (List PQ) → Option (Int × UInt8 × Str × Int × (List PQ))
  | 0, _, _, _, _, _ => none
  | a5 + 1, a6, a3, a2, a0, a4 => (((if a3 = (0 : UInt8) then ((abk fu (a2, a0) (59 : UInt8)).bind fun (a7 : Bool) => some a7) else none)).bind fun (a8 : Bool) => (bif a8 then (gd (acw (a0 + (1 : Int))) <| ((aee fu a2 (a0 + (1 : Int)) ([59, 63] : Str)).bind fun (a9 : Int) => ((ain fu (a2, a0 + (1 : Int)) a4 a9 (1 : Int)).bind fun (a1 : ((List PQ) × Int × UInt8 × (Str × Int))) => (aif fu a5 a1.2.1 a1.2.2.1 a1.2.2.2.1 a1.2.2.2.2 a1.1)))) else some (a6, a3, a2, a0, a4)))
def akd (fu : Nat) (a0 : (Int × UInt8 × Str × Int × (List PQ))) : Nat → Option Unit
  | 0 => none
  | a3 + 1 => (((if a0.2.1 = (0 : UInt8) then ((aei fu (a0.2.2.1, a0.2.2.2.1)).bind fun (a1 : Bool) => some (!a1)) else none)).bind fun (a2 : Bool) => (bif a2 then none else some ()))
def ame (fu : Nat) (s_0 : Str) : Option ((Str × Str × Str × Int × (List PQ) × (List PQ)) × Int × UInt8) :=
  (if (1024 : Int) < (s_0.length : Int) then none else (if (ixb (· == (58 : UInt8)) s_0) < (0 : Int) then none else (gd (acw ((ixb (· == (58 : UInt8)) s_0) + (1 : Int))) <| (gd (0 ≤ (ixb (· == (58 : UInt8)) s_0) ∧ (ixb (· == (58 : UInt8)) s_0) ≤ (s_0.length : Int)) <| ((adh fu (zas (zac (ixb (· == (58 : UInt8)) s_0)) s_0)).bind fun (a1 : Str) => (if a1 = ([115, 105, 112] : Str) then (if a1 = ([115, 105, 112] : Str) then ((aim fu (s_0, (ixb (· == (58 : UInt8)) s_0) + (1 : Int)) (a1, ([] : Str), ([] : Str), (0 : Int), ([] : List PQ), ([] : List PQ))).bind fun (a0 : (Int × UInt8 × (Str × Int) × (Str × Str × Str × Int × (List PQ) × (List PQ)))) => (((aif fu fu a0.1 a0.2.1 a0.2.2.1.1 a0.2.2.1.2 a0.2.2.2.2.2.2.2.1)).bind fun (a2 : (Int × UInt8 × Str × Int × (List PQ))) => (((akd fu a2 fu)).bind fun (a5 : Unit) => (if a2.2.1 = (0 : UInt8) then ((agq fu a2.2.2.2.2).bind fun (a3 : List PQ) => ((agq fu a0.2.2.2.2.2.2.2.2).bind fun (a4 : List PQ) => some ((a0.2.2.2.1, a0.2.2.2.2.1, a0.2.2.2.2.2.1, a0.2.2.2.2.2.2.1, a3, a4), (0 : Int), (0 : UInt8)))) else none)))) else none) else none))))))
def aic (fu : Nat) (a0 : (Str × Int)) (a2 : (Str × (Str × Str × Str × Int × (List PQ) × (List PQ)) × (List PQ))) : Option (Int × UInt8 × (Str × Int) × (Str × (Str × Str × Str × Int × (List PQ) × (List PQ)) × (List PQ))) :=
  ((abk fu a0 (60 : UInt8)).bind fun (a4 : Bool) => (bif a4 then (gd (acw (a0.2 + (1 : Int))) <| ((aee fu a0.1 (a0.2 + (1 : Int)) ([62] : Str)).bind fun (a1 : Int) => (if a1 = (a0.1.length : Int) then none else (gd (acw (a1 + (1 : Int))) <| (gd (0 ≤ (a0.2 + (1 : Int)) ∧ (a0.2 + (1 : Int)) ≤ a1 ∧ a1 ≤ (a0.1.length : Int)) <| ((ame fu (sub a0.1 (a0.2 + (1 : Int)) a1)).bind fun (a3 : ((Str × Str × Str × Int × (List PQ) × (List PQ)) × Int × UInt8)) => (if a3.2.2 = (0 : UInt8) then some ((0 : Int), (0 : UInt8), (a0.1, a1 + (1 : Int)), (a2.1, a3.1, a2.2.2)) else none))))))) else none))
def aga (fu : Nat) (a0 : UInt8) : Option Bool :=
  (((if (32 : UInt8) ≤ a0 then some (decide (a0 ≤ (126 : UInt8))) else some false)).bind fun (v5 : Bool) => some v5)
def afn (fu : Nat) (a0 : UInt8) : Option Bool :=
  (((if a0 < (32 : UInt8) then (if a0 = (9 : UInt8) then some (decide (a0 = (127 : UInt8))) else some true) else some (decide (a0 = (127 : UInt8))))).bind fun (v6 : Bool) => some v6)
def adw (fu : Nat) (s_0 : Str) : Nat → (List UInt8) → Int → Option (((List UInt8) × Int) ⊕ (Str × Int × UInt8))
  | 0, _, _ => none
  | a2 + 1, a1, a0 => (if a0 < (s_0.length : Int) then (gd (0 ≤ a0 ∧ a0 < (s_0.length : Int)) <| (if (at_ s_0 a0) = (34 : UInt8) then some (.inl (a1, a0)) else (if (at_ s_0 a0) = (92 : UInt8) then (gd (acw (a0 + (1 : Int))) <| (if (a0 + (1 : Int)) = (s_0.length : Int) then some (.inr (([] : Str), (s_0.length : Int), (6 : UInt8))) else (gd (acw (a0 + (1 : Int))) <| (gd (0 ≤ (a0 + (1 : Int)) ∧ (a0 + (1 : Int)) < (s_0.length : Int)) <| ((aga fu (at_ s_0 (a0 + (1 : Int)))).bind fun (a3 : Bool) => (bif (!a3) then some (.inr (([] : Str), a0, (5 : UInt8))) else (gd (acw (a0 + (1 : Int))) <| (gd (0 ≤ (a0 + (1 : Int)) ∧ (a0 + (1 : Int)) < (s_0.length : Int)) <| (gd ((a1.length + ([at_ s_0 (a0 + (1 : Int))] : List UInt8).length) * 1 ≤ 140737488355328) <| (gd (acw ((a0 + (1 : Int)) + (1 : Int))) <| (adw fu s_0 a2 (a1 ++ ([at_ s_0 (a0 + (1 : Int))] : List UInt8)) ((a0 + (1 : Int)) + (1 : Int))))))))))))) else ((afn fu (at_ s_0 a0)).bind fun (a4 : Bool) => (bif a4 then some (.inr (([] : Str), a0, (5 : UInt8))) else (gd (0 ≤ a0 ∧ a0 < (s_0.length : Int)) <| (gd ((a1.length + ([at_ s_0 a0] : List UInt8).length) * 1 ≤ 140737488355328) <| (gd (acw (a0 + (1 : Int))) <| (adw fu s_0 a2 (a1 ++ ([at_ s_0 a0] : List UInt8)) (a0 + (1 : Int))))))))))) else some (.inl (a1, a0)))
def ajb (fu : Nat) (s_0 : Str) (a0 : Int) : Option (Str × Int × UInt8) :=
  (((if a0 < (0 : Int) then some true else some (decide ((s_0.length : Int) < a0)))).bind fun (v5 : Bool) => (bif v5 then some (([] : Str), (0 : Int), (2 : UInt8)) else (((if a0 = (s_0.length : Int) then some true else (gd (0 ≤ a0 ∧ a0 < (s_0.length : Int)) <| some (!decide ((at_ s_0 a0) = (34 : UInt8)))))).bind fun (a2 : Bool) => (bif a2 then some (([] : Str), a0, (5 : UInt8)) else (gd (acw (a0 + (1 : Int))) <| (((adw fu s_0 fu ([] : List UInt8) (a0 + (1 : Int)))).bind fun (a3 : (((List UInt8) × Int) ⊕ (Str × Int × UInt8))) => zaC (fun (a1 : ((List UInt8) × Int)) => (if (s_0.length : Int) ≤ a1.2 then some (([] : Str), (s_0.length : Int), (6 : UInt8)) else (gd (acw (a1.2 + (1 : Int))) <| some (a1.1, a1.2 + (1 : Int), (0 : UInt8))))) (fun q => some q) a3))))))
def afm (fu : Nat) (a7 : (Str × Int)) : Option (PQ × Int × UInt8 × (Str × Int)) :=
  ((aeh fu a7).bind fun (y4 : (Str × (Str × Int))) => ((adh fu y4.1).bind fun (a2 : Str) => (if a2 = ([] : Str) then some ((([] : Str), ([] : Str), false), y4.2.2, (5 : UInt8), y4.2) else ((acm fu y4.2).bind fun (a3 : (Str × Int)) => ((abk fu a3 (61 : UInt8)).bind fun (a8 : Bool) => (bif (!a8) then some ((a2, ([] : Str), false), (0 : Int), (0 : UInt8), a3) else (gd (acw (a3.2 + (1 : Int))) <| ((acm fu (a3.1, a3.2 + (1 : Int))).bind fun (a0 : (Str × Int)) => ((abk fu a0 (34 : UInt8)).bind fun (a9 : Bool) => (bif a9 then ((ajb fu a0.1 a0.2).bind fun (a4 : (Str × Int × UInt8)) => (if a4.2.2 = (0 : UInt8) then some ((a2, a4.1, true), (0 : Int), (0 : UInt8), (a0.1, a4.2.1)) else some ((([] : Str), ([] : Str), false), a4.2.1, a4.2.2, a0))) else ((abk fu a0 (91 : UInt8)).bind fun (b0 : Bool) => (bif b0 then ((aee fu a0.1 a0.2 ([93] : Str)).bind fun (a1 : Int) => (gd (acw (a1 + (1 : Int))) <| (gd (0 ≤ a0.2 ∧ a0.2 ≤ (min (a1 + (1 : Int)) (a0.1.length : Int)) ∧ (min (a1 + (1 : Int)) (a0.1.length : Int)) ≤ (a0.1.length : Int)) <| ((aft fu (sub a0.1 a0.2 (min (a1 + (1 : Int)) (a0.1.length : Int)))).bind fun (a6 : (Str × Bool)) => (bif (!a6.2) then some ((([] : Str), ([] : Str), false), a0.2, (5 : UInt8), a0) else (gd (acw (a1 + (1 : Int))) <| some ((a2, a6.1, true), (0 : Int), (0 : UInt8), (a0.1, a1 + (1 : Int))))))))) else ((aeh fu a0).bind fun (a5 : (Str × (Str × Int))) => (if a5.1 = ([] : Str) then some ((([] : Str), ([] : Str), false), a5.2.2, (5 : UInt8), a5.2) else some ((a2, a5.1, true), (0 : Int), (0 : UInt8), a5.2)))))))))))))))
def aes (fu : Nat) : Nat → (List PQ) → Str → Int → Option ((List PQ) × Int × UInt8)
  | 0, _, _, _ => none
  | a5 + 1, a2, a6, a7 => ((acm fu (a6, a7)).bind fun (a1 : (Str × Int)) => ((aei fu a1).bind fun (a8 : Bool) => (bif a8 then some (a2, (0 : Int), (0 : UInt8)) else ((abk fu a1 (59 : UInt8)).bind fun (a9 : Bool) => (bif (!a9) then some (([] : List PQ), a1.2, (5 : UInt8)) else (gd (acw (a1.2 + (1 : Int))) <| ((acm fu (a1.1, a1.2 + (1 : Int))).bind fun (a4 : (Str × Int)) => ((afm fu a4).bind fun (a0 : (PQ × Int × UInt8 × (Str × Int))) => (((if a0.2.2.1 = (0 : UInt8) then ((aik fu a2 a0.1.1).bind fun (b0 : UInt8) => some (a4.2, b0)) else some (a0.2.1, a0.2.2.1))).bind fun (a3 : (Int × UInt8)) => (if a3.2 = (0 : UInt8) then (gd ((a2.length + ([a0.1] : List PQ).length) * 40 ≤ 140737488355328) <| (aes fu a5 (a2 ++ ([a0.1] : List PQ)) a0.2.2.2.1 a0.2.2.2.2)) else some (([] : List PQ), a3.1, a3.2)))))))))))
def afp (fu : Nat) (s_0 : Str) : Option ((List PQ) × Int × UInt8) :=
  (aes fu fu ([] : List PQ) s_0 (0 : Int))
def aip (fu : Nat) (s_0 : Str) : Option ((Str × (Str × Str × Str × Int × (List PQ) × (List PQ)) × (List PQ)) × Int × UInt8) :=
  (if (1024 : Int) < (s_0.length : Int) then none else ((acm fu (s_0, (0 : Int))).bind fun (y8 : (Str × Int)) => ((abk fu y8 (34 : UInt8)).bind fun (a3 : Bool) => (bif a3 then none else (gd (s_0.length ≤ 1000000000) <| (bif (Lib.contains s_0 ([60] : Str)) then ((agp fu y8 (([] : Str), (([] : Str), ([] : Str), ([] : Str), (0 : Int), ([] : List PQ), ([] : List PQ)), ([] : List PQ))).bind fun (a1 : (Int × UInt8 × (Str × Int) × (Str × (Str × Str × Str × Int × (List PQ) × (List PQ)) × (List PQ)))) => (if a1.2.1 = (0 : UInt8) then ((aic fu a1.2.2.1 a1.2.2.2).bind fun (a0 : (Int × UInt8 × (Str × Int) × (Str × (Str × Str × Str × Int × (List PQ) × (List PQ)) × (List PQ)))) => (if a0.2.1 = (0 : UInt8) then (gd (0 ≤ a0.2.2.1.2 ∧ a0.2.2.1.2 ≤ (s_0.length : Int)) <| ((afp fu (zak (zac a0.2.2.1.2) s_0)).bind fun (a2 : ((List PQ) × Int × UInt8)) => (gd (acw (a2.2.1 + a0.2.2.1.2)) <| (if a2.2.2 = (0 : UInt8) then some ((a0.2.2.2.1, a0.2.2.2.2.1, a2.1), (0 : Int), (0 : UInt8)) else none)))) else none)) else none)) else none))))))
def aln (fu : Nat) (a0 : Str) : Option ((Str × (Str × Str × Str × Int × (List PQ) × (List PQ)) × (List PQ)) × UInt8) :=
  ((agd fu a0).bind fun (y4 : Str) => ((aip fu y4).bind fun (y9 : ((Str × (Str × Str × Str × Int × (List PQ) × (List PQ)) × (List PQ)) × Int × UInt8)) => some (y9.1, y9.2.2)))
def aeq (fu : Nat) (s_0 : Str) : Nat → (List UInt8) → Int → Option ((List UInt8) ⊕ (Str × UInt8))
  | 0, _, _ => none
  | a3 + 1, a1, a0 => (if a0 < (s_0.length : Int) then (gd (0 ≤ a0 ∧ a0 < (s_0.length : Int)) <| ((afn fu (at_ s_0 a0)).bind fun (a4 : Bool) => (bif a4 then some (.inr (([] : Str), (5 : UInt8))) else (((((if (at_ s_0 a0) = (34 : UInt8) then some true else some (decide ((at_ s_0 a0) = (92 : UInt8))))).bind fun (a5 : Bool) => (bif a5 then (gd ((a1.length + ([(92 : UInt8)] : List UInt8).length) * 1 ≤ 140737488355328) <| some (a1 ++ ([(92 : UInt8)] : List UInt8))) else some a1))).bind fun (a2 : List UInt8) => (gd (0 ≤ a0 ∧ a0 < (s_0.length : Int)) <| (gd ((a2.length + ([at_ s_0 a0] : List UInt8).length) * 1 ≤ 140737488355328) <| (gd (acw (a0 + (1 : Int))) <| (aeq fu s_0 a3 (a2 ++ ([at_ s_0 a0] : List UInt8)) (a0 + (1 : Int)))))))))) else some (.inl a1))
def ajh (fu : Nat) (s_0 : Str) : Option (Str × UInt8) :=
  (gd (acw ((s_0.length : Int) + (2 : Int))) <| (gd (0 ≤ ((s_0.length : Int) + (2 : Int)) ∧ (1 : Int) * ((s_0.length : Int) + (2 : Int)) ≤ 281474976710656) <| (gd ((([] : List UInt8).length + ([(34 : UInt8)] : List UInt8).length) * 1 ≤ 140737488355328) <| (((aeq fu s_0 fu (([] : List UInt8) ++ ([(34 : UInt8)] : List UInt8)) (0 : Int))).bind fun (a1 : ((List UInt8) ⊕ (Str × UInt8))) => zaC (fun (a0 : List UInt8) => (gd ((a0.length + ([(34 : UInt8)] : List UInt8).length) * 1 ≤ 140737488355328) <| some (a0 ++ ([(34 : UInt8)] : List UInt8), (0 : UInt8)))) (fun q => some q) a1))))
def ala (fu : Nat) (a0 : UInt8) : Option Bool :=
  (((if a0 < (32 : UInt8) then none else some ())).bind fun (v4 : Unit) => some (decide (a0 = (127 : UInt8))))
def aid (fu : Nat) (s_0 : Str) : Nat → Int → Option Unit
  | 0, _ => none
  | a1 + 1, a0 => (if a0 < (s_0.length : Int) then (gd (0 ≤ a0 ∧ a0 < (s_0.length : Int)) <| ((ala fu (at_ s_0 a0)).bind fun (a2 : Bool) => (bif a2 then none else (gd (acw (a0 + (1 : Int))) <| (aid fu s_0 a1 (a0 + (1 : Int))))))) else some ())
def ajd (fu : Nat) (s_0 : Str) : Option Bool :=
  (((aid fu s_0 fu (0 : Int))).bind fun (a0 : Unit) => some true)
def ahl (fu : Nat) (a1 : List PQ) (a4 : Int) : Nat → (List PQ) → Int → Option (List PQ)
  | 0, _, _ => none
  | a5 + 1, a3, a0 => (if a0 < (a1.length : Int) then (gd (0 ≤ a0 ∧ a0 < (a1.length : Int)) <| (gd (0 ≤ a0 ∧ a0 < (a1.length : Int)) <| ((adh fu ((el a1 a0).1)).bind fun (a2 : Str) => (((if a2 = ([] : Str) then none else ((ajd fu a2).bind fun (a6 : Bool) => (bif (!a6) then none else ((ajd fu ((el a1 a0).2.1)).bind fun (a7 : Bool) => (bif (!a7) then none else ((agk fu a3 a2).bind fun (a8 : Bool) => some a8))))))).bind fun (a9 : Bool) => (bif a9 then none else (((if a4 = (2 : Int) then none else (if a4 = (1 : Int) then some () else none))).bind fun (b0 : Unit) => (bif (!(((el a1 a0).2.2) == (!decide (((el a1 a0).2.1) = ([] : Str))))) then none else (gd ((a3.length + ([(a2, (el a1 a0).2.1, ((el a1 a0).2.2))] : List PQ).length) * 40 ≤ 140737488355328) <| (gd (acw (a0 + (1 : Int))) <| (ahl fu a1 a4 a5 (a3 ++ ([(a2, (el a1 a0).2.1, ((el a1 a0).2.2))] : List PQ)) (a0 + (1 : Int)))))))))))) else some a3)
def ajz (fu : Nat) (a0 : List PQ) (a1 : Int) : Option ((List PQ) × Bool) :=
  (if (16 : Int) < (a0.length : Int) then none else (((ahl fu a0 a1 fu ([] : List PQ) (0 : Int))).bind fun (a2 : List PQ) => ((agq fu a2).bind fun (a3 : List PQ) => some (a3, true))))
def alo (fu : Nat) (a0 : (Str × Str × Str × Int × (List PQ) × (List PQ))) : Option ((Str × Str × Str × Int × (List PQ) × (List PQ)) × UInt8) :=
  ((adh fu a0.1).bind fun (y7 : Str) => (if y7 = ([115, 105, 112] : Str) then (if y7 = ([115, 105, 112] : Str) then ((aft fu a0.2.2.1).bind fun (a1 : (Str × Bool)) => (bif a1.2 then (if (0 : Int) ≤ a0.2.2.2.1 then (if a0.2.2.2.1 ≤ (65535 : Int) then ((ajd fu a0.2.1).bind fun (a4 : Bool) => ((ajz fu a0.2.2.2.2.1 (1 : Int)).bind fun (a2 : ((List PQ) × Bool)) => ((ajz fu a0.2.2.2.2.2 (2 : Int)).bind fun (a3 : ((List PQ) × Bool)) => (((bif (!a4) then none else (bif (!a2.2) then none else some ()))).bind fun (a5 : Unit) => (bif (!a3.2) then none else some ((y7, a0.2.1, a1.1, a0.2.2.2.1, a2.1, a3.1), (0 : UInt8))))))) else none) else none) else none)) else none) else none))
def abt (fu : Nat) (a1 : (Unit × (List UInt8))) (a0 : Str) : Option (Int × Unit × (Unit × (List UInt8))) :=
  (gd ((a1.2.length + a0.length) * 1 ≤ 140737488355328) <| some ((a0.length : Int), (), ((), a1.2 ++ a0)))
open Go.Lib renaming join → zax
open List renaming set → zaf, take → zas
def ahm (fu : Nat) (s_0 : Str) (a2 : Int) : Nat → (List UInt8) → Int → Option (List UInt8)
  | 0, _, _ => none
  | a3 + 1, a1, a0 => (if a0 < (s_0.length : Int) then (gd (0 ≤ a0 ∧ a0 < (s_0.length : Int)) <| ((ajl fu (at_ s_0 a0) a2).bind fun (a4 : Bool) => (bif a4 then (gd (0 ≤ a0 ∧ a0 < (s_0.length : Int)) <| (gd ((a1.length + ([at_ s_0 a0] : List UInt8).length) * 1 ≤ 140737488355328) <| (gd (acw (a0 + (1 : Int))) <| (ahm fu s_0 a2 a3 (a1 ++ ([at_ s_0 a0] : List UInt8)) (a0 + (1 : Int)))))) else none))) else some a1)
def aka (fu : Nat) (s_0 : Str) (a0 : Int) : Option Str :=
  (gd (0 ≤ (s_0.length : Int) ∧ (1 : Int) * (s_0.length : Int) ≤ 281474976710656) <| (((ahm fu s_0 a0 fu ([] : List UInt8) (0 : Int))).bind fun (a1 : List UInt8) => some a1))
def aie (fu : Nat) (y4 : ((Str × Str × Str × Int × (List PQ) × (List PQ)) × UInt8)) : Nat → Int → (List UInt8) → Option (List UInt8)
  | 0, _, _ => none
  | a3 + 1, a0, a1 => (if a0 < (y4.1.2.2.2.2.1.length : Int) then (gd (0 ≤ a0 ∧ a0 < (y4.1.2.2.2.2.1.length : Int)) <| (gd (0 ≤ a0 ∧ a0 < (y4.1.2.2.2.2.1.length : Int)) <| ((aka fu ((el y4.1.2.2.2.2.1 a0).1) (1 : Int)).bind fun (a2 : Str) => (gd (([59] : Str).length + a2.length ≤ 9223372036854775807) <| ((abt fu ((), a1) (([59] : Str) ++ a2)).bind fun (a4 : (Int × Unit × (Unit × (List UInt8)))) => (bif ((el y4.1.2.2.2.2.1 a0).2.2) then none else (gd (acw (a0 + (1 : Int))) <| (aie fu y4 a3 (a0 + (1 : Int)) a4.2.2.2)))))))) else some a1)
def akc (fu : Nat) (y4 : ((Str × Str × Str × Int × (List PQ) × (List PQ)) × UInt8)) : Nat → Option Unit
  | 0 => none
  | a0 + 1 => (if (0 : Int) < (y4.1.2.2.2.2.2.length : Int) then none else some ())
def amd (fu : Nat) (a3 : (Str × Str × Str × Int × (List PQ) × (List PQ))) : Option (Str × UInt8) :=
  ((alo fu a3).bind fun (y4 : ((Str × Str × Str × Int × (List PQ) × (List PQ)) × UInt8)) => (if y4.2 = (0 : UInt8) then (gd (y4.1.1.length + ([58] : Str).length ≤ 9223372036854775807) <| ((abt fu ((), ([] : List UInt8)) (y4.1.1 ++ ([58] : Str))).bind fun (a0 : (Int × Unit × (Unit × (List UInt8)))) => (((if y4.1.1 = ([116, 101, 108] : Str) then none else (if y4.1.2.1 = ([] : Str) then some a0.2.2.2 else ((aka fu y4.1.2.1 (0 : Int)).bind fun (a1 : Str) => (gd (a1.length + ([64] : Str).length ≤ 9223372036854775807) <| ((abt fu ((), a0.2.2.2) (a1 ++ ([64] : Str))).bind fun (a4 : (Int × Unit × (Unit × (List UInt8)))) => some a4.2.2.2)))))).bind fun (a5 : List UInt8) => ((abt fu ((), a5) y4.1.2.2.1).bind fun (a6 : (Int × Unit × (Unit × (List UInt8)))) => (if y4.1.2.2.2.1 = (0 : Int) then (((aie fu y4 fu (0 : Int) a6.2.2.2)).bind fun (a2 : List UInt8) => (((akc fu y4 fu)).bind fun (a7 : Unit) => (gd (a2.length ≤ 140737488355328) <| some (a2, (0 : UInt8))))) else none))))) else none))
def aca (fu : Nat) (a1 : List PQ) : Nat → Int → (List UInt8) → Option ((List UInt8) ⊕ (Str × UInt8))
  | 0, _, _ => none
  | a2 + 1, a0, a3 => (if a0 < (a1.length : Int) then (gd (0 ≤ a0 ∧ a0 < (a1.length : Int)) <| (gd (0 ≤ a0 ∧ a0 < (a1.length : Int)) <| ((((afk fu ((el a1 a0).1)).bind fun (a8 : Bool) => (bif (!a8) then some true else ((adh fu ((el a1 a0).1)).bind fun (a9 : Str) => (if ((el a1 a0).1) = a9 then (gd (0 ≤ a0 ∧ a0 ≤ (a1.length : Int)) <| ((agk fu (zas (zac a0) a1) ((el a1 a0).1)).bind fun (b0 : Bool) => some b0)) else some true))))).bind fun (b1 : Bool) => (bif b1 then some (.inr (([] : Str), (2 : UInt8))) else (gd (([59] : Str).length + ((el a1 a0).1).length ≤ 9223372036854775807) <| ((abt fu ((), a3) (([59] : Str) ++ ((el a1 a0).1))).bind fun (a4 : (Int × Unit × (Unit × (List UInt8)))) => (bif (!((el a1 a0).2.2)) then (if ((el a1 a0).2.1) = ([] : Str) then (gd (acw (a0 + (1 : Int))) <| (aca fu a1 a2 (a0 + (1 : Int)) a4.2.2.2)) else some (.inr (([] : Str), (2 : UInt8)))) else ((((aft fu ((el a1 a0).2.1)).bind fun (a5 : (Str × Bool)) => ((((afk fu ((el a1 a0).2.1)).bind fun (b2 : Bool) => (bif (!b2) then (bif a5.2 then (if a5.1 = ((el a1 a0).2.1) then (gd (0 ≤ (0 : Int) ∧ (0 : Int) < (((el a1 a0).2.1).length : Int)) <| some (!decide ((at_ ((el a1 a0).2.1) (0 : Int)) = (91 : UInt8)))) else some true) else some true) else some false))).bind fun (b3 : Bool) => (bif b3 then ((ajh fu ((el a1 a0).2.1)).bind fun (a6 : (Str × UInt8)) => (if a6.2 = (0 : UInt8) then some (.inl a6.1) else some (.inr (([] : Str), (2 : UInt8))))) else some (.inl ((el a1 a0).2.1)))))).bind fun (b4 : (Str ⊕ (Str × UInt8))) => zaC (fun (a7 : Str) => (gd (([61] : Str).length + a7.length ≤ 9223372036854775807) <| ((abt fu ((), a4.2.2.2) (([61] : Str) ++ a7)).bind fun (b5 : (Int × Unit × (Unit × (List UInt8)))) => (gd (acw (a0 + (1 : Int))) <| (aca fu a1 a2 (a0 + (1 : Int)) b5.2.2.2))))) (fun q => some (.inr q)) b4)))))))) else some (.inl a3))
def adi (fu : Nat) (a0 : List PQ) : Option (Str × UInt8) :=
  (if (16 : Int) < (a0.length : Int) then some (([] : Str), (2 : UInt8)) else (((aca fu a0 fu (0 : Int) ([] : List UInt8))).bind fun (a2 : ((List UInt8) ⊕ (Str × UInt8))) => zaC (fun (a1 : List UInt8) => (gd (a1.length ≤ 140737488355328) <| some (a1, (0 : UInt8)))) (fun q => some q) a2))
def aio (fu : Nat) (a2 : (Str × (Str × Str × Str × Int × (List PQ) × (List PQ)) × (List PQ))) : Option (Str × UInt8) :=
  ((ajh fu a2.1).bind fun (y4 : (Str × UInt8)) => (if y4.2 = (0 : UInt8) then ((amd fu a2.2.1).bind fun (a0 : (Str × UInt8)) => (if a0.2 = (0 : UInt8) then ((agq fu a2.2.2).bind fun (a3 : List PQ) => ((adi fu a3).bind fun (a1 : (Str × UInt8)) => (if a1.2 = (0 : UInt8) then (if a2.1 = ([] : Str) then (gd (([60] : Str).length + a0.1.length ≤ 9223372036854775807) <| (gd ((([60] : Str) ++ a0.1).length + ([62] : Str).length ≤ 9223372036854775807) <| (gd (((([60] : Str) ++ a0.1) ++ ([62] : Str)).length + a1.1.length ≤ 9223372036854775807) <| some (((([60] : Str) ++ a0.1) ++ ([62] : Str)) ++ a1.1, (0 : UInt8))))) else (gd (y4.1.length + ([32, 60] : Str).length ≤ 9223372036854775807) <| (gd ((y4.1 ++ ([32, 60] : Str)).length + a0.1.length ≤ 9223372036854775807) <| (gd (((y4.1 ++ ([32, 60] : Str)) ++ a0.1).length + ([62] : Str).length ≤ 9223372036854775807) <| (gd ((((y4.1 ++ ([32, 60] : Str)) ++ a0.1) ++ ([62] : Str)).length + a1.1.length ≤ 9223372036854775807) <| some ((((y4.1 ++ ([32, 60] : Str)) ++ a0.1) ++ ([62] : Str)) ++ a1.1, (0 : UInt8))))))) else none))) else none)) else none))
def ano (fu : Nat) (a0 : Str) (a1 : Str) : Option (Str × UInt8) :=
  ((amc fu a0).bind fun (a4 : Int) => (if a4 = (1 : Int) then (((if a0 = ([67, 111, 110, 116, 97, 99, 116] : Str) then ((agd fu a1).bind fun (a5 : Str) => some (decide (a5 = ([42] : Str)))) else none)).bind fun (a6 : Bool) => (bif a6 then none else ((aln fu a1).bind fun (a2 : ((Str × (Str × Str × Str × Int × (List PQ) × (List PQ)) × (List PQ)) × UInt8)) => (if a2.2 = (0 : UInt8) then ((aio fu a2.1).bind fun (a3 : (Str × UInt8)) => some (a3.1, a3.2)) else none)))) else none))
def ajj (fu : Nat) (y1 : (Str × UInt8)) (a2 : ((List Str) × UInt8)) : Nat → (List Str) → Int → Option (List Str)
  | 0, _, _ => none
  | a4 + 1, a1, a0 => (if a0 < (a2.1.length : Int) then (gd (0 ≤ a0 ∧ a0 < (a1.length : Int)) <| (gd (0 ≤ a0 ∧ a0 < (a1.length : Int)) <| ((ano fu y1.1 (el a1 a0)).bind fun (a3 : (Str × UInt8)) => (gd (0 ≤ a0 ∧ a0 < (a1.length : Int)) <| (gd (0 ≤ a0 ∧ a0 < (a1.length : Int)) <| (if a3.2 = (0 : UInt8) then (gd (acw (a0 + (1 : Int))) <| (ajj fu y1 a2 a4 (zaf a1 (zac a0) a3.1) (a0 + (1 : Int)))) else none)))))) else some a1)
def anq (fu : Nat) (a2 : Str) (a3 : Str) : Option (Str × UInt8) :=
  ((alh fu a2).bind fun (y1 : (Str × UInt8)) => (if y1.2 = (0 : UInt8) then ((anp fu y1.1).bind fun (y7 : Bool) => (bif (!y7) then none else ((anr fu a3).bind fun (a0 : ((List Str) × UInt8)) => (if a0.2 = (0 : UInt8) then (((ajj fu y1 a0 fu a0.1 (0 : Int))).bind fun (a1 : List Str) => (gd (a1.length ≤ 1000000000 ∧ (zax a1 ([44, 32] : Str)).length ≤ 100000000000) <| some (zax a1 ([44, 32] : Str), (0 : UInt8)))) else none)))) else none))
def akm (fu : Nat) (a0 : UInt8) : Option UInt8 :=
  (((if (97 : UInt8) ≤ a0 then some (decide (a0 ≤ (122 : UInt8))) else some false)).bind fun (v5 : Bool) => (bif v5 then some (a0 - (32 : UInt8)) else some a0))
def adk (fu : Nat) (s_0 : Str) : Nat → Str → Int → Option Str
  | 0, _, _ => none
  | a2 + 1, a1, a0 => (if a0 < (s_0.length : Int) then (gd (0 ≤ a0 ∧ a0 < (a1.length : Int)) <| (gd (0 ≤ a0 ∧ a0 < (a1.length : Int)) <| ((akm fu (at_ a1 a0)).bind fun (a3 : UInt8) => (gd (0 ≤ a0 ∧ a0 < (a1.length : Int)) <| (gd (0 ≤ a0 ∧ a0 < (a1.length : Int)) <| (gd (acw (a0 + (1 : Int))) <| (adk fu s_0 a2 (zaf a1 (zac a0) a3) (a0 + (1 : Int))))))))) else some a1)
def aeb (fu : Nat) (s_0 : Str) : Option Str :=
  (((adk fu s_0 fu s_0 (0 : Int))).bind fun (a0 : Str) => some a0)
open Go.Lib renaming indexAny → zar
def alm (fu : Nat) (s_0 : Str) : Option PQ :=
  (gd (s_0.length ≤ 1000000000) <| (((if (lixb (· == (58 : UInt8)) s_0) < (0 : Int) then none else (gd (0 ≤ (lixb (· == (58 : UInt8)) s_0) ∧ (lixb (· == (58 : UInt8)) s_0) ≤ (s_0.length : Int)) <| (gd ((zas (zac (lixb (· == (58 : UInt8)) s_0)) s_0).length ≤ 1000000000) <| (bif (Lib.contains (zas (zac (lixb (· == (58 : UInt8)) s_0)) s_0) ([91] : Str)) then none else some ()))))).bind fun (a0 : Unit) => (gd (0 ≤ (lixb (· == (58 : UInt8)) s_0) ∧ (lixb (· == (58 : UInt8)) s_0) ≤ (s_0.length : Int)) <| (gd (acw ((lixb (· == (58 : UInt8)) s_0) + (1 : Int))) <| (gd (0 ≤ ((lixb (· == (58 : UInt8)) s_0) + (1 : Int)) ∧ ((lixb (· == (58 : UInt8)) s_0) + (1 : Int)) ≤ (s_0.length : Int)) <| some (zas (zac (lixb (· == (58 : UInt8)) s_0)) s_0, zak (zac ((lixb (· == (58 : UInt8)) s_0) + (1 : Int))) s_0, true))))))
def aiu (fu : Nat) (s_0 : Str) : Nat → Int → Int → Option Int
  | 0, _, _ => none
  | a2 + 1, a1, a0 => (if a0 < (s_0.length : Int) then (((gd (0 ≤ a0 ∧ a0 < (s_0.length : Int)) <| (if (at_ s_0 a0) < (48 : UInt8) then none else (gd (0 ≤ a0 ∧ a0 < (s_0.length : Int)) <| some ())))).bind fun (a3 : Unit) => (if (57 : UInt8) < (at_ s_0 a0) then none else (gd (acw ((10 : Int) * a1)) <| (gd (0 ≤ a0 ∧ a0 < (s_0.length : Int)) <| (gd (acw (((10 : Int) * a1) + (((at_ s_0 a0) - (48 : UInt8)).toNat : Int))) <| (gd (acw (a0 + (1 : Int))) <| (aiu fu s_0 a2 (((10 : Int) * a1) + (((at_ s_0 a0) - (48 : UInt8)).toNat : Int)) (a0 + (1 : Int))))))))) else some a1)
def alg (fu : Nat) (s_0 : Str) : Option (Int × UInt8) :=
  (((if (s_0.length : Int) < (1 : Int) then none else some ())).bind fun (v4 : Unit) => (if (10 : Int) < (s_0.length : Int) then none else (((aiu fu s_0 fu (0 : Int) (0 : Int))).bind fun (a0 : Int) => (if (2147483647 : Int) < a0 then none else some (a0, (0 : UInt8))))))
def alb (fu : Nat) (a0 : List PQ) (y1 : Str) : Nat → Option (Str × Bool)
  | 0 => none
  | a2 + 1 => (if (0 : Int) < (a0.length : Int) then (gd (0 ≤ (0 : Int) ∧ (0 : Int) < (a0.length : Int)) <| (gd (0 ≤ (0 : Int) ∧ (0 : Int) < (a0.length : Int)) <| ((adh fu ((el a0 (0 : Int)).1)).bind fun (a1 : Str) => (if a1 = y1 then some ((el a0 (0 : Int)).2.1, true) else none)))) else none)
def ant (fu : Nat) (a0 : List PQ) (a1 : Str) : Option (Str × Bool) :=
  ((adh fu a1).bind fun (y1 : Str) => (alb fu a0 y1 fu))
def L_header_Via (fu : Nat) (a6 : Str) : Option ((Str × Str × Int × Str × (List PQ)) × UInt8) :=
  ((agd fu a6).bind fun (y4 : Str) => (((if (y4.length : Int) < (8 : Int) then none else (gd (0 ≤ (8 : Int) ∧ (8 : Int) ≤ (y4.length : Int)) <| ((aeb fu (zas (zac (8 : Int)) y4)).bind fun (a7 : Str) => some (!decide (a7 = ([83, 73, 80, 47, 50, 46, 48, 47] : Str))))))).bind fun (a8 : Bool) => (bif a8 then none else ((aep fu y4 (8 : Int)).bind fun (a1 : Int) => ((age fu y4 a1).bind fun (a0 : Int) => (((if a1 = (8 : Int) then none else some ())).bind fun (b1 : Unit) => (if a0 = a1 then none else (gd (0 ≤ (8 : Int) ∧ (8 : Int) ≤ a1 ∧ a1 ≤ (y4.length : Int)) <| ((aeb fu (sub y4 (8 : Int) a1)).bind fun (a9 : Str) => (gd (0 ≤ a0 ∧ a0 ≤ (y4.length : Int)) <| (gd ((zak (zac a0) y4).length ≤ 1000000000 ∧ ([59, 32, 9] : Str).length ≤ 1000 ∧ ([59, 32, 9] : Str).all (fun b => decide (b.toNat < 128)) = true) <| (if (0 : Int) ≤ (zar (zak (zac a0) y4) ([59, 32, 9] : Str)) then (gd (0 ≤ (zar (zak (zac a0) y4) ([59, 32, 9] : Str)) ∧ (zar (zak (zac a0) y4) ([59, 32, 9] : Str)) ≤ ((zak (zac a0) y4).length : Int)) <| (gd (0 ≤ (zar (zak (zac a0) y4) ([59, 32, 9] : Str)) ∧ (zar (zak (zac a0) y4) ([59, 32, 9] : Str)) ≤ ((zak (zac a0) y4).length : Int)) <| ((alm fu (zas (zac (zar (zak (zac a0) y4) ([59, 32, 9] : Str))) (zak (zac a0) y4))).bind fun (a3 : PQ) => ((aft fu a3.1).bind fun (a5 : (Str × Bool)) => (bif (!a5.2) then none else (bif a3.2.2 then ((alg fu a3.2.1).bind fun (a2 : (Int × UInt8)) => (((if a2.2 = (0 : UInt8) then (if a2.1 < (1 : Int) then none else some ()) else none)).bind fun (b2 : Unit) => (if (65535 : Int) < a2.1 then none else (if a2.2 = (0 : UInt8) then ((afp fu (zak (zac (zar (zak (zac a0) y4) ([59, 32, 9] : Str))) (zak (zac a0) y4))).bind fun (a4 : ((List PQ) × Int × UInt8)) => (if a4.2.2 = (0 : UInt8) then ((ant fu a4.1 ([98, 114, 97, 110, 99, 104] : Str)).bind fun (b0 : (Str × Bool)) => some ((a9, a5.1, a2.1, b0.1, a4.1), (0 : UInt8))) else none)) else none)))) else none)))))) else none))))))))))))
def aky (fu : Nat) (s_0 : Str) : Option (Int × Str × UInt8) :=
  (gd (s_0.length ≤ 1000000000 ∧ ([32, 9] : Str).length ≤ 1000 ∧ ([32, 9] : Str).all (fun b => decide (b.toNat < 128)) = true) <| (if (zar s_0 ([32, 9] : Str)) < (0 : Int) then none else (gd (0 ≤ (zar s_0 ([32, 9] : Str)) ∧ (zar s_0 ([32, 9] : Str)) ≤ (s_0.length : Int)) <| ((alg fu (zas (zac (zar s_0 ([32, 9] : Str))) s_0)).bind fun (y8 : (Int × UInt8)) => ((age fu s_0 (zar s_0 ([32, 9] : Str))).bind fun (a0 : Int) => (gd (0 ≤ a0 ∧ a0 ≤ (s_0.length : Int)) <| some (y8.1, zak (zac a0) s_0, y8.2)))))))
def ans (fu : Nat) (a0 : Str) : Option (Int × Str × UInt8) :=
  ((agd fu a0).bind fun (y1 : Str) => ((aky fu y1).bind fun (y6 : (Int × Str × UInt8)) => (if y6.2.2 = (0 : UInt8) then ((afk fu y6.2.1).bind fun (a1 : Bool) => (bif (!a1) then none else some (y6.1, y6.2.1, (0 : UInt8)))) else none)))
def aji (fu : Nat) : Option Bool :=
  ((alh fu ([67, 65, 76, 76, 45, 105, 100] : Str)).bind fun (y1 : (Str × UInt8)) => ((anq fu ([109] : Str) ([66, 111, 98, 60, 115, 105, 112, 58, 97, 64, 66, 62, 32, 44, 32, 60, 115, 105, 112, 58, 99, 59, 100, 62] : Str)).bind fun (y6 : (Str × UInt8)) => ((L_header_Via fu ([115, 105, 112, 47, 50, 46, 48, 47, 117, 100, 112, 32, 104, 58, 53, 48, 54, 48, 59, 98, 114, 97, 110, 99, 104, 61, 122, 57] : Str)).bind fun (a0 : ((Str × Str × Int × Str × (List PQ)) × UInt8)) => ((ans fu ([48, 48, 55, 32, 73, 78, 86, 73, 84, 69] : Str)).bind fun (a1 : (Int × Str × UInt8)) => (((if y1.2 = (0 : UInt8) then (if y1.1 = ([67, 97, 108, 108, 45, 73, 68] : Str) then (if y6.2 = (0 : UInt8) then (if y6.1 = ([34, 66, 111, 98, 34, 32, 60, 115, 105, 112, 58, 97, 64, 98, 62, 44, 32, 60, 115, 105, 112, 58, 99, 59, 100, 62] : Str) then (if a0.2 = (0 : UInt8) then (if a0.1.1 = ([85, 68, 80] : Str) then (if a0.1.2.1 = ([104] : Str) then (if a0.1.2.2.1 = (5060 : Int) then (if a0.1.2.2.2.1 = ([122, 57] : Str) then (if a1.1 = (7 : Int) then (if a1.2.1 = ([73, 78, 86, 73, 84, 69] : Str) then some () else none) else none) else none) else none) else none) else none) else none) else none) else none) else none) else none)).bind fun (a2 : Unit) => some (decide (a1.2.2 = (0 : UInt8))))))))
def afu (fu : Nat) (s_0 : List PQ) : Option (List PQ) :=
  some s_0
def acl (fu : Nat) (a0 : PQ) (a1 : List PQ) : Option (Nat × (List PQ)) :=
  (gd ((a1.length + ([a0] : List PQ).length) * 40 ≤ 140737488355328) <| some (0, a1 ++ ([a0] : List PQ)))
def aaf (fu : Nat) (a1 : List PQ) : Nat → Int → (List PQ) → Option ((List PQ) × Nat)
  | 0, _, _ => none
  | a4 + 1, a0, a3 => (if a0 < (a1.length : Int) then (gd (0 ≤ a0 ∧ a0 < (a1.length : Int)) <| (gd (0 ≤ a0 ∧ a0 < (a1.length : Int)) <| ((acl fu ((el a1 a0).1, (el a1 a0).2.1, ((el a1 a0).2.2)) a3).bind fun (a2 : (Nat × (List PQ))) => (if a2.1 = 0 then (gd (acw (a0 + (1 : Int))) <| (aaf fu a1 a4 (a0 + (1 : Int)) a2.2)) else some (a2.2, a2.1))))) else some (a3, 0))
def abg (fu : Nat) (a0 : List PQ) (a1 : List PQ) : Option ((List PQ) × Nat) :=
  (aaf fu a1 fu (0 : Int) a0)
def ads (fu : Nat) (s_0 : List PQ) (a1 : List PQ) : Option (List PQ) :=
  ((abg fu s_0 a1).bind fun (a0 : ((List PQ) × Nat)) => (if a0.2 = 0 then some a0.1 else none))
def acz (fu : Nat) (a0 : List PQ) : Option (List PQ) :=
  ((ads fu ([] : List PQ) a0).bind fun (y1 : List PQ) => some y1)
def afb (fu : Nat) (a0 : PQ) (a1 : PQ) : Option Int :=
  ((agb fu a0.1 a1.1).bind fun (y7 : Int) => some y7)
def aae (fu : Nat) (a2 : Int) : Nat → (List PQ) → Int → Option (List PQ)
  | 0, _, _ => none
  | a3 + 1, a1, a0 => (((if a2 < a0 then (gd (0 ≤ a0 ∧ a0 < (a1.length : Int)) <| (gd (0 ≤ a0 ∧ a0 < (a1.length : Int)) <| (gd (acw (a0 - (1 : Int))) <| (gd (0 ≤ (a0 - (1 : Int)) ∧ (a0 - (1 : Int)) < (a1.length : Int)) <| (gd (0 ≤ (a0 - (1 : Int)) ∧ (a0 - (1 : Int)) < (a1.length : Int)) <| ((afb fu ((el a1 a0).1, (el a1 a0).2.1, ((el a1 a0).2.2)) ((el a1 (a0 - (1 : Int))).1, (el a1 (a0 - (1 : Int))).2.1, ((el a1 (a0 - (1 : Int))).2.2))).bind fun (a4 : Int) => some (decide (a4 < (0 : Int))))))))) else some false)).bind fun (a5 : Bool) => (bif a5 then (gd (acw (a0 - (1 : Int))) <| (gd (acw (a0 - (1 : Int))) <| (gd (0 ≤ (a0 - (1 : Int)) ∧ (a0 - (1 : Int)) < (a1.length : Int)) <| (gd (0 ≤ (a0 - (1 : Int)) ∧ (a0 - (1 : Int)) < (a1.length : Int)) <| (gd (0 ≤ a0 ∧ a0 < (a1.length : Int)) <| (gd (0 ≤ a0 ∧ a0 < (a1.length : Int)) <| (gd (0 ≤ a0 ∧ a0 < (a1.length : Int)) <| (gd (0 ≤ a0 ∧ a0 < (a1.length : Int)) <| (gd (0 ≤ (a0 - (1 : Int)) ∧ (a0 - (1 : Int)) < ((zaf a1 (zac a0) ((el a1 (a0 - (1 : Int))).1, (el a1 (a0 - (1 : Int))).2.1, ((el a1 (a0 - (1 : Int))).2.2))).length : Int)) <| (gd (0 ≤ (a0 - (1 : Int)) ∧ (a0 - (1 : Int)) < ((zaf a1 (zac a0) ((el a1 (a0 - (1 : Int))).1, (el a1 (a0 - (1 : Int))).2.1, ((el a1 (a0 - (1 : Int))).2.2))).length : Int)) <| (gd (acw (a0 - (1 : Int))) <| (aae fu a2 a3 (zaf (zaf a1 (zac a0) ((el a1 (a0 - (1 : Int))).1, (el a1 (a0 - (1 : Int))).2.1, ((el a1 (a0 - (1 : Int))).2.2))) (zac (a0 - (1 : Int))) ((el a1 a0).1, (el a1 a0).2.1, ((el a1 a0).2.2))) (a0 - (1 : Int)))))))))))))) else some a1))
def aac (fu : Nat) (a1 : Int) (a2 : Int) : Nat → (List PQ) → Int → Option (List PQ)
  | 0, _, _ => none
  | a4 + 1, a3, a0 => (if a0 < a2 then (((aae fu a1 fu a3 a0)).bind fun (a5 : List PQ) => (gd (acw (a0 + (1 : Int))) <| (aac fu a1 a2 a4 a5 (a0 + (1 : Int))))) else some a3)
def aai (fu : Nat) (a1 : List PQ) (a0 : Int) (a2 : Int) : Option (List PQ) :=
  (gd (acw (a0 + (1 : Int))) <| (aac fu a0 a2 fu a1 (a0 + (1 : Int))))
def aar (fu : Nat) (a3 : Int) (a2 : Int) (a4 : Int) : Nat → (List PQ) → Int → Option (List PQ)
  | 0, _, _ => none
  | a5 + 1, a1, a0 => (if a0 < a4 then (gd (acw (a3 + a0)) <| (gd (acw (a2 + a0)) <| (gd (acw (a2 + a0)) <| (gd (0 ≤ (a2 + a0) ∧ (a2 + a0) < (a1.length : Int)) <| (gd (0 ≤ (a2 + a0) ∧ (a2 + a0) < (a1.length : Int)) <| (gd (acw (a3 + a0)) <| (gd (0 ≤ (a3 + a0) ∧ (a3 + a0) < (a1.length : Int)) <| (gd (0 ≤ (a3 + a0) ∧ (a3 + a0) < (a1.length : Int)) <| (gd (0 ≤ (a3 + a0) ∧ (a3 + a0) < (a1.length : Int)) <| (gd (0 ≤ (a3 + a0) ∧ (a3 + a0) < (a1.length : Int)) <| (gd (0 ≤ (a2 + a0) ∧ (a2 + a0) < ((zaf a1 (zac (a3 + a0)) ((el a1 (a2 + a0)).1, (el a1 (a2 + a0)).2.1, ((el a1 (a2 + a0)).2.2))).length : Int)) <| (gd (0 ≤ (a2 + a0) ∧ (a2 + a0) < ((zaf a1 (zac (a3 + a0)) ((el a1 (a2 + a0)).1, (el a1 (a2 + a0)).2.1, ((el a1 (a2 + a0)).2.2))).length : Int)) <| (gd (acw (a0 + (1 : Int))) <| (aar fu a3 a2 a4 a5 (zaf (zaf a1 (zac (a3 + a0)) ((el a1 (a2 + a0)).1, (el a1 (a2 + a0)).2.1, ((el a1 (a2 + a0)).2.2))) (zac (a2 + a0)) ((el a1 (a3 + a0)).1, (el a1 (a3 + a0)).2.1, ((el a1 (a3 + a0)).2.2))) (a0 + (1 : Int)))))))))))))))) else some a1)
def aay (fu : Nat) (a0 : List PQ) (a1 : Int) (a2 : Int) (a3 : Int) : Option (List PQ) :=
  (aar fu a1 a2 a3 fu a0 (0 : Int))
def aax (fu : Nat) (a2 : Int) : Nat → (List PQ) → Int → Int → Option ((List PQ) × Int)
  | 0, _, _, _ => none
  | a4 + 1, a3, a0, a1 => (if a0 = a1 then some (a3, a0) else (if a1 < a0 then (gd (acw (a2 - a0)) <| ((aay fu a3 (a2 - a0) a2 a1).bind fun (a5 : List PQ) => (gd (acw (a0 - a1)) <| (aax fu a2 a4 a5 (a0 - a1) a1)))) else (gd (acw (a2 - a0)) <| (gd (acw (a2 + a1)) <| (gd (acw ((a2 + a1) - a0)) <| ((aay fu a3 (a2 - a0) ((a2 + a1) - a0) a0).bind fun (a6 : List PQ) => (gd (acw (a1 - a0)) <| (aax fu a2 a4 a6 a0 (a1 - a0)))))))))
def abl (fu : Nat) (a4 : List PQ) (a2 : Int) (a0 : Int) (a3 : Int) : Option (List PQ) :=
  (gd (acw (a0 - a2)) <| (gd (acw (a3 - a0)) <| (((aax fu a0 fu a4 (a0 - a2) (a3 - a0))).bind fun (a1 : ((List PQ) × Int)) => (gd (acw (a0 - a1.2)) <| ((aay fu a1.1 (a0 - a1.2) a0 a1.2).bind fun (a5 : List PQ) => some a5)))))
open Go.Lib renaming cut → zaB
open List renaming drop → zak, set → zaf, take → zas
def aan (fu : Nat) (a2 : List PQ) (a3 : Int) : Nat → Int → Int → Option Int
  | 0, _, _ => none
  | a4 + 1, a0, a1 => (if a0 < a1 then (gd (acw (a0 + a1)) <| (gd (0 ≤ (zaa .i64 ((zaa .u64 (a0 + a1)) / 2)) ∧ (zaa .i64 ((zaa .u64 (a0 + a1)) / 2)) < (a2.length : Int)) <| (gd (0 ≤ (zaa .i64 ((zaa .u64 (a0 + a1)) / 2)) ∧ (zaa .i64 ((zaa .u64 (a0 + a1)) / 2)) < (a2.length : Int)) <| (gd (0 ≤ a3 ∧ a3 < (a2.length : Int)) <| (gd (0 ≤ a3 ∧ a3 < (a2.length : Int)) <| ((afb fu ((el a2 (zaa .i64 ((zaa .u64 (a0 + a1)) / 2))).1, (el a2 (zaa .i64 ((zaa .u64 (a0 + a1)) / 2))).2.1, ((el a2 (zaa .i64 ((zaa .u64 (a0 + a1)) / 2))).2.2)) ((el a2 a3).1, (el a2 a3).2.1, ((el a2 a3).2.2))).bind fun (a5 : Int) => (if a5 < (0 : Int) then (gd (acw ((zaa .i64 ((zaa .u64 (a0 + a1)) / 2)) + (1 : Int))) <| (aan fu a2 a3 a4 ((zaa .i64 ((zaa .u64 (a0 + a1)) / 2)) + (1 : Int)) a1)) else (aan fu a2 a3 a4 a0 (zaa .i64 ((zaa .u64 (a0 + a1)) / 2)))))))))) else some a0)
def aau (fu : Nat) (a2 : Int) : Nat → (List PQ) → Int → Option (List PQ)
  | 0, _, _ => none
  | a3 + 1, a1, a0 => (gd (acw (a2 - (1 : Int))) <| (if a0 < (a2 - (1 : Int)) then (gd (acw (a0 + (1 : Int))) <| (gd (acw (a0 + (1 : Int))) <| (gd (0 ≤ (a0 + (1 : Int)) ∧ (a0 + (1 : Int)) < (a1.length : Int)) <| (gd (0 ≤ (a0 + (1 : Int)) ∧ (a0 + (1 : Int)) < (a1.length : Int)) <| (gd (0 ≤ a0 ∧ a0 < (a1.length : Int)) <| (gd (0 ≤ a0 ∧ a0 < (a1.length : Int)) <| (gd (0 ≤ a0 ∧ a0 < (a1.length : Int)) <| (gd (0 ≤ a0 ∧ a0 < (a1.length : Int)) <| (gd (0 ≤ (a0 + (1 : Int)) ∧ (a0 + (1 : Int)) < ((zaf a1 (zac a0) ((el a1 (a0 + (1 : Int))).1, (el a1 (a0 + (1 : Int))).2.1, ((el a1 (a0 + (1 : Int))).2.2))).length : Int)) <| (gd (0 ≤ (a0 + (1 : Int)) ∧ (a0 + (1 : Int)) < ((zaf a1 (zac a0) ((el a1 (a0 + (1 : Int))).1, (el a1 (a0 + (1 : Int))).2.1, ((el a1 (a0 + (1 : Int))).2.2))).length : Int)) <| (gd (acw (a0 + (1 : Int))) <| (aau fu a2 a3 (zaf (zaf a1 (zac a0) ((el a1 (a0 + (1 : Int))).1, (el a1 (a0 + (1 : Int))).2.1, ((el a1 (a0 + (1 : Int))).2.2))) (zac (a0 + (1 : Int))) ((el a1 a0).1, (el a1 a0).2.1, ((el a1 a0).2.2))) (a0 + (1 : Int)))))))))))))) else some a1))
def aam (fu : Nat) (a2 : List PQ) (a3 : Int) : Nat → Int → Int → Option Int
  | 0, _, _ => none
  | a4 + 1, a0, a1 => (if a0 < a1 then (gd (acw (a0 + a1)) <| (gd (0 ≤ a3 ∧ a3 < (a2.length : Int)) <| (gd (0 ≤ a3 ∧ a3 < (a2.length : Int)) <| (gd (0 ≤ (zaa .i64 ((zaa .u64 (a0 + a1)) / 2)) ∧ (zaa .i64 ((zaa .u64 (a0 + a1)) / 2)) < (a2.length : Int)) <| (gd (0 ≤ (zaa .i64 ((zaa .u64 (a0 + a1)) / 2)) ∧ (zaa .i64 ((zaa .u64 (a0 + a1)) / 2)) < (a2.length : Int)) <| ((afb fu ((el a2 a3).1, (el a2 a3).2.1, ((el a2 a3).2.2)) ((el a2 (zaa .i64 ((zaa .u64 (a0 + a1)) / 2))).1, (el a2 (zaa .i64 ((zaa .u64 (a0 + a1)) / 2))).2.1, ((el a2 (zaa .i64 ((zaa .u64 (a0 + a1)) / 2))).2.2))).bind fun (a5 : Int) => (if a5 < (0 : Int) then (aam fu a2 a3 a4 a0 (zaa .i64 ((zaa .u64 (a0 + a1)) / 2))) else (gd (acw ((zaa .i64 ((zaa .u64 (a0 + a1)) / 2)) + (1 : Int))) <| (aam fu a2 a3 a4 ((zaa .i64 ((zaa .u64 (a0 + a1)) / 2)) + (1 : Int)) a1))))))))) else some a0)
def aat (fu : Nat) (a2 : Int) : Nat → (List PQ) → Int → Option (List PQ)
  | 0, _, _ => none
  | a3 + 1, a1, a0 => (if a2 < a0 then (gd (acw (a0 - (1 : Int))) <| (gd (acw (a0 - (1 : Int))) <| (gd (0 ≤ (a0 - (1 : Int)) ∧ (a0 - (1 : Int)) < (a1.length : Int)) <| (gd (0 ≤ (a0 - (1 : Int)) ∧ (a0 - (1 : Int)) < (a1.length : Int)) <| (gd (0 ≤ a0 ∧ a0 < (a1.length : Int)) <| (gd (0 ≤ a0 ∧ a0 < (a1.length : Int)) <| (gd (0 ≤ a0 ∧ a0 < (a1.length : Int)) <| (gd (0 ≤ a0 ∧ a0 < (a1.length : Int)) <| (gd (0 ≤ (a0 - (1 : Int)) ∧ (a0 - (1 : Int)) < ((zaf a1 (zac a0) ((el a1 (a0 - (1 : Int))).1, (el a1 (a0 - (1 : Int))).2.1, ((el a1 (a0 - (1 : Int))).2.2))).length : Int)) <| (gd (0 ≤ (a0 - (1 : Int)) ∧ (a0 - (1 : Int)) < ((zaf a1 (zac a0) ((el a1 (a0 - (1 : Int))).1, (el a1 (a0 - (1 : Int))).2.1, ((el a1 (a0 - (1 : Int))).2.2))).length : Int)) <| (gd (acw (a0 - (1 : Int))) <| (aat fu a2 a3 (zaf (zaf a1 (zac a0) ((el a1 (a0 - (1 : Int))).1, (el a1 (a0 - (1 : Int))).2.1, ((el a1 (a0 - (1 : Int))).2.2))) (zac (a0 - (1 : Int))) ((el a1 a0).1, (el a1 a0).2.1, ((el a1 a0).2.2))) (a0 - (1 : Int)))))))))))))) else some a1)
def aal (fu : Nat) (a2 : List PQ) (a3 : Int) (a4 : Int) (a5 : Int) : Nat → Int → Int → Option Int
  | 0, _, _ => none
  | a6 + 1, a0, a1 => (if a0 < a1 then (gd (acw (a0 + a1)) <| (gd (acw ((((zaa .i64 ((zaa .u64 (a3 + a5)) / 2)) + a4) - (1 : Int)) - (zaa .i64 ((zaa .u64 (a0 + a1)) / 2)))) <| (gd (0 ≤ ((((zaa .i64 ((zaa .u64 (a3 + a5)) / 2)) + a4) - (1 : Int)) - (zaa .i64 ((zaa .u64 (a0 + a1)) / 2))) ∧ ((((zaa .i64 ((zaa .u64 (a3 + a5)) / 2)) + a4) - (1 : Int)) - (zaa .i64 ((zaa .u64 (a0 + a1)) / 2))) < (a2.length : Int)) <| (gd (0 ≤ ((((zaa .i64 ((zaa .u64 (a3 + a5)) / 2)) + a4) - (1 : Int)) - (zaa .i64 ((zaa .u64 (a0 + a1)) / 2))) ∧ ((((zaa .i64 ((zaa .u64 (a3 + a5)) / 2)) + a4) - (1 : Int)) - (zaa .i64 ((zaa .u64 (a0 + a1)) / 2))) < (a2.length : Int)) <| (gd (0 ≤ (zaa .i64 ((zaa .u64 (a0 + a1)) / 2)) ∧ (zaa .i64 ((zaa .u64 (a0 + a1)) / 2)) < (a2.length : Int)) <| (gd (0 ≤ (zaa .i64 ((zaa .u64 (a0 + a1)) / 2)) ∧ (zaa .i64 ((zaa .u64 (a0 + a1)) / 2)) < (a2.length : Int)) <| ((afb fu ((el a2 ((((zaa .i64 ((zaa .u64 (a3 + a5)) / 2)) + a4) - (1 : Int)) - (zaa .i64 ((zaa .u64 (a0 + a1)) / 2)))).1, (el a2 ((((zaa .i64 ((zaa .u64 (a3 + a5)) / 2)) + a4) - (1 : Int)) - (zaa .i64 ((zaa .u64 (a0 + a1)) / 2)))).2.1, ((el a2 ((((zaa .i64 ((zaa .u64 (a3 + a5)) / 2)) + a4) - (1 : Int)) - (zaa .i64 ((zaa .u64 (a0 + a1)) / 2)))).2.2)) ((el a2 (zaa .i64 ((zaa .u64 (a0 + a1)) / 2))).1, (el a2 (zaa .i64 ((zaa .u64 (a0 + a1)) / 2))).2.1, ((el a2 (zaa .i64 ((zaa .u64 (a0 + a1)) / 2))).2.2))).bind fun (a7 : Int) => (if a7 < (0 : Int) then (aal fu a2 a3 a4 a5 a6 a0 (zaa .i64 ((zaa .u64 (a0 + a1)) / 2))) else (gd (acw ((zaa .i64 ((zaa .u64 (a0 + a1)) / 2)) + (1 : Int))) <| (aal fu a2 a3 a4 a5 a6 ((zaa .i64 ((zaa .u64 (a0 + a1)) / 2)) + (1 : Int)) a1)))))))))) else some a0)
def aaj : Nat → (List PQ) → Int → Int → Int → Option (List PQ)
  | 0, _, _, _, _ => none
  | fu + 1, a4, a0, a2, a1 => (((gd (acw (a2 - a0)) <| (if (a2 - a0) = (1 : Int) then (((aan fu a4 a0 fu a2 a1)).bind fun (a8 : Int) => (((aau fu a8 fu a4 a0)).bind fun (a9 : List PQ) => some (.inr a9))) else some (.inl ())))).bind fun (b0 : (Unit ⊕ (List PQ))) => zaC (fun (c0 : Unit) => (((gd (acw (a1 - a2)) <| (if (a1 - a2) = (1 : Int) then (((aam fu a4 a2 fu a0 a2)).bind fun (b1 : Int) => (((aat fu b1 fu a4 a2)).bind fun (b2 : List PQ) => some (.inr b2))) else some (.inl ())))).bind fun (b3 : (Unit ⊕ (List PQ))) => zaC (fun (c1 : Unit) => (gd (acw (a0 + a1)) <| (gd (acw ((zaa .i64 ((zaa .u64 (a0 + a1)) / 2)) + a2)) <| (((if (zaa .i64 ((zaa .u64 (a0 + a1)) / 2)) < a2 then (gd (acw (((zaa .i64 ((zaa .u64 (a0 + a1)) / 2)) + a2) - a1)) <| some (((zaa .i64 ((zaa .u64 (a0 + a1)) / 2)) + a2) - a1, zaa .i64 ((zaa .u64 (a0 + a1)) / 2))) else some (a0, a2))).bind fun (a5 : (Int × Int)) => (gd (acw (((zaa .i64 ((zaa .u64 (a0 + a1)) / 2)) + a2) - (1 : Int))) <| (((aal fu a4 a0 a2 a1 fu a5.1 a5.2)).bind fun (a3 : Int) => (gd (acw (((zaa .i64 ((zaa .u64 (a0 + a1)) / 2)) + a2) - a3)) <| (((((if a3 < a2 then some (decide (a2 < (((zaa .i64 ((zaa .u64 (a0 + a1)) / 2)) + a2) - a3))) else some false)).bind fun (b4 : Bool) => (bif b4 then ((abl fu a4 a3 a2 (((zaa .i64 ((zaa .u64 (a0 + a1)) / 2)) + a2) - a3)).bind fun (b5 : List PQ) => some b5) else some a4))).bind fun (a6 : List PQ) => (((((if a0 < a3 then some (decide (a3 < (zaa .i64 ((zaa .u64 (a0 + a1)) / 2)))) else some false)).bind fun (b6 : Bool) => (bif b6 then ((aaj fu a6 a0 a3 (zaa .i64 ((zaa .u64 (a0 + a1)) / 2))).bind fun (b7 : List PQ) => some b7) else some a6))).bind fun (a7 : List PQ) => (((if (zaa .i64 ((zaa .u64 (a0 + a1)) / 2)) < (((zaa .i64 ((zaa .u64 (a0 + a1)) / 2)) + a2) - a3) then some (decide ((((zaa .i64 ((zaa .u64 (a0 + a1)) / 2)) + a2) - a3) < a1)) else some false)).bind fun (b8 : Bool) => (bif b8 then ((aaj fu a7 (zaa .i64 ((zaa .u64 (a0 + a1)) / 2)) (((zaa .i64 ((zaa .u64 (a0 + a1)) / 2)) + a2) - a3) a1).bind fun (b9 : List PQ) => some b9) else some a7))))))))))) (fun q => some q) b3)) (fun q => some q) b0)
def aah (fu : Nat) (a1 : Int) : Nat → (List PQ) → Int → Int → Option ((List PQ) × Int)
  | 0, _, _, _ => none
  | a4 + 1, a2, a3, a0 => (if a0 ≤ a1 then ((aai fu a2 a3 a0).bind fun (a5 : List PQ) => (gd (acw (a0 + (20 : Int))) <| (aah fu a1 a4 a5 a0 (a0 + (20 : Int))))) else some (a2, a3))
def aao (fu : Nat) (a3 : Int) (a0 : Int) : Nat → (List PQ) → Int → Int → Option ((List PQ) × Int)
  | 0, _, _, _ => none
  | a5 + 1, a4, a2, a1 => (if a1 ≤ a3 then (gd (acw (a2 + a0)) <| ((aaj fu a4 a2 (a2 + a0) a1).bind fun (a6 : List PQ) => (gd (acw ((2 : Int) * a0)) <| (gd (acw (a1 + ((2 : Int) * a0))) <| (aao fu a3 a0 a5 a6 a1 (a1 + ((2 : Int) * a0))))))) else some (a4, a2))
def aad (fu : Nat) (a1 : Int) : Nat → (List PQ) → Int → Option (List PQ)
  | 0, _, _ => none
  | a3 + 1, a4, a0 => (if a0 < a1 then (gd (acw ((2 : Int) * a0)) <| (((aao fu a1 a0 fu a4 (0 : Int) ((2 : Int) * a0))).bind fun (a2 : ((List PQ) × Int)) => (gd (acw (a2.2 + a0)) <| (if (a2.2 + a0) < a1 then ((aaj fu a2.1 a2.2 (a2.2 + a0) a1).bind fun (a5 : List PQ) => (gd (acw (a0 * (2 : Int))) <| (aad fu a1 a3 a5 (a0 * (2 : Int))))) else (gd (acw (a0 * (2 : Int))) <| (aad fu a1 a3 a2.1 (a0 * (2 : Int)))))))) else some a4)
def abx (fu : Nat) (a2 : List PQ) (a0 : Int) : Option (List PQ) :=
  (((aah fu a0 fu a2 (0 : Int) (20 : Int))).bind fun (a1 : ((List PQ) × Int)) => ((aai fu a1.1 a1.2 a0).bind fun (a3 : List PQ) => (aad fu a0 fu a3 (20 : Int))))
def abw (fu : Nat) (a0 : List PQ) : Option (List PQ) :=
  ((abx fu a0 (a0.length : Int)).bind fun (y1 : List PQ) => some y1)
def abb (fu : Nat) (a0 : List PQ) : Option (List PQ) :=
  ((acz fu a0).bind fun (y1 : List PQ) => ((abw fu y1).bind fun (y9 : List PQ) => some y9))
def afv (fu : Nat) (a0 : List PQ) : Option (List PQ) :=
  ((afu fu a0).bind fun (y1 : List PQ) => ((abb fu a0).bind fun (y7 : List PQ) => some y7))
def agy (fu : Nat) (a0 : (Str × (List PQ))) : Option (Str × UInt8) :=
  (gd (a0.1.length ≤ 1000000000) <| ((((afk fu ((zaB a0.1 ([47] : Str)).1)).bind fun (a2 : Bool) => (bif (!a2) then some true else (bif ((zaB a0.1 ([47] : Str)).2.2) then ((afk fu ((zaB a0.1 ([47] : Str)).2.1)).bind fun (a3 : Bool) => some (!a3)) else some false)))).bind fun (a4 : Bool) => (bif a4 then some (([] : Str), (2 : UInt8)) else ((afv fu a0.2).bind fun (a5 : List PQ) => ((adi fu a5).bind fun (a1 : (Str × UInt8)) => (if a1.2 = (0 : UInt8) then (gd (a0.1.length + a1.1.length ≤ 9223372036854775807) <| some (a0.1 ++ a1.1, (0 : UInt8))) else some (([] : Str), (2 : UInt8))))))))
def akn (fu : Nat) (a3 : Str) : Option ((Str × (List PQ)) × UInt8) :=
  ((agd fu a3).bind fun (y4 : Str) => ((aep fu y4 (0 : Int)).bind fun (y9 : Int) => (if y9 = (0 : Int) then some ((([] : Str), ([] : List PQ)), (5 : UInt8)) else (((((if y9 < (y4.length : Int) then (gd (0 ≤ y9 ∧ y9 < (y4.length : Int)) <| some (decide ((at_ y4 y9) = (47 : UInt8)))) else some false)).bind fun (a4 : Bool) => (bif a4 then (gd (acw (y9 + (1 : Int))) <| ((aep fu y4 (y9 + (1 : Int))).bind fun (a2 : Int) => (gd (acw (y9 + (1 : Int))) <| (if a2 = (y9 + (1 : Int)) then some (.inr ((([] : Str), ([] : List PQ)), (5 : UInt8))) else some (.inl a2))))) else some (.inl y9)))).bind fun (a5 : (Int ⊕ ((Str × (List PQ)) × UInt8))) => zaC (fun (a0 : Int) => (gd (0 ≤ a0 ∧ a0 ≤ (y4.length : Int)) <| ((afp fu (zak (zac a0) y4)).bind fun (a1 : ((List PQ) × Int × UInt8)) => (if a1.2.2 = (0 : UInt8) then (gd (0 ≤ a0 ∧ a0 ≤ (y4.length : Int)) <| some ((zas (zac a0) y4, a1.1), (0 : UInt8))) else some ((([] : Str), ([] : List PQ)), a1.2.2))))) (fun q => some q) a5))))
def afj (fu : Nat) (a2 : List PQ) (a3 : List PQ) (a1 : Int) : Nat → Int → Option Int
  | 0, _ => none
  | a4 + 1, a0 => (((if (0 : Int) < a0 then (gd (acw (a0 - (1 : Int))) <| (gd (0 ≤ (a0 - (1 : Int)) ∧ (a0 - (1 : Int)) < (a3.length : Int)) <| (gd (0 ≤ (a0 - (1 : Int)) ∧ (a0 - (1 : Int)) < (a3.length : Int)) <| (gd (0 ≤ a1 ∧ a1 < (a2.length : Int)) <| (gd (0 ≤ a1 ∧ a1 < (a2.length : Int)) <| some (!(zay ((el a3 (a0 - (1 : Int))).1) ((el a2 a1).1) || ((el a3 (a0 - (1 : Int))).1) == ((el a2 a1).1)))))))) else some false)).bind fun (a5 : Bool) => (bif a5 then (gd (acw (a0 - (1 : Int))) <| (afj fu a2 a3 a1 a4 (a0 - (1 : Int)))) else some a0))
def aet (fu : Nat) (a1 : List PQ) : Nat → (List PQ) → Int → Option (List PQ)
  | 0, _, _ => none
  | a4 + 1, a2, a0 => (if a0 < (a1.length : Int) then (((((afj fu a1 a2 a0 fu (a2.length : Int))).bind fun (a3 : Int) => (gd (0 ≤ a3 ∧ a3 ≤ (a2.length : Int)) <| (gd ((([] : List PQ).length + (zas (zac a3) a2).length) * 40 ≤ 140737488355328) <| (gd (0 ≤ a0 ∧ a0 < (a1.length : Int)) <| (gd (0 ≤ a0 ∧ a0 < (a1.length : Int)) <| (gd (((([] : List PQ) ++ (zas (zac a3) a2)).length + ([((el a1 a0).1, (el a1 a0).2.1, ((el a1 a0).2.2))] : List PQ).length) * 40 ≤ 140737488355328) <| (gd (0 ≤ a3 ∧ a3 ≤ (a2.length : Int)) <| (gd ((((([] : List PQ) ++ (zas (zac a3) a2)) ++ ([((el a1 a0).1, (el a1 a0).2.1, ((el a1 a0).2.2))] : List PQ)).length + (zak (zac a3) a2).length) * 40 ≤ 140737488355328) <| some (((([] : List PQ) ++ (zas (zac a3) a2)) ++ ([((el a1 a0).1, (el a1 a0).2.1, ((el a1 a0).2.2))] : List PQ)) ++ (zak (zac a3) a2))))))))))).bind fun (a5 : List PQ) => (gd (acw (a0 + (1 : Int))) <| (aet fu a1 a4 a5 (a0 + (1 : Int))))) else some a2)
def ajx (fu : Nat) (a0 : List PQ) : Option (List PQ) :=
  (((aet fu a0 fu ([] : List PQ) (0 : Int))).bind fun (a1 : List PQ) => some a1)
def adp (fu : Nat) (a1 : List PQ) (a2 : List PQ) : Nat → Int → Option (Unit ⊕ Bool)
  | 0, _ => none
  | a3 + 1, a0 => (if a0 < (a1.length : Int) then (gd (0 ≤ a0 ∧ a0 < (a1.length : Int)) <| (gd (0 ≤ a0 ∧ a0 < (a1.length : Int)) <| (gd (0 ≤ a0 ∧ a0 < (a2.length : Int)) <| (gd (0 ≤ a0 ∧ a0 < (a2.length : Int)) <| (if ((el a1 a0).1, (el a1 a0).2.1, ((el a1 a0).2.2)) = ((el a2 a0).1, (el a2 a0).2.1, ((el a2 a0).2.2)) then (gd (acw (a0 + (1 : Int))) <| (adp fu a1 a2 a3 (a0 + (1 : Int)))) else some (.inr false)))))) else some (.inl ()))
def agw (fu : Nat) (a0 : List PQ) (a1 : List PQ) : Option Bool :=
  (if (a0.length : Int) = (a1.length : Int) then (((adp fu a0 a1 fu (0 : Int))).bind fun (a2 : (Unit ⊕ Bool)) => zaC (fun (a3 : Unit) => some true) (fun q => some q) a2) else some false)
def agl (fu : Nat) (a0 : (Str × (List PQ))) : Option Bool :=
  (if (40 : Int) < (a0.2.length : Int) then ((aji fu).bind fun (y5 : Bool) => some y5) else ((agy fu a0).bind fun (a1 : (Str × UInt8)) => (if a1.2 = (0 : UInt8) then ((akn fu a1.1).bind fun (a2 : ((Str × (List PQ)) × UInt8)) => (((if a2.2 = (0 : UInt8) then (if a2.1.1 = a0.1 then ((ajx fu a0.2).bind fun (a3 : List PQ) => ((agw fu a2.1.2 a3).bind fun (a4 : Bool) => (bif a4 then ((aji fu).bind fun (a5 : Bool) => some a5) else some false))) else some false) else some false)).bind fun (a6 : Bool) => some a6)) else (((if a1.2 = (2 : UInt8) then (if a1.1 = ([] : Str) then ((aji fu).bind fun (a7 : Bool) => some a7) else some false) else some false)).bind fun (a8 : Bool) => some a8))))
end Go.Wk
set_option maxRecDepth 100000
namespace Go.Wk
open Go.Px
open Int renaming toNat → zac
open List renaming length_append → zan, length_cons → zam, set → zaf
open Option renaming bind_some → zab
def FU : Nat := 18446744073709551616
theorem aks : FU = 18446744073709551616 := rfl
theorem at_mid (p : Str) (c : UInt8) (l : Str) : at_ (p ++ c :: l) (p.length : Int) = c := by simp [at_]
theorem set_mid (p : Str) (c x : UInt8) (l : Str) : zaf (p ++ c :: l) (zac (p.length : Int)) x = (p ++ [x]) ++ l := by simp
theorem len_snoc (p : Str) (x : UInt8) : ((p.length : Int) + 1) = ((p ++ [x]).length : Int) := by simp
theorem akt (a : Int) (h0 : 0 ≤ a) (h : a ≤ 9223372036854775807) : acw a := ⟨by omega, by omega⟩
theorem char_token (fu : Nat) (c : UInt8) : agx fu c = some (aba c) := by
  show agx 0 c = _
  revert c; exact afs _ (by decide +kernel)
theorem tokEnd_lp {fu : Nat} (s : Str) (hs : s.length ≤ 9223372036854775807) (n : Nat) : ∀ (k fk : Nat), k + n = s.length → n < fk →
    ace fu s fk (k : Int) = some ((k + ajv aba (s.drop k) : Nat) : Int) := by
  induction n with
  | zero =>
    intro k fk hk hf
    obtain ⟨fk, rfl⟩ := fkx fk
    rw [ace, if_neg omg, List.drop_eq_nil_of_le omg]
    simp [ajv]
  | succ n ih =>
    intro k fk hk hf
    obtain ⟨fk, rfl⟩ := fkx fk
    rw [ace, if_pos omg, aag omg, char_token, drop_at s k omg]
    simp only [zab]
    cases h : aba (at_ s k)
    · simp [ajv, h]
    · rw [cond_true]
      rw [aag (akt _ omg omg)]
      have e : ((k : Int) + 1) = ((k + 1 : Nat) : Int) := rfl
      rw [e, ih (k + 1) fk omg omg]
      have e2 : ajv aba (at_ s k :: s.drop (k + 1)) = 1 + ajv aba (s.drop (k + 1)) := by simp [ajv, h, Nat.add_comm]
      rw [e2, Nat.add_assoc]
theorem skipTok_eq (s : Str) (hs : s.length ≤ 9223372036854775807) (i : Int) : aea FU s i = some ((ach aba s i : Nat) : Int) := by
  unfold aea ach
  have h : min (max i 0) (s.length : Int) = ((akl i s.length : Nat) : Int) := by unfold akl; omega
  have := clampN_le i s.length
  rw [h, tokEnd_lp s hs (s.length - akl i s.length) _ FU omg (by rw [aks]; omega)]
  rfl
theorem tok_cases (s : Str) : (if s = [] then some false else some (decide (((ach aba s 0 : Nat) : Int) = (s.length : Int)))) = some (ajg s) := by
  have := tok_iff s
  by_cases h : s = []
  · subst h; rfl
  · rw [if_neg h]; congr 1
    by_cases h2 : ((ach aba s 0 : Nat) : Int) = (s.length : Int)
    · rw [decide_eq_true h2, this.1 ⟨h, h2⟩]
    · rw [decide_eq_false h2]
      cases h3 : ajg s
      · rfl
      · exact absurd (this.2 h3).2 h2
theorem token_eq (s : Str) (hs : s.length ≤ 9223372036854775807) : afk FU s = some (ajg s) := by
  unfold afk aep
  rw [skipTok_eq s hs]
  simp only [zab, Option.bind_fun_some]
  exact tok_cases s
theorem mid_lt (p : Str) (c : UInt8) (l : Str) : (0 : Int) ≤ (p.length : Int) ∧ (p.length : Int) < ((p ++ c :: l).length : Int) := by
  rw [zan, zam]; omega
theorem lowerB_up (c : UInt8) (h1 : 65 ≤ c) (h2 : c ≤ 90) : c + 32 = aki c := by simp [aki, h1, h2]
theorem lowerB_no (c : UInt8) (h : ¬ (65 ≤ c ∧ c ≤ 90)) : aki c = c := by simp only [aki, if_neg h]
open Bool renaming and_eq_true → zau, not_true → zat
open List renaming length_append → zan, length_cons → zam, length_nil → zaw, length_singleton → zai
open Sum renaming elim → zaC, elim_inl → zav
theorem gok {α : Type} {p : Prop} [Decidable p] {k : Option α} (h : p := by first | omega | exact akt _ omg omg | (simp only [zan, zam, zaw, zai]; omega)) : gd p k = k := aag h
theorem anj (k : Nat) : (k : Int) + 1 = ((k + 1 : Nat) : Int) := rfl
theorem skip_gen (p : UInt8 → Bool) (s : Str) (F : Nat → Int → Option Int)
    (h0 : ∀ fk, F (fk + 1) (s.length : Int) = some (s.length : Int))
    (h1 : ∀ fk (k : Nat), k < s.length → p (at_ s k) = false → F (fk + 1) (k : Int) = some (k : Int))
    (h2 : ∀ fk (k : Nat), k < s.length → p (at_ s k) = true → F (fk + 1) (k : Int) = F fk ((k : Int) + 1)) (n : Nat) :
    ∀ (k fk : Nat), k + n = s.length → n < fk → F fk (k : Int) = some ((k + ajv p (s.drop k) : Nat) : Int) := by
  induction n with
  | zero =>
    intro k fk hk hf
    obtain ⟨fk, rfl⟩ := fkx fk
    obtain rfl : k = s.length := by omega
    rw [h0, List.drop_length]; rfl
  | succ n ih =>
    intro k fk hk hf
    obtain ⟨fk, rfl⟩ := fkx fk
    rw [drop_at s k omg]
    cases h : p (at_ s k)
    · rw [h1 fk k omg h]; simp [ajv, h]
    · rw [h2 fk k omg h, anj, ih (k + 1) fk omg omg]
      have e2 : ajv p (at_ s k :: s.drop (k + 1)) = 1 + ajv p (s.drop (k + 1)) := by simp [ajv, h, Nat.add_comm]
      rw [e2, Nat.add_assoc]
theorem clamp_int (i : Int) (n : Nat) : min (max i 0) (n : Int) = ((akl i n : Nat) : Int) := by unfold akl; omega
theorem span_app (p : UInt8 → Bool) : ∀ (a b : Str), a.all p = true → ajv p (a ++ b) = a.length + ajv p b
  | [], b, _ => by simp
  | c :: a, b, h => by
    rw [List.all_cons, zau] at h
    rw [List.cons_append, ajv, if_pos h.1, span_app p a b h.2, zam]; omega
theorem span_no (p : UInt8 → Bool) (c : UInt8) (l : Str) (h : p c = false) : ajv p (c :: l) = 0 := by rw [ajv, if_neg (by simp [h])]
theorem char_blank (fu : Nat) (c : UInt8) : afx fu c = some (abv c) := by
  show afx 0 c = _
  revert c; exact afs _ (by decide +kernel)
theorem char_control (fu : Nat) (c : UInt8) : afn fu c = some (adg c) := by
  show afn 0 c = _
  revert c; exact afs _ (by decide +kernel)
theorem char_escaped (fu : Nat) (c : UInt8) : aga fu c = some (escapedB c) := by
  show aga 0 c = _
  revert c; exact afs _ (by decide +kernel)
theorem blanks_eq (s : Str) (hs : s.length ≤ 4194304) (i : Int) : age FU s i = some ((ach abv s i : Nat) : Int) := by
  unfold age aex
  have hc := clampN_le i s.length
  rw [clamp_int, skip_gen abv s (abp FU s) ?_ ?_ ?_ (s.length - akl i s.length) _ FU omg (by rw [aks]; omega)]
  · rfl
  · intro fk; rw [abp, if_neg omg]; rfl
  · intro fk k hk h; rw [abp, if_pos omg, gok, char_blank, h]; rfl
  · intro fk k hk h; rw [abp, if_pos omg, gok, char_blank, h, zab, zab, cond_true, gok]
def rdw (p : UInt8 → Bool) (l : Str) : Str := (l.reverse.dropWhile p).reverse
theorem rdw_cons (p : UInt8 → Bool) (c : UInt8) (l : Str) : rdw p (c :: l) = if rdw p l = [] then (if p c then [] else [c]) else c :: rdw p l := by
  unfold rdw
  rw [List.reverse_cons, List.dropWhile_append]
  cases h : l.reverse.dropWhile p with
  | nil => cases hp : p c <;> simp [hp]
  | cons a t => simp
theorem rdw_comm (p : UInt8 → Bool) : ∀ l : Str, (rdw p l).dropWhile p = rdw p (l.dropWhile p)
  | [] => rfl
  | c :: l => by
    have ih := rdw_comm p l
    cases hp : p c
    · have e : List.dropWhile p (c :: l) = c :: l := by simp [hp]
      rw [e, rdw_cons]
      split <;> simp [hp]
    · have e : List.dropWhile p (c :: l) = l.dropWhile p := by simp [hp]
      rw [e, ← ih, rdw_cons]
      split
      · rename_i h; simp [h, hp]
      · simp [hp]
def trimL (s : Str) : Str := rdw abv (s.dropWhile abv)
theorem blank_set : (fun c => ([32, 9] : Str).contains c) = abv := by
  funext c; revert c; exact afs _ (by decide +kernel)
theorem trimS_eq (s : Str) : Lib.trimS s [32, 9] = trimL s := by
  unfold Lib.trimS Lib.trimLeftS Lib.trimRightS trimL
  rw [blank_set]; exact rdw_comm abv s
theorem trim_eq (s : Str) (hs : s.length ≤ 4194304) : agd FU s = some (trimL s) := by
  unfold agd
  rw [gok, aag (by decide), trimS_eq]
theorem skipL_zero (p : UInt8 → Bool) (s : Str) : ach p s 0 = ajv p s := by
  have h0 : akl 0 s.length = 0 := by unfold akl; omega
  unfold ach; rw [h0]; simp
theorem rdw_len (p : UInt8 → Bool) (l : Str) : (rdw p l).length ≤ l.length := by
  unfold rdw; have := anl p l.reverse; simpa using this
theorem trimL_len (s : Str) : (trimL s).length ≤ s.length := Nat.le_trans (rdw_len _ _) (anl _ _)
def unqL : Str → Nat → Str → Str × Int × UInt8
  | [], k, _ => ([], (k : Int), 6)
  | [c], k, acc => if c = 34 then (acc, ((k + 1 : Nat) : Int), 0) else if c = 92 then ([], ((k + 1 : Nat) : Int), 6) else if adg c then ([], (k : Int), 5) else ([], ((k + 1 : Nat) : Int), 6)
  | c :: d :: r, k, acc =>
    if c = 34 then (acc, ((k + 1 : Nat) : Int), 0)
    else if c = 92 then (if escapedB d then unqL r (k + 2) (acc ++ [d]) else ([], (k : Int), 5))
    else if adg c then ([], (k : Int), 5) else unqL (d :: r) (k + 1) (acc ++ [c])
theorem unqL_cons (c : UInt8) (l : Str) (k : Nat) (acc : Str) : unqL (c :: l) k acc =
    if c = 34 then (acc, ((k + 1 : Nat) : Int), 0)
    else if c = 92 then (if l = [] then ([], ((k + 1 : Nat) : Int), 6) else if escapedB (at_ l 0) then unqL (l.drop 1) (k + 2) (acc ++ [at_ l 0]) else ([], (k : Int), 5))
    else if adg c then ([], (k : Int), 5) else unqL l (k + 1) (acc ++ [c]) := by
  cases l with
  | nil => simp [unqL]
  | cons d r => simp [unqL, at_]
def unqP8 (s : Str) (i : Int) : Str × Int × UInt8 :=
  if i < 0 ∨ (s.length : Int) < i then ([], 0, 2)
  else if i = (s.length : Int) ∨ at_ s i ≠ 34 then ([], i, 5)
  else unqL (s.drop (i.toNat + 1)) (i.toNat + 1) []
theorem at_drop1 (s : Str) (k : Nat) : at_ (s.drop k) 0 = at_ s (k : Int) := by simp [at_]
theorem drop_nil_iff (s : Str) (k : Nat) : s.drop k = [] ↔ s.length ≤ k := by rw [List.drop_eq_nil_iff]
def unqFin (s : Str) (j : ((Str × Int) ⊕ (Str × Int × UInt8))) : Option (Str × Int × UInt8) :=
  zaC (fun (v : (Str × Int)) => (if (s.length : Int) ≤ v.2 then some (([] : Str), (s.length : Int), (6 : UInt8)) else (gd (acw (v.2 + (1 : Int))) <| some (v.1, v.2 + (1 : Int), (0 : UInt8))))) (fun q => some q) j
theorem unq_lp (s : Str) (hs : s.length ≤ 4194304) (n : Nat) : ∀ (k fk : Nat) (acc : Str), s.length - k ≤ n → n < fk → k ≤ s.length → acc.length ≤ k →
    ((adw FU s fk acc (k : Int)).bind (unqFin s)) = some (unqL (s.drop k) k acc) := by
  induction n with
  | zero =>
    intro k fk acc hn hf hk ha
    obtain ⟨fk, rfl⟩ := fkx fk
    obtain rfl : k = s.length := by omega
    rw [adw, if_neg omg, List.drop_length, zab]
    unfold unqFin
    rw [zav, if_pos (by simp)]; rfl
  | succ n ih =>
    intro k fk acc hn hf hk ha
    obtain ⟨fk, rfl⟩ := fkx fk
    by_cases hl : k < s.length
    · rw [drop_at s k hl, unqL_cons, adw, if_pos omg, gok]
      by_cases h1 : at_ s (k : Int) = 34
      · rw [if_pos h1, if_pos h1, zab]
        unfold unqFin
        rw [zav, if_neg (by simp; omega), aag (akt _ (by simp; omega) (by simp; omega))]; rfl
      · rw [if_neg h1, if_neg h1]
        by_cases h2 : at_ s (k : Int) = 92
        · rw [if_pos h2, if_pos h2, gok]
          by_cases h3 : k + 1 = s.length
          · rw [if_pos omg, if_pos ((drop_nil_iff s (k + 1)).2 omg), zab]
            unfold unqFin
            rw [Sum.elim_inr, h3]
          · rw [if_neg omg, if_neg (fun h => h3 (by have := (drop_nil_iff s (k + 1)).1 h; omega)), gok, gok, char_escaped, zab, at_drop1, anj]
            cases h4 : escapedB (at_ s ((k + 1 : Nat) : Int))
            · rfl
            · rw [zat, cond_false, if_pos rfl, gok, gok, gok, gok, List.drop_drop, anj,
                ih (k + 1 + 1) fk _ omg omg omg (by simp; omega)]
        · rw [if_neg h2, if_neg h2, char_control, zab]
          cases h4 : adg (at_ s (k : Int))
          · rw [cond_false, if_neg (by decide), gok, gok, gok, anj, ih (k + 1) fk _ omg omg omg (by simp; omega)]
          · rfl
    · obtain rfl : k = s.length := by omega
      rw [adw, if_neg omg, List.drop_length, zab]
      unfold unqFin
      rw [zav, if_pos (by simp)]; rfl
theorem unquote_eq (s : Str) (hs : s.length ≤ 4194304) (i : Int) : ajb FU s i = some (unqP8 s i) := by
  unfold ajb unqP8
  by_cases h1 : i < 0
  · rw [if_pos h1, if_pos (show i < 0 ∨ (s.length : Int) < i from .inl h1)]; rfl
  · rw [if_neg h1, zab]
    by_cases h2 : (s.length : Int) < i
    · rw [decide_eq_true h2, if_pos (show i < 0 ∨ (s.length : Int) < i from .inr h2)]; rfl
    · rw [decide_eq_false h2, cond_false, if_neg (show ¬ (i < 0 ∨ (s.length : Int) < i) by omega)]
      by_cases h3 : i = (s.length : Int)
      · rw [if_pos h3, if_pos (show i = (s.length : Int) ∨ at_ s i ≠ 34 from .inl h3)]; rfl
      · rw [if_neg h3, gok, zab]
        by_cases h4 : at_ s i = 34
        · rw [decide_eq_true h4, zat, cond_false, if_neg (by simp [h3, h4]), gok]
          obtain ⟨k, rfl⟩ : ∃ k : Nat, i = (k : Int) := ⟨i.toNat, by omega⟩
          exact unq_lp s hs s.length (k + 1) FU [] omg (by rw [aks]; omega) omg (by simp)
        · rw [decide_eq_false h4, if_pos (show i = (s.length : Int) ∨ at_ s i ≠ 34 from .inr h4)]; rfl
theorem all_gen {β : Type} (p : UInt8 → Bool) (s : Str) (r : β) (F : Nat → Int → Option (Unit ⊕ β))
    (h0 : ∀ fk, F (fk + 1) (s.length : Int) = some (.inl ()))
    (h1 : ∀ fk (k : Nat), k < s.length → p (at_ s k) = false → F (fk + 1) (k : Int) = some (.inr r))
    (h2 : ∀ fk (k : Nat), k < s.length → p (at_ s k) = true → F (fk + 1) (k : Int) = F fk ((k : Int) + 1)) (n : Nat) :
    ∀ (k fk : Nat), k + n = s.length → n < fk → F fk (k : Int) = some (if (s.drop k).all p = true then .inl () else .inr r) := by
  induction n with
  | zero =>
    intro k fk hk hf
    obtain ⟨fk, rfl⟩ := fkx fk
    obtain rfl : k = s.length := by omega
    rw [h0, List.drop_length]; rfl
  | succ n ih =>
    intro k fk hk hf
    obtain ⟨fk, rfl⟩ := fkx fk
    rw [drop_at s k omg, List.all_cons]
    cases h : p (at_ s k)
    · rw [h1 fk k omg h]; rfl
    · rw [h2 fk k omg h, anj, ih (k + 1) fk omg omg]; simp
theorem all_gen0 {β : Type} (p : UInt8 → Bool) (s : Str) (hs : s.length ≤ 4194304) (r : β) (F : Nat → Int → Option (Unit ⊕ β))
    (h0 : ∀ fk, F (fk + 1) (s.length : Int) = some (.inl ()))
    (h1 : ∀ fk (k : Nat), k < s.length → p (at_ s k) = false → F (fk + 1) (k : Int) = some (.inr r))
    (h2 : ∀ fk (k : Nat), k < s.length → p (at_ s k) = true → F (fk + 1) (k : Int) = F fk ((k : Int) + 1)) : F FU 0 = some (if s.all p = true then .inl () else .inr r) := by
  have := all_gen p s r F h0 h1 h2 s.length 0 FU omg (by rw [aks]; omega)
  rw [List.drop_zero] at this
  exact this
theorem adLower_lp (s : Str) (hs : s.length ≤ 4194304) (l : Str) : ∀ (p : Str) (fk : Nat), p.length + l.length = s.length → l.length < fk →
    aen FU s fk (p ++ l) (p.length : Int) = some (p ++ l.map aki) := by
  induction l with
  | nil =>
    intro p fk hk hf
    obtain ⟨fk, rfl⟩ := fkx fk
    simp only [zaw] at hk
    rw [aen, if_neg omg]; rfl
  | cons c l ih0 =>
    intro p fk hk hf
    obtain ⟨fk, rfl⟩ := fkx fk
    simp only [zam] at hk hf
    have hb := mid_lt p c l
    have ih := ih0 (p ++ [aki c]) fk (by rw [zan, zai]; omega) omg
    have ok : acw ((p.length : Int) + 1) := akt _ omg omg
    rw [aen, if_pos omg]
    simp only [aag hb, at_mid, aag ok, set_mid]
    by_cases h1 : 65 ≤ c
    · by_cases h2 : c ≤ 90
      · simp only [if_pos h1, decide_eq_true h2, zab, cond_true, lowerB_up c h1 h2]
        rw [len_snoc p (aki c), ih]; simp
      · simp only [if_pos h1, decide_eq_false h2, zab, cond_false]
        rw [lowerB_no c (fun h => h2 h.2)] at ih
        rw [len_snoc p c, show p ++ c :: l = (p ++ [c]) ++ l by simp, ih]; simp [lowerB_no c (fun h => h2 h.2)]
    · simp only [if_neg h1, zab, cond_false]
      rw [lowerB_no c (fun h => h1 h.1)] at ih
      rw [len_snoc p c, show p ++ c :: l = (p ++ [c]) ++ l by simp, ih]; simp [lowerB_no c (fun h => h1 h.1)]
theorem adLower_eq (s : Str) (hs : s.length ≤ 4194304) : adh FU s = some (ajq s) := by
  unfold adh
  have := adLower_lp s hs s [] FU (by simp) (by rw [aks]; omega)
  simp only [List.nil_append, zaw, Int.natCast_zero, Int.cast_ofNat_Int] at this
  rw [this]; rfl
theorem ad_letter (c : UInt8) : agr FU c = some (letterB c) := by revert c; exact afs _ (by decide +kernel)
theorem ad_digit (c : UInt8) : afl FU c = some (ahx c) := by revert c; exact afs _ (by decide +kernel)
theorem ad_hex' : ∀ c : UInt8, (aha FU c).map (·.2) = some (hexB c) := afs _ (by decide +kernel)
theorem ad_hex (c : UInt8) : ∃ v, aha FU c = some (v, hexB c) := by
  obtain ⟨⟨v, b⟩, h1, h2⟩ := Option.map_eq_some_iff.1 (ad_hex' c)
  exact ⟨v, by rw [h1, ← h2]⟩
def psp (y : Str) (l : List Str) : List Str := match l with | x :: r => (y ++ x) :: r | [] => [y]
theorem spl_cons_eq (c : UInt8) (l : Str) : spl c (c :: l) = [] :: spl c l := by rw [spl, if_pos rfl]
theorem spl_cons_ne (c b : UInt8) (l : Str) (h : b ≠ c) : spl c (b :: l) = psp [b] (spl c l) := by
  rw [spl, if_neg h]
  cases spl c l <;> rfl
open Bool renaming not_false → zaz, not_true → zat
open Go.Lib renaming cut → zaB, index → zap, join → zax
open List renaming length_append → zan, length_cons → zam, length_nil → zaw, length_singleton → zai, set → zaf
open Sum renaming elim_inl → zav
theorem cnd2 {α β : Type} (v : α) (b : Bool) (A B : β) : (bif !(v, b).2 then A else B) = bif !b then A else B := rfl
theorem glist_lp1 (l : List Str) (x : Int) (hg : (el l x).length ≤ 4194304) : act FU l x FU 0 = some (if (el l x).all hexB = true then .inl () else .inr ([], false)) := by
  refine all_gen0 hexB (el l x) hg (([] : List Str), false) (act FU l x) ?_ ?_ ?_
  · intro fk; rw [act, if_neg omg]
  · intro fk k hk h
    obtain ⟨v, h3⟩ := ad_hex (at_ (el l x) k)
    rw [h] at h3
    rw [act, if_pos omg, gok, h3]
    simp only [zab, zaz, cond_true]
  · intro fk k hk h
    obtain ⟨v, h3⟩ := ad_hex (at_ (el l x) k)
    rw [h] at h3
    rw [act, if_pos omg, gok, h3, zab, cnd2, zat, cond_false, gok]
theorem glist_lp (s : Str) (hs : s.length ≤ 4194304) (n : Nat) : ∀ (k fk : Nat), k + n = (spl 58 s).length → n < fk → ((spl 58 s).take k).all ama = true →
    acu FU s fk (aml (spl 58 s) k) (k : Int) = some (if (spl 58 s).all ama = true then .inl ((spl 58 s).map grpN) else .inr ([], false)) := by
  have hb := spl_sum 58 s
  induction n with
  | zero =>
    intro k fk hk hf hp
    obtain ⟨fk, rfl⟩ := fkx fk
    obtain rfl : k = (spl 58 s).length := by omega
    rw [List.take_length] at hp
    rw [acu, if_neg omg, if_pos hp, grpMix_all]
  | succ n ih =>
    intro k fk hk hf hp
    obtain ⟨fk, rfl⟩ := fkx fk
    have hlt : k < (spl 58 s).length := by omega
    have hml := grpMix_len (spl 58 s) k omg
    have hin : (0 : Int) ≤ (k : Int) ∧ (k : Int) < ((aml (spl 58 s) k).length : Int) := by omega
    have he := grp_el (spl 58 s) k hlt
    have hel : (el (spl 58 s) (k : Int)).length ≤ 4194304 := Nat.le_trans (hb.2 _ (el_mem' _ k hlt)) hs
    have fail : ama (el (spl 58 s) (k : Int)) = false → (spl 58 s).all ama = false := fun h => all_false_at' ama _ k hlt h
    rw [acu, if_pos omg, aag hin, aag hin, he]
    by_cases h1 : ((el (spl 58 s) (k : Int)).length : Int) < 1
    · rw [if_pos h1, fail (grpOk_no1 _ (.inl h1))]; rfl
    · rw [if_neg h1, zab]
      by_cases h2 : 4 < ((el (spl 58 s) (k : Int)).length : Int)
      · rw [decide_eq_true h2, fail (grpOk_no1 _ (.inr h2))]; rfl
      · rw [decide_eq_false h2, cond_false, glist_lp1 _ _ (by rw [he]; exact hel), he, zab]
        cases hx : (el (spl 58 s) (k : Int)).all hexB with
        | false => rw [fail (grpOk_no2 _ hx)]; rfl
        | true =>
          have hok := grpOk_yes _ h1 h2 hx
          rw [if_pos rfl, zav, adLower_eq _ hel, zab, aag (by simp [ajq]; omega), aag (by decide)]
          have step : ∀ v, v = grpN (el (spl 58 s) (k : Int)) → acu FU s fk (zaf (aml (spl 58 s) k) (zac (k : Int)) v) ((k : Int) + 1) = some (if (spl 58 s).all ama = true then .inl ((spl 58 s).map grpN) else .inr ([], false)) := fun v hv => by
            rw [← grp_step (spl 58 s) k v hlt hv, anj]
            exact ih (k + 1) fk omg omg (all_take_snoc' ama _ k hlt hp hok)
          have ok : acw ((k : Int) + 1) := akt _ omg omg
          by_cases hz : Lib.trimLeftS (ajq (el (spl 58 s) (k : Int))) [48] = []
          · rw [if_pos hz, aag hin, aag hin, zab, zav, aag ok, step [48] (grpN_zero _ hz)]
          · rw [if_neg hz, aag hin, aag hin, zab, zav, aag ok, step (Lib.trimLeftS (ajq (el (spl 58 s) (k : Int))) [48]) (grpN_else _ hz)]
theorem glist_eq (s : Str) (hs : s.length ≤ 4194304) : aeo FU s = some (ahe s) := by
  have hb := spl_sum 58 s
  have := glist_lp s hs (spl 58 s).length 0 FU omg (by rw [aks]; omega) rfl
  rw [grpMix_zero] at this
  have this' : acu FU s FU (spl 58 s) (0 : Int) = _ := this
  unfold aeo
  rw [aag omg, this', zab]
  cases ha : (spl 58 s).all ama with
  | false => rw [grpList_no s ha]; rfl
  | true => rw [grpList_yes s ha]; rfl
theorem glist0 (x : Str) (hx : x.length ≤ 4194304) : (if x = ([] : Str) then some (([] : List Str), true) else ((aeo FU x).bind fun (y49 : ((List Str) × Bool)) => some (y49.1, y49.2))) = some (alu x) := by
  by_cases h : x = []
  · rw [if_pos h, grpL0_nil x h]
  · rw [if_neg h, grpL0_else x h, glist_eq x hx]; rfl
theorem grpL0_bd (x : Str) : (alu x).1.length ≤ x.length + 1 ∧ ∀ y ∈ (alu x).1, y.length ≤ 4 := by
  unfold alu
  split
  · simp
  · exact grpList_bd x
theorem joinL0 (x : Str) (h : x.length ≤ 4194304) : (zax (alu x).1 [58]).length ≤ 24000000 := by
  have h1 := grpL0_bd x
  have h2 := join_len [58] 4 (alu x).1 h1.2
  simp only [zai] at h2
  omega
theorem adGroups_eq (s : Str) : aih FU s = some (grpsP s) := by
  unfold aih grpsP
  by_cases h39 : 39 < s.length
  · rw [if_pos omg, if_pos h39]
  · rw [if_neg omg, if_neg h39, aag omg]
    have hc := cut_len s [58, 58]
    cases hd : (zaB s [58, 58]).2.2 with
    | false =>
      have h1 := grpList_bd s
      rw [zaz, cond_true, if_pos rfl, glist_eq s omg, zab, aag ⟨by omega, join_grp s omg⟩]
      cases h2 : (ahe s).2 <;> rfl
    | true =>
      rw [zat, cond_false, glist0 _ omg, zab, glist0 _ omg, zab, if_neg (show ¬ (true = false) by decide)]
      have b1 := grpL0_bd (zaB s [58, 58]).1
      have b2 := grpL0_bd (zaB s [58, 58]).2.1
      have j1 := joinL0 (zaB s [58, 58]).1 omg
      have j2 := joinL0 (zaB s [58, 58]).2.1 omg
      cases h1 : (alu (zaB s [58, 58]).1).2
      · simp
      · cases h2 : (alu (zaB s [58, 58]).2.1).2
        · simp
        · rw [zat, cond_false, cond_false, gok, zab, Bool.or_false, Bool.false_or]
          by_cases h7 : 7 < ((alu (zaB s [58, 58]).1).1.length : Int) + ((alu (zaB s [58, 58]).2.1).1.length : Int)
          · rw [decide_eq_true h7, if_pos rfl]; rfl
          · rw [decide_eq_false h7, if_neg (by decide), cond_false, aag ⟨by omega, by omega⟩, aag (by simp only [zam, zaw]; omega), aag ⟨by omega, by omega⟩, aag (by simp only [zan, zam, zaw]; omega)]
theorem index_ge (p : Str) : ∀ l : Str, -1 ≤ zap l p
  | [] => by unfold zap; split <;> omega
  | b :: l => by
    have := index_ge p l
    rw [zap]
    split
    · omega
    · split
      · omega
      · omega
theorem index_cons (p : Str) (b : UInt8) (l : Str) : zap (b :: l) p = if p.isPrefixOf (b :: l) = true then 0 else if zap l p = -1 then -1 else zap l p + 1 := by
  rw [zap]
  split
  · rfl
  · by_cases h : zap l p = -1
    · rw [if_pos h, if_pos (by simpa using h)]
    · rw [if_neg h, if_neg (by simpa using h)]
theorem cut_eq (s p : Str) : zaB s p = if zap s p = -1 then (s, [], false) else (s.take (zap s p).toNat, s.drop ((zap s p).toNat + p.length), true) := by
  unfold zaB
  have := index_ge p s
  by_cases h : zap s p = -1
  · rw [if_pos h, if_neg omg]
  · rw [if_neg h, if_pos omg]
open Bool renaming not_false → zaz, not_true → zat, true_and → zaA
open Go.Lib renaming index → zap
open List renaming length_append → zan, length_cons → zam, length_singleton → zai, length_take → zah
theorem dig_sub (c : UInt8) (h : ahx c = true) : (c - 48).toNat = c.toNat - 48 ∧ c.toNat ≤ 57 ∧ 48 ≤ c.toNat := by
  have hc := (digitB_iff c).1 h
  have h48 : (48 : UInt8) ≤ c := by rw [UInt8.le_iff_toNat_le]; show 48 ≤ c.toNat; omega
  exact ⟨by rw [UInt8.toNat_sub_of_le _ _ h48]; rfl, by omega, by omega⟩
theorem nums_lp1 (s : Str) (x : Int) (hg : (el (spl 46 s) x).length ≤ 15) (l : Str) : ∀ (p : Str) (fk : Nat), el (spl 46 s) x = p ++ l → l.length < fk → p.all ahx = true →
    adt FU s x fk (aiq p : Int) (p.length : Int) = some (if l.all ahx = true then .inl (aiq (el (spl 46 s) x) : Int) else .inr false) := by
  induction l with
  | nil =>
    intro p fk h hf hp
    obtain ⟨fk, rfl⟩ := fkx fk
    rw [List.append_nil] at h
    rw [adt, if_neg (by rw [h]; omega), h]; rfl
  | cons c l ih =>
    intro p fk h hf hp
    obtain ⟨fk, rfl⟩ := fkx fk
    have hl := congrArg List.length h
    simp only [zan, zam] at hl hf
    have hb : (0 : Int) ≤ (p.length : Int) ∧ (p.length : Int) < ((el (spl 46 s) x).length : Int) := by omega
    have ha : at_ (el (spl 46 s) x) (p.length : Int) = c := by rw [h, at_mid]
    have hv := decVal_lt 14 p omg hp
    rw [adt, if_pos hb.2, aag hb, ha, ad_digit, zab, List.all_cons]
    cases hc : ahx c with
    | false => rfl
    | true =>
      have hd := dig_sub c hc
      rw [zat, cond_false, hd.1, aag (akt _ omg omg), aag hb, aag (akt _ omg omg), aag (akt _ omg omg), zaA]
      have e : (10 : Int) * (aiq p : Int) + ((c.toNat - 48 : Nat) : Int) = (aiq (p ++ [c]) : Int) := by rw [decVal_snoc]; omega
      rw [e, len_snoc p c]
      exact ih (p ++ [c]) fk (by rw [h]; simp) omg (by rw [List.all_append, hp]; simpa using hc)
theorem nums_lp (s : Str) (hs : s.length ≤ 15) (n : Nat) : ∀ (k fk : Nat), k + n = (spl 46 s).length → n < fk →
    adu FU s fk (k : Int) = some (if ((spl 46 s).drop k).all octOk = true then .inl () else .inr false) := by
  have hb := spl_sum 46 s
  induction n with
  | zero =>
    intro k fk hk hf
    obtain ⟨fk, rfl⟩ := fkx fk
    obtain rfl : k = (spl 46 s).length := by omega
    rw [adu, if_neg omg, List.drop_length]; rfl
  | succ n ih =>
    intro k fk hk hf
    obtain ⟨fk, rfl⟩ := fkx fk
    have hlt : k < (spl 46 s).length := by omega
    have hin : (0 : Int) ≤ (k : Int) ∧ (k : Int) < ((spl 46 s).length : Int) := by omega
    have hel : (el (spl 46 s) (k : Int)).length ≤ 15 := Nat.le_trans (hb.2 _ (el_mem' _ k hlt)) hs
    have hd : (spl 46 s).drop k = el (spl 46 s) (k : Int) :: (spl 46 s).drop (k + 1) := by rw [el_nat _ _ hlt, List.drop_eq_getElem_cons hlt]
    have h1 := nums_lp1 s (k : Int) hel (el (spl 46 s) (k : Int)) [] FU (by simp) (by rw [aks]; omega) rfl
    have h1' : adt FU s (k : Int) FU (0 : Int) (0 : Int) = _ := h1
    rw [adu, if_pos omg, aag hin, aag hin, h1', zab, hd, List.all_cons]
    cases hx : (el (spl 46 s) (k : Int)).all ahx with
    | false => rw [octOk_no1 _ hx]; rfl
    | true =>
      have hv := decVal_lt 15 _ hel hx
      rw [if_pos rfl, zav]
      by_cases h2 : el (spl 46 s) (k : Int) = []
      · rw [if_pos h2, octOk_no2 _ (.inl (.inl h2))]; rfl
      · rw [if_neg h2]
        by_cases h3 : 255 < (aiq (el (spl 46 s) (k : Int)) : Int)
        · rw [if_pos h3, octOk_no2 _ (.inl (.inr h3))]; rfl
        · rw [if_neg h3, aag (akt _ omg omg), zab]
          by_cases h4 : el (spl 46 s) (k : Int) = Lib.itoa (aiq (el (spl 46 s) (k : Int)) : Int)
          · rw [decide_eq_true h4, zat, cond_false, zab, zav, aag (akt _ omg omg), octOk_yes _ hx h2 h3 h4, zaA]
            exact ih (k + 1) fk omg omg
          · rw [decide_eq_false h4, octOk_no2 _ (.inr h4)]; rfl
theorem adNumbers_eq (s : Str) : ahr FU s = some (numsP s) := by
  unfold ahr
  by_cases h : 15 < (s.length : Int)
  · rw [if_pos h, numsP_long s h]
  · have hb := spl_sum 46 s
    have := nums_lp s omg (spl 46 s).length 0 FU omg (by rw [aks]; omega)
    rw [List.drop_zero] at this
    have this' : adu FU s FU (0 : Int) = _ := this
    rw [if_neg h, aag omg, this', zab]
    cases ha : (spl 46 s).all octOk with
    | false => rw [numsP_no s ha]; rfl
    | true => rw [numsP_fin s h ha]; rfl
def labB (c : UInt8) : Bool := letterB c || ahx c || c == 45
def labOk (x : Str) : Bool := decide (1 ≤ x.length) && decide (x.length ≤ 63) && !(at_ x 0 == 45) && !(at_ x ((x.length : Int) - 1) == 45) && x.all labB
def labW (x : Str) : Bool := x.any (fun c => !ahx c)
def badL (x : Str) : Bool := decide ((x.length : Int) < 1) || decide (63 < (x.length : Int)) || (at_ x 0 == 45) || (at_ x ((x.length : Int) - 1) == 45)
theorem lab_bad (x : Str) : labOk x = (!badL x && x.all labB) := by
  unfold labOk badL
  have e1 : decide (1 ≤ x.length) = !decide ((x.length : Int) < 1) := by rw [Bool.eq_iff_iff]; simp; omega
  have e2 : decide (x.length ≤ 63) = !decide (63 < (x.length : Int)) := by rw [Bool.eq_iff_iff]; simp; omega
  rw [e1, e2]
  simp [Bool.not_or, Bool.and_assoc]
theorem badL_eq (x : Str) (hx : x.length ≤ 4194304) : (if (x.length : Int) < (1 : Int) then some true else (if (63 : Int) < (x.length : Int) then some true else (gd (0 ≤ (0 : Int) ∧ (0 : Int) < (x.length : Int)) <| (if (at_ x (0 : Int)) = (45 : UInt8) then some true else (gd (acw ((x.length : Int) - (1 : Int))) <| (gd (0 ≤ ((x.length : Int) - (1 : Int)) ∧ ((x.length : Int) - (1 : Int)) < (x.length : Int)) <| some (decide ((at_ x ((x.length : Int) - (1 : Int))) = (45 : UInt8))))))))) = some (badL x) := by
  unfold badL
  by_cases h1 : (x.length : Int) < 1
  · rw [if_pos h1, decide_eq_true h1]; rfl
  · rw [if_neg h1, decide_eq_false h1, Bool.false_or]
    by_cases h2 : 63 < (x.length : Int)
    · rw [if_pos h2, decide_eq_true h2]; rfl
    · rw [if_neg h2, decide_eq_false h2, Bool.false_or, aag omg]
      by_cases h3 : at_ x 0 = 45
      · rw [if_pos h3, show (at_ x 0 == 45) = true by simpa using h3]; rfl
      · rw [if_neg h3, show (at_ x 0 == 45) = false by simpa using h3, Bool.false_or, aag (akt _ omg omg), aag omg]; rfl
theorem ad_nlab (c : UInt8) : ((agr FU c).bind fun (y365 : Bool) => (bif (!y365) then ((afl FU c).bind fun (y371 : Bool) => (bif (!y371) then some (!decide (c = (45 : UInt8))) else some false)) else some false)) = some (!labB c) := by
  rw [ad_letter, ad_digit]
  unfold labB
  by_cases h : c = 45
  · subst h; rfl
  · rw [show (c == 45) = false by simpa using h, decide_eq_false h]
    cases letterB c <;> cases ahx c <;> rfl
theorem named_lp1 (x : Str) (hx : x.length ≤ 4194304) (r : Bool) (l : Str) : ∀ (p : Str) (fk : Nat) (w : Bool), x = p ++ l → l.length < fk →
    (l.all labB = true → abu FU x r fk (p.length : Int) w = some (0, w || labW l, r)) ∧ (l.all labB = false → ∃ b, abu FU x r fk (p.length : Int) w = some (1, b, false)) := by
  induction l with
  | nil =>
    intro p fk w h hf
    obtain ⟨fk, rfl⟩ := fkx fk
    rw [List.append_nil] at h
    refine ⟨fun _ => ?_, fun h => by cases h⟩
    rw [abu, if_neg (by rw [h]; omega)]; simp [labW]
  | cons c l ih =>
    intro p fk w h hf
    obtain ⟨fk, rfl⟩ := fkx fk
    have hl := congrArg List.length h
    simp only [zan, zam] at hl hf
    have hb : (0 : Int) ≤ (p.length : Int) ∧ (p.length : Int) < (x.length : Int) := by omega
    have ha : at_ x (p.length : Int) = c := by rw [h, at_mid]
    have ok : acw ((p.length : Int) + 1) := akt _ omg omg
    have hih := ih (p ++ [c]) fk (w || !ahx c) (by rw [h]; simp) omg
    rw [← len_snoc p c] at hih
    rw [abu, if_pos hb.2, aag hb, ha, ad_nlab, zab, List.all_cons]
    cases hc : labB c with
    | false => exact ⟨fun h => by simp at h, fun _ => ⟨w, by rw [zaz, cond_true]⟩⟩
    | true =>
      rw [zat, cond_false, zaA]
      have e : (bif w then gd (acw ((p.length : Int) + 1)) (abu FU x r fk ((p.length : Int) + 1) true) else (afl FU c).bind fun (y388 : Bool) => gd (acw ((p.length : Int) + 1)) (abu FU x r fk ((p.length : Int) + 1) (!y388))) = abu FU x r fk ((p.length : Int) + 1) (w || !ahx c) := by
        cases w with
        | true => rw [cond_true, aag ok, Bool.true_or]
        | false => rw [cond_false, ad_digit, zab, aag ok, Bool.false_or]
      rw [e]
      refine ⟨fun h => ?_, fun h => hih.2 h⟩
      rw [hih.1 h]
      simp [labW, Bool.or_assoc]
theorem named_rd (x : Str) (hx : x.length ≤ 4194304) (w r : Bool) : (labOk x = true → adx FU x w r = some (0, w || labW x, r)) ∧ (labOk x = false → ∃ b, adx FU x w r = some (1, b, false)) := by
  have hlp := named_lp1 x hx r x [] FU w (by simp) (by rw [aks]; omega)
  unfold adx
  rw [badL_eq x hx, zab, lab_bad]
  cases hb : badL x with
  | true => exact ⟨fun h => by simp at h, fun _ => ⟨w, by rw [cond_true]⟩⟩
  | false =>
    rw [cond_false, zaz, zaA]
    exact hlp
theorem index1 (c : UInt8) (f : Str) : (zap f [c] = -1 ∧ spl c f = [f]) ∨ (0 ≤ zap f [c] ∧ zap f [c] < (f.length : Int) ∧ spl c f = f.take (zap f [c]).toNat :: spl c (f.drop ((zap f [c]).toNat + 1))) := by
  induction f with
  | nil => exact .inl ⟨rfl, rfl⟩
  | cons b l ih =>
    rw [index_cons]
    have e : ([c] : Str).isPrefixOf (b :: l) = (c == b) := by simp [List.isPrefixOf]
    rw [e]
    by_cases h : b = c
    · subst h
      right
      rw [if_pos (by simp), spl_cons_eq]
      refine ⟨Int.le_refl _, by simp only [zam]; omega, by simp⟩
    · rw [if_neg (by simpa using fun x => h x.symm), spl_cons_ne c b l h]
      rcases ih with ⟨h1, h2⟩ | ⟨h1, h2, h3⟩
      · left; rw [if_pos h1, h2]; exact ⟨rfl, rfl⟩
      · right
        rw [if_neg omg, h3]
        have e1 : (zap l [c] + 1).toNat = (zap l [c]).toNat + 1 := by omega
        refine ⟨by omega, by simp only [zam]; omega, ?_⟩
        rw [e1]
        simp [psp]
theorem seq_lp (n : Nat) : ∀ (f : Str) (fk : Nat) (w r : Bool), f.length ≤ n → n < fk → n ≤ 4194304 →
    ∃ w' f' k, ((abd FU [46] 0 fk w r f).bind fun (j115 : ((Bool × Bool × Str) ⊕ (Bool × Bool × Str × Nat))) => zaC (fun (v117 : (Bool × Bool × Str)) => ((adx FU v117.2.2 v117.1 v117.2.1).bind fun (y190 : (Nat × Bool × Bool)) => (if y190.1 = 0 then some (y190.2.1, y190.2.2, v117.2.2, 0) else some (y190.2.1, y190.2.2, v117.2.2, y190.1)))) (fun q => some q) j115) = some (w', (if (spl 46 f).all labOk = true then r else false), f', k) ∧
      (k = if (spl 46 f).all labOk = true then 0 else 1) ∧ ((spl 46 f).all labOk = true → w' = (w || (spl 46 f).any labW)) := by
  induction n with
  | zero =>
    intro f fk w r hf hn h20
    obtain ⟨fk, rfl⟩ := fkx fk
    obtain rfl : f = [] := List.eq_nil_of_length_eq_zero omg
    have e : zap ([] : Str) [46] = -1 := rfl
    rw [abd, aag (by simp), e, if_pos (by decide), zab, zav]
    obtain ⟨b, hb⟩ := (named_rd [] (by simp) w r).2 rfl
    simp only
    rw [hb, zab, if_neg (by simp)]
    exact ⟨b, [], 1, rfl, rfl, fun h => absurd h (by decide)⟩
  | succ n ih =>
    intro f fk w r hf hn h20
    obtain ⟨fk, rfl⟩ := fkx fk
    rw [abd, aag omg]
    rcases index1 46 f with ⟨h1, h2⟩ | ⟨h1, h2, h3⟩
    · rw [if_pos omg, zab, zav, h2, List.all_cons, List.all_nil, Bool.and_true]
      simp only
      have hr := named_rd f omg w r
      cases hl : labOk f with
      | true =>
        rw [hr.1 hl, zab, if_pos rfl]
        exact ⟨_, _, 0, rfl, rfl, fun _ => by simp⟩
      | false =>
        obtain ⟨b, hb⟩ := hr.2 hl
        rw [hb, zab, if_neg (by simp)]
        exact ⟨b, _, 1, rfl, rfl, fun h => by cases h⟩
    · have e0 : zap f [46] + 0 = zap f [46] := by omega
      have e1 : (zap f [46] + ((([46] : Str).length : Nat) : Int)).toNat = (zap f [46]).toNat + 1 := by simp only [zai]; omega
      rw [if_neg omg, e0, aag (akt _ omg omg), aag omg, h3, List.all_cons]
      have hr := named_rd (f.take (zap f [46]).toNat) (by rw [zah]; omega) w r
      cases hl : labOk (f.take (zap f [46]).toNat) with
      | true =>
        rw [hr.1 hl, zab, if_pos rfl, aag (akt _ (by simp only [zai]; omega) (by simp only [zai]; omega)), aag (by simp only [zai]; omega), e1, zaA]
        obtain ⟨w', f', k, g1, g2, g3⟩ := ih (f.drop ((zap f [46]).toNat + 1)) fk (w || labW (f.take (zap f [46]).toNat)) r (by rw [List.length_drop]; omega) omg omg
        exact ⟨w', f', k, g1, g2, fun h => by rw [g3 h, List.any_cons, Bool.or_assoc]⟩
      | false =>
        obtain ⟨b, hb⟩ := hr.2 hl
        rw [hb, zab, if_neg (by simp), zab]
        exact ⟨b, _, 1, rfl, rfl, fun h => by cases h⟩
def namedP (s : Str) : Bool := decide (1 ≤ s.length) && decide (s.length ≤ 255) && (spl 46 s).all labOk && (spl 46 s).any labW
theorem adNamed_eq (s : Str) (hs : s.length ≤ 4194304) : ajc FU s = some (namedP s) := by
  unfold ajc namedP
  by_cases h1 : (s.length : Int) < 1
  · rw [if_pos h1, show decide (1 ≤ s.length) = false by (rw [decide_eq_false_iff_not]; omega)]; rfl
  · rw [if_neg h1, show decide (1 ≤ s.length) = true by (rw [decide_eq_true_eq]; omega), zab, zaA]
    by_cases h2 : 255 < (s.length : Int)
    · rw [decide_eq_true h2, show decide (s.length ≤ 255) = false by (rw [decide_eq_false_iff_not]; omega)]; rfl
    · rw [decide_eq_false h2, cond_false, show decide (s.length ≤ 255) = true by (rw [decide_eq_true_eq]; omega), zaA]
      obtain ⟨w', f', k, g1, g2, g3⟩ := seq_lp s.length s FU false false (Nat.le_refl _) (by rw [aks]; omega) hs
      unfold ais air
      rw [zab, zab]
      unfold adj
      rw [if_neg (by simp), zab, zav, g1, zab]
      simp only
      cases ha : (spl 46 s).all labOk with
      | true => rw [g2, ha, if_pos rfl, if_pos rfl, g3 ha]; simp
      | false => rw [ha] at g2; rw [g2]; simp
open Bool renaming and_eq_true → zau, not_true → zat, true_and → zaA
open Go.Lib renaming cut → zaB
def numOk (x : Str) : Bool := decide (1 ≤ x.length) && decide (x.length ≤ 3) && !(decide (1 < x.length) && (at_ x 0 == 48)) && x.all ahx && decide (aiq x ≤ 255)
def dg (n : Fin 10) : UInt8 := UInt8.ofNat (48 + n.val)
theorem dg_of : ∀ c : UInt8, ahx c = true → ∃ n : Fin 10, c = dg n := afs _ (by decide +kernel)
theorem oct1 : ∀ a : Fin 10, octOk [dg a] = numOk [dg a] := by decide +kernel
theorem oct2 : ∀ a b : Fin 10, octOk [dg a, dg b] = numOk [dg a, dg b] := by decide +kernel
theorem oct3 : ∀ a b c : Fin 10, octOk [dg a, dg b, dg c] = numOk [dg a, dg b, dg c] := by decide +kernel
theorem itoa255 : ∀ n : Fin 256, (Lib.itoa (n.val : Int)).length ≤ 3 := by decide +kernel
theorem oct_num (x : Str) : octOk x = numOk x := by
  cases hd : x.all ahx with
  | false => rw [octOk_no1 x hd, numOk, hd]; simp
  | true =>
    have hall := List.all_eq_true.1 hd
    match x, hd, hall with
    | [], _, _ => rfl
    | [a], _, hall =>
      obtain ⟨n, rfl⟩ := dg_of a (hall a (by simp))
      exact oct1 n
    | [a, b], _, hall =>
      obtain ⟨n, rfl⟩ := dg_of a (hall a (by simp))
      obtain ⟨m, rfl⟩ := dg_of b (hall b (by simp))
      exact oct2 n m
    | [a, b, c], _, hall =>
      obtain ⟨n, rfl⟩ := dg_of a (hall a (by simp))
      obtain ⟨m, rfl⟩ := dg_of b (hall b (by simp))
      obtain ⟨k, rfl⟩ := dg_of c (hall c (by simp))
      exact oct3 n m k
    | a :: b :: c :: d :: l, hd, _ =>
      have h1 : numOk (a :: b :: c :: d :: l) = false := by
        unfold numOk
        rw [show decide ((a :: b :: c :: d :: l).length ≤ 3) = false by (rw [decide_eq_false_iff_not]; simp only [zam]; omega)]; simp
      rw [h1]
      by_cases hv : aiq (a :: b :: c :: d :: l) ≤ 255
      · refine octOk_no2 _ (.inr fun h => ?_)
        have := itoa255 ⟨aiq (a :: b :: c :: d :: l), by omega⟩
        simp only at this
        rw [← h] at this
        simp only [zam] at this
        omega
      · exact octOk_no2 _ (.inl (.inr omg))
def brkB (s : Str) : Bool := decide (2 ≤ s.length) && (at_ s 0 == 91) && (at_ s ((s.length : Int) - 1) == 93)
def hostP (s : Str) : Str × Bool :=
  if brkB s = true then (if (grpsP (sub s 1 ((s.length : Int) - 1))).2 = true then ([91] ++ (grpsP (sub s 1 ((s.length : Int) - 1))).1 ++ [93], true) else ([], false))
  else if numsP s = true then (s, true) else if namedP s = true then (ajq s, true) else ([], false)
theorem brk_eq (s : Str) (hs : s.length ≤ 4194304) : (if (2 : Int) ≤ (s.length : Int) then (gd (0 ≤ (0 : Int) ∧ (0 : Int) < (s.length : Int)) <| (if (at_ s (0 : Int)) = (91 : UInt8) then (gd (acw ((s.length : Int) - (1 : Int))) <| (gd (0 ≤ ((s.length : Int) - (1 : Int)) ∧ ((s.length : Int) - (1 : Int)) < (s.length : Int)) <| some (decide ((at_ s ((s.length : Int) - (1 : Int))) = (93 : UInt8))))) else some false)) else some false) = some (brkB s) := by
  unfold brkB
  by_cases h1 : (2 : Int) ≤ (s.length : Int)
  · rw [if_pos h1, show decide (2 ≤ s.length) = true by (rw [decide_eq_true_eq]; omega), zaA, aag omg]
    by_cases h2 : at_ s 0 = 91
    · rw [if_pos h2, show (at_ s 0 == 91) = true by simpa using h2, zaA, aag (akt _ omg omg), aag omg]; rfl
    · rw [if_neg h2, show (at_ s 0 == 91) = false by simpa using h2]; rfl
  · rw [if_neg h1, show decide (2 ≤ s.length) = false by (rw [decide_eq_false_iff_not]; omega)]; rfl
theorem brk_len {s : Str} (h : brkB s = true) : 2 ≤ s.length := by
  unfold brkB at h
  simp only [zau, decide_eq_true_eq] at h
  exact h.1.1
theorem grpsP_len (s : Str) : (grpsP s).1.length ≤ 60000000 := by
  unfold grpsP
  by_cases h39 : 39 < s.length
  · rw [if_pos h39]; simp
  · rw [if_neg h39]
    have hc := cut_len s [58, 58]
    have j1 := joinL0 (zaB s [58, 58]).1 omg
    have j2 := joinL0 (zaB s [58, 58]).2.1 omg
    split
    · have h1 := grpList_bd s
      have h2 := join_len [58] 4 (ahe s).1 h1.2
      simp only [zai] at h2 ⊢
      omega
    · split
      · simp
      · simp only [zan, zam, zaw]; omega
theorem adHost_eq (s : Str) (hs : s.length ≤ 4194304) : aft FU s = some (hostP s) := by
  unfold aft hostP
  rw [brk_eq s hs, zab]
  cases hb : brkB s with
  | true =>
    have h2 := brk_len hb
    have hl := grpsP_len (sub s 1 ((s.length : Int) - 1))
    rw [cond_true, aag (akt _ omg omg), aag omg, adGroups_eq, zab, if_pos rfl]
    cases hg : (grpsP (sub s 1 ((s.length : Int) - 1))).2 with
    | false => rfl
    | true => rw [zat, cond_false, aag (by simp only [zai]; omega), aag (by simp only [zan, zai]; omega), if_pos rfl]
  | false =>
    rw [cond_false, adNumbers_eq, zab, if_neg (show ¬ (false = true) by decide)]
    cases hn : numsP s with
    | true => rfl
    | false =>
      rw [cond_false, adNamed_eq s hs, zab, if_neg (show ¬ (false = true) by decide)]
      cases hm : namedP s with
      | true => rw [cond_true, adLower_eq s hs]; rfl
      | false => rfl
theorem spl_all (c : UInt8) (p : UInt8 → Bool) : ∀ s : Str, (∀ x ∈ spl c s, x.all p = true) → ∀ b ∈ s, p b = true ∨ b = c
  | [], _, b, hb => by simp at hb
  | d :: l, h, b, hb => by
    by_cases hd : d = c
    · subst hd
      rw [spl_cons_eq] at h
      rcases List.mem_cons.1 hb with rfl | hb
      · exact .inr rfl
      · exact spl_all d p l (fun x hx => h x (List.mem_cons_of_mem _ hx)) b hb
    · rw [spl_cons_ne c d l hd] at h
      cases hx : spl c l with
      | nil => exact absurd hx (spl_ne c l)
      | cons y r =>
        rw [hx] at h
        have h0 := h ([d] ++ y) List.mem_cons_self
        rw [List.all_append, zau] at h0
        rcases List.mem_cons.1 hb with rfl | hb
        · left; simpa using h0.1
        · refine spl_all c p l (fun x hx' => ?_) b hb
          rw [hx] at hx'
          rcases List.mem_cons.1 hx' with rfl | hx'
          · exact h0.2
          · exact h x (List.mem_cons_of_mem _ hx')
theorem num_parts (x : Str) (h : numOk x = true) : 1 ≤ x.length ∧ x.length ≤ 3 ∧ x.all ahx = true := by
  unfold numOk at h
  simp only [zau, decide_eq_true_eq] at h
  exact ⟨h.1.1.1.1, h.1.1.1.2, h.1.2⟩
theorem at_mem (x : Str) (k : Nat) (h : k < x.length) : at_ x (k : Int) ∈ x := by
  simp [at_, h]
theorem hostP_len (s : Str) : (hostP s).1.length ≤ 60000002 + s.length := by
  have := grpsP_len (sub s 1 ((s.length : Int) - 1))
  unfold hostP
  split
  · split
    · simp only [zan, zai]; omega
    · simp
  · split
    · show s.length ≤ _; omega
    · split
      · simp [ajq]
      · simp
open Bool renaming and_eq_true → zau, not_false → zaz, not_true → zat
open Go.Lib renaming indexAny → zar
theorem unqL_bd (n : Nat) : ∀ (l : Str) (k : Nat) (acc : Str), l.length ≤ n → (unqL l k acc).1.length ≤ acc.length + l.length ∧ ((unqL l k acc).2.2 = 0 → (k : Int) + 1 ≤ (unqL l k acc).2.1 ∧ (unqL l k acc).2.1 ≤ ((k + l.length : Nat) : Int)) := by
  induction n with
  | zero =>
    intro l k acc hl
    obtain rfl : l = [] := List.eq_nil_of_length_eq_zero omg
    exact ⟨by simp [unqL], fun h => absurd h (show ¬ ((6 : UInt8) = 0) by decide)⟩
  | succ n ih =>
    intro l k acc hl
    cases l with
    | nil => exact ⟨by simp [unqL], fun h => absurd h (show ¬ ((6 : UInt8) = 0) by decide)⟩
    | cons c l =>
      simp only [zam] at hl
      rw [unqL_cons]
      by_cases h1 : c = 34
      · rw [if_pos h1]; exact ⟨by simp, fun _ => ⟨by simp, by simp only [zam]; omega⟩⟩
      · rw [if_neg h1]
        by_cases h2 : c = 92
        · rw [if_pos h2]
          by_cases h3 : l = []
          · rw [if_pos h3]; exact ⟨by simp, fun h => absurd h (show ¬ ((6 : UInt8) = 0) by decide)⟩
          · rw [if_neg h3]
            have hpos : 0 < l.length := List.length_pos_iff.2 h3
            cases h4 : escapedB (at_ l 0) with
            | true =>
              rw [if_pos rfl]
              have := ih (l.drop 1) (k + 2) (acc ++ [at_ l 0]) (by rw [List.length_drop]; omega)
              rw [zan, zai, List.length_drop] at this
              exact ⟨by simp only [zam]; omega, fun h => ⟨by have := (this.2 h).1; omega, by have := (this.2 h).2; simp only [zam]; omega⟩⟩
            | false => rw [if_neg (by decide)]; exact ⟨by simp, fun h => absurd h (show ¬ ((5 : UInt8) = 0) by decide)⟩
        · rw [if_neg h2]
          cases h4 : adg c with
          | true => rw [if_pos rfl]; exact ⟨by simp, fun h => absurd h (show ¬ ((5 : UInt8) = 0) by decide)⟩
          | false =>
            rw [if_neg (by decide)]
            have := ih l (k + 1) (acc ++ [c]) omg
            rw [zan, zai] at this
            exact ⟨by simp only [zam]; omega, fun h => ⟨by have := (this.2 h).1; omega, by have := (this.2 h).2; simp only [zam]; omega⟩⟩
theorem unqP8_bd (s : Str) (k : Nat) (h34 : at_ s (k : Int) = 34) (hk : k < s.length) : (unqP8 s (k : Int)).1.length ≤ s.length ∧ ((unqP8 s (k : Int)).2.2 = 0 → (k : Int) + 2 ≤ (unqP8 s (k : Int)).2.1 ∧ (unqP8 s (k : Int)).2.1 ≤ (s.length : Int)) := by
  unfold unqP8
  rw [if_neg omg, if_neg (by rintro (h | h); omega; exact h h34)]
  have e : ((k : Int).toNat + 1) = k + 1 := by omega
  rw [e]
  have := unqL_bd _ (s.drop (k + 1)) (k + 1) [] (Nat.le_refl _)
  rw [List.length_drop, zaw] at this
  exact ⟨by omega, fun h => ⟨by have := (this.2 h).1; omega, by have := (this.2 h).2; omega⟩⟩
theorem amy (s : Str) (hs : s.length ≤ 4194304) (i : Int) : acm FU (s, i) = some (s, ((ach abv s i : Nat) : Int)) := by
  unfold acm; simp only; rw [blanks_eq s hs]; rfl
theorem ended_eq (s : Str) (i : Int) : aei FU (s, i) = some (decide ((s.length : Int) ≤ i)) := rfl
def akh (s : Str) (k : Nat) (b : UInt8) : Bool := decide (k < s.length) && (at_ s (k : Int) == b)
theorem sees_eq (s : Str) (k : Nat) (b : UInt8) : abk FU (s, (k : Int)) b = some (akh s k b) := by
  unfold abk akh
  rw [ended_eq, zab]
  by_cases h : k < s.length
  · rw [decide_eq_false (show ¬ (s.length : Int) ≤ (k : Int) by omega), zaz, cond_true, aag (by simp only; omega), decide_eq_true h]; rfl
  · rw [decide_eq_true (show (s.length : Int) ≤ (k : Int) by omega), decide_eq_false h]; rfl
theorem tokEndP_eq (s : Str) (hs : s.length ≤ 4194304) (i : Int) : aep FU s i = some ((ach aba s i : Nat) : Int) := by
  unfold aep; rw [skipTok_eq s omg]; rfl
theorem akg (p : UInt8 → Bool) (s : Str) (k : Nat) (h : k ≤ s.length) : k ≤ ach p s (k : Int) := by
  unfold ach; rw [aia k _ h]; omega
theorem token2_eq (s : Str) (hs : s.length ≤ 4194304) (k : Nat) (hk : k ≤ s.length) : aeh FU (s, (k : Int)) = some (sub s (k : Int) ((ach aba s (k : Int) : Nat) : Int), (s, ((ach aba s (k : Int) : Nat) : Int))) := by
  have h1 := akg aba s k hk
  have h2 := agv aba s (k : Int)
  unfold aeh
  simp only
  rw [tokEndP_eq s hs, zab, aag omg]
theorem ang (s : Str) (a b : Nat) (h : b ≤ s.length) (hab : a ≤ b) : sub s (a : Int) (b : Int) = [] ↔ b = a := by
  have := sub_len s (a : Int) (b : Int)
  constructor
  · intro h'; rw [h'] at this; simp at this; omega
  · intro h'; apply List.eq_nil_of_length_eq_zero; rw [this]; omega
theorem span_not_ixb (c : UInt8) (l : Str) : (if (0 : Int) ≤ ixb (· == c) l then ixb (· == c) l else (l.length : Int)) = (ajv (fun b => !(b == c)) l : Int) := by
  rcases ixb_spec (· == c) l with ⟨h1, h2⟩ | ⟨h1, h2, h3⟩
  · rw [if_neg omg, h2]
  · rw [if_pos h1, h3]
theorem contains1 (c : UInt8) : (fun b => ([c] : Str).contains b) = (· == c) := by
  funext b
  simp [List.contains_cons]
  rfl
theorem until1_eq (s : Str) (hs : s.length ≤ 4194304) (k : Nat) (hk : k ≤ s.length) (c : UInt8) (hc : c.toNat < 128) : aee FU s (k : Int) [c] = some ((k + ajv (fun b => !(b == c)) (s.drop k) : Nat) : Int) := by
  have e : ((k : Nat) : Int).toNat = k := by omega
  have hd : (s.drop k).length = s.length - k := List.length_drop
  have h1 := span_not_ixb c (s.drop k)
  have hi : zar (s.drop k) [c] = ixb (· == c) (s.drop k) := by rw [indexAny_ixb, contains1]
  have hsp := ixb_spec (· == c) (s.drop k)
  unfold aee
  rw [aag omg, e, aag ⟨by omega, by simp, by simpa using hc⟩, hi]
  by_cases h : (0 : Int) ≤ ixb (· == c) (s.drop k)
  · rw [if_pos h] at h1 ⊢
    rw [aag (akt _ omg omg), h1]; rfl
  · rw [if_neg h] at h1 ⊢
    congr 1
    omega
def valP (s : Str) (k : Nat) : Str × Int × UInt8 :=
  if akh s k 34 = true then unqP8 s (k : Int)
  else if akh s k 91 = true then
    (if (hostP (sub s (k : Int) (min ((k + ajv (fun b => !(b == 93)) (s.drop k) : Nat) + 1 : Int) (s.length : Int)))).2 = true then
      ((hostP (sub s (k : Int) (min ((k + ajv (fun b => !(b == 93)) (s.drop k) : Nat) + 1 : Int) (s.length : Int)))).1, ((k + ajv (fun b => !(b == 93)) (s.drop k) : Nat) : Int) + 1, 0) else ([], (k : Int), 5))
  else if ach aba s (k : Int) = k then ([], (k : Int), 5) else (sub s (k : Int) ((ach aba s (k : Int) : Nat) : Int), ((ach aba s (k : Int) : Nat) : Int), 0)
theorem amk {s : Str} {k : Nat} {b : UInt8} (h : akh s k b = true) : k < s.length ∧ at_ s (k : Int) = b := by
  unfold akh at h
  simp only [zau, decide_eq_true_eq, beq_iff_eq] at h
  exact h
theorem valP_bd (s : Str) (hs : s.length ≤ 4194304) (k : Nat) (hk : k ≤ s.length) : (valP s k).1.length ≤ 90000000 ∧ ((valP s k).2.2 = 0 → (k : Int) + 1 ≤ (valP s k).2.1 ∧ (valP s k).2.1 ≤ (s.length : Int) + 1) := by
  unfold valP
  have h1 := akg aba s k hk
  have h2 := agv aba s (k : Int)
  have hsp := anh (fun b => !(b == 93)) (s.drop k)
  rw [List.length_drop] at hsp
  split
  · rename_i h
    have := unqP8_bd s k (amk h).2 (amk h).1
    exact ⟨by omega, fun h => ⟨by have := (this.2 h).1; omega, by have := (this.2 h).2; omega⟩⟩
  · split
    · split
      · have hh := hostP_len (sub s (k : Int) (min ((k + ajv (fun b => !(b == 93)) (s.drop k) : Nat) + 1 : Int) (s.length : Int)))
        rw [sub_len] at hh
        exact ⟨by simp only; omega, fun _ => ⟨by simp only; omega, by simp only; omega⟩⟩
      · exact ⟨by simp, fun h => absurd h (show ¬ ((5 : UInt8) = 0) by decide)⟩
    · split
      · exact ⟨by simp, fun h => absurd h (show ¬ ((5 : UInt8) = 0) by decide)⟩
      · rename_i h
        exact ⟨by simp only [sub_len]; omega, fun _ => ⟨by simp only; omega, by simp only; omega⟩⟩
theorem rfSees (s : Str) (k : Nat) (b : UInt8) : (if (k : Int) < (s.length : Int) then (gd (0 ≤ (k : Int) ∧ (k : Int) < (s.length : Int)) <| some (decide ((at_ s (k : Int)) = b))) else some false) = some (akh s k b) := by
  unfold akh
  by_cases h : k < s.length
  · rw [if_pos omg, aag omg, decide_eq_true h]; rfl
  · rw [if_neg omg, decide_eq_false h]; rfl
theorem lower_nil (l : Str) : ajq l = [] ↔ l = [] := by unfold ajq; simp
theorem skip_add1 (p : UInt8 → Bool) (s : Str) (y : Nat) : ach p s ((y : Int) + 1) = ach p s ((y + 1 : Nat) : Int) := rfl
def zPrm : Str × Str × Bool := ([], [], false)
def alj (s : Str) (b : Nat) : PQ × Int × UInt8 × (Str × Int) :=
  if ach aba s (b : Int) = b then (zPrm, (b : Int), 5, (s, (b : Int)))
  else if akh s (ach abv s ((ach aba s (b : Int) : Nat) : Int)) 61 = false then ((ajq (sub s (b : Int) ((ach aba s (b : Int) : Nat) : Int)), [], false), 0, 0, (s, ((ach abv s ((ach aba s (b : Int) : Nat) : Int) : Nat) : Int)))
  else if (valP s (ach abv s ((ach abv s ((ach aba s (b : Int) : Nat) : Int) + 1 : Nat) : Int))).2.2 = 0 then ((ajq (sub s (b : Int) ((ach aba s (b : Int) : Nat) : Int)), (valP s (ach abv s ((ach abv s ((ach aba s (b : Int) : Nat) : Int) + 1 : Nat) : Int))).1, true), 0, 0, (s, (valP s (ach abv s ((ach abv s ((ach aba s (b : Int) : Nat) : Int) + 1 : Nat) : Int))).2.1))
  else (zPrm, (valP s (ach abv s ((ach abv s ((ach aba s (b : Int) : Nat) : Int) + 1 : Nat) : Int))).2.1, (valP s (ach abv s ((ach abv s ((ach aba s (b : Int) : Nat) : Int) + 1 : Nat) : Int))).2.2, (s, ((ach abv s ((ach abv s ((ach aba s (b : Int) : Nat) : Int) + 1 : Nat) : Int) : Nat) : Int)))
theorem listed_eq (s : Str) (hs : s.length ≤ 4194304) (b : Nat) (hb : b ≤ s.length) : afm FU (s, (b : Int)) = some (alj s b) := by
  unfold afm alj
  have ht1 := akg aba s b hb
  have ht2 := agv aba s (b : Int)
  rw [token2_eq s hs b hb, zab]
  simp only
  generalize ht : ach aba s (b : Int) = t at ht1 ht2 ⊢
  have hy2 := agv abv s (t : Int)
  have hy1 := akg abv s t ht2
  rw [adLower_eq _ (by rw [sub_len]; omega), zab]
  by_cases hn : t = b
  · have : ajq (sub s (b : Int) (t : Int)) = [] := (lower_nil _).2 ((ang s b t ht2 ht1).2 hn)
    rw [if_pos this, if_pos hn, hn]; rfl
  · have : ¬ ajq (sub s (b : Int) (t : Int)) = [] := fun h => hn ((ang s b t ht2 ht1).1 ((lower_nil _).1 h))
    rw [if_neg this, if_neg hn, amy s hs, zab]
    generalize hy : ach abv s (t : Int) = y at hy1 hy2 ⊢
    rw [sees_eq, zab]
    cases h61 : akh s y 61 with
    | false => rw [zaz, cond_true, if_pos rfl]
    | true =>
      rw [zat, cond_false, if_neg (show ¬ (true = false) by decide), gok, amy s hs, zab, skip_add1]
      have hz2 := agv abv s ((y + 1 : Nat) : Int)
      generalize hz : ach abv s ((y + 1 : Nat) : Int) = z at hz2 ⊢
      have hq1 := akg aba s z hz2
      have hq2 := agv aba s (z : Int)
      have hsp := anh (fun b => !(b == 93)) (s.drop z)
      rw [List.length_drop] at hsp
      rw [sees_eq, zab]
      unfold valP
      cases h34 : akh s z 34 with
      | true =>
        rw [cond_true, if_pos rfl, unquote_eq s hs, zab]
        by_cases he : (unqP8 s (z : Int)).2.2 = 0
        · rw [if_pos he, if_pos he]
        · rw [if_neg he, if_neg he]; rfl
      | false =>
        rw [cond_false, if_neg (show ¬ (false = true) by decide), sees_eq, zab]
        cases h91 : akh s z 91 with
        | true =>
          rw [cond_true, if_pos rfl, until1_eq s hs z hz2 93 (by decide), zab]
          simp only
          rw [gok, aag omg, adHost_eq _ (by rw [sub_len]; omega), zab]
          cases hh : (hostP (sub s (z : Int) (min ((z + ajv (fun b => !(b == 93)) (s.drop z) : Nat) + 1 : Int) (s.length : Int)))).2 with
          | false => rw [zaz, cond_true, if_neg (show ¬ (false = true) by decide), if_neg (show ¬ ((5 : UInt8) = 0) by decide)]; rfl
          | true => rw [zat, cond_false, gok, if_pos rfl, if_pos rfl]
        | false =>
          rw [cond_false, if_neg (show ¬ (false = true) by decide), token2_eq s hs z hz2, zab]
          simp only
          by_cases hq : ach aba s (z : Int) = z
          · rw [if_pos ((ang s z _ hq2 hq1).2 hq), if_pos hq, if_neg (show ¬ ((5 : UInt8) = 0) by decide), hq]; rfl
          · rw [if_neg (fun h => hq ((ang s z _ hq2 hq1).1 h)), if_neg hq, if_pos rfl]
open List renaming drop → zak, length_append → zan, length_singleton → zai, take → zas
abbrev PP := Str × Str × Bool
theorem find_gen {α : Type} [Inhabited α] (p : α → Bool) (l : List α) (F : Nat → Int → Option (Unit ⊕ Int))
    (h0 : ∀ fk, F (fk + 1) (l.length : Int) = some (.inl ()))
    (h1 : ∀ fk (k : Nat), k < l.length → p (el l k) = true → F (fk + 1) (k : Int) = some (.inr (k : Int)))
    (h2 : ∀ fk (k : Nat), k < l.length → p (el l k) = false → F (fk + 1) (k : Int) = F fk ((k : Int) + 1)) (n : Nat) :
    ∀ (k fk : Nat), k + n = l.length → n < fk → F fk (k : Int) = some (match (l.drop k).findIdx? p with | none => .inl () | some j => .inr ((k + j : Nat) : Int)) := by
  induction n with
  | zero =>
    intro k fk hk hf
    obtain ⟨fk, rfl⟩ := fkx fk
    obtain rfl : k = l.length := by omega
    rw [h0, List.drop_length]; rfl
  | succ n ih =>
    intro k fk hk hf
    obtain ⟨fk, rfl⟩ := fkx fk
    have hlt : k < l.length := by omega
    have hd : l.drop k = el l (k : Int) :: l.drop (k + 1) := by rw [el_nat _ _ hlt, List.drop_eq_getElem_cons hlt]
    rw [hd, List.findIdx?_cons]
    cases h : p (el l (k : Int)) with
    | true => rw [h1 fk k hlt h]; rfl
    | false =>
      rw [h2 fk k hlt h, anj, ih (k + 1) fk omg omg]
      cases (l.drop (k + 1)).findIdx? p with
      | none => rfl
      | some j =>
        show some (Sum.inr _) = some (Sum.inr _)
        congr 2
        show ((k + 1 + j : Nat) : Int) = ((k + (j + 1) : Nat) : Int)
        omega
theorem find_gen0 {α : Type} [Inhabited α] (p : α → Bool) (l : List α) (hl : l.length ≤ 4194304) (F : Nat → Int → Option (Unit ⊕ Int))
    (h0 : ∀ fk, F (fk + 1) (l.length : Int) = some (.inl ()))
    (h1 : ∀ fk (k : Nat), k < l.length → p (el l k) = true → F (fk + 1) (k : Int) = some (.inr (k : Int)))
    (h2 : ∀ fk (k : Nat), k < l.length → p (el l k) = false → F (fk + 1) (k : Int) = F fk ((k : Int) + 1)) : F FU 0 = some (match l.findIdx? p with | none => .inl () | some j => .inr ((j : Nat) : Int)) := by
  have := find_gen p l F h0 h1 h2 l.length 0 FU omg (by rw [aks]; omega)
  rw [List.drop_zero] at this
  have this' : F FU (0 : Int) = _ := this
  rw [this']
  cases l.findIdx? p with
  | none => rfl
  | some j =>
    show some (Sum.inr _) = some (Sum.inr _)
    congr 2
    show ((0 + j : Nat) : Int) = _
    omega
def fIdx (o : Option Nat) : Int := match o with | none => -1 | some j => (j : Int)
theorem fIdx_any {α : Type} (p : α → Bool) (l : List α) : decide ((0 : Int) ≤ fIdx (l.findIdx? p)) = l.any p := by
  rw [← List.findIdx?_isSome]
  cases l.findIdx? p with
  | none => rfl
  | some j => show decide ((0 : Int) ≤ (j : Int)) = true; rw [decide_eq_true_eq]; omega
theorem holds_eq (l : List PP) (hl : l.length ≤ 4194304) (name : Str) : agk FU l name = some (l.any fun p => p.1 == name) := by
  have h := find_gen0 (fun p : PP => p.1 == name) l hl (aav FU l name)
    (fun fk => by rw [aav, if_neg omg])
    (fun fk k hk h => by
      have h' : (el l (k : Int)).1 = name := by simpa using h
      rw [aav, if_pos omg, aag omg, aag omg]
      unfold ahs
      rw [zab, decide_eq_true h', cond_true])
    (fun fk k hk h => by
      have h' : ¬ (el l (k : Int)).1 = name := by simpa using h
      rw [aav, if_pos omg, aag omg, aag omg]
      unfold ahs
      rw [zab, decide_eq_false h', cond_false, gok])
  unfold agk acs ada
  rw [h, zab]
  have e : zaC (fun (v38 : Unit) => some (-1 : Int)) (fun q => some q) (match l.findIdx? (fun p : PP => p.1 == name) with | none => (Sum.inl () : Unit ⊕ Int) | some j => Sum.inr ((j : Nat) : Int)) = some (fIdx (l.findIdx? (fun p : PP => p.1 == name))) := by
    cases l.findIdx? (fun p : PP => p.1 == name) <;> rfl
  rw [e, zab, fIdx_any]; rfl
def roomB (l : List PP) (name : Str) : UInt8 := if (l.any fun p => p.1 == name) = true then 7 else if 16 ≤ l.length then 4 else 0
theorem room_eq (l : List PP) (hl : l.length ≤ 4194304) (name : Str) : aik FU l name = some (roomB l name) := by
  unfold aik roomB
  rw [holds_eq l hl, zab]
  cases l.any fun p => p.1 == name with
  | true => rfl
  | false =>
    rw [cond_false, if_neg (show ¬ (false = true) by decide)]
    by_cases h : 16 ≤ l.length
    · rw [if_pos omg, if_pos h]
    · rw [if_neg omg, if_neg h]
def parM (s : Str) : Nat → List PP → Nat → List PP × Int × UInt8
  | 0, _, _ => ([], 0, 0)
  | f + 1, l, i =>
    if s.length ≤ ach abv s (i : Int) then (l, 0, 0)
    else if ¬ at_ s ((ach abv s (i : Int) : Nat) : Int) = 59 then ([], ((ach abv s (i : Int) : Nat) : Int), 5)
    else if (alj s (ach abv s ((ach abv s (i : Int) + 1 : Nat) : Int))).2.2.1 = 0 then
      (if roomB l (alj s (ach abv s ((ach abv s (i : Int) + 1 : Nat) : Int))).1.1 = 0 then parM s f (l ++ [(alj s (ach abv s ((ach abv s (i : Int) + 1 : Nat) : Int))).1]) (alj s (ach abv s ((ach abv s (i : Int) + 1 : Nat) : Int))).2.2.2.2.toNat
       else ([], ((ach abv s ((ach abv s (i : Int) + 1 : Nat) : Int) : Nat) : Int), roomB l (alj s (ach abv s ((ach abv s (i : Int) + 1 : Nat) : Int))).1.1))
    else ([], (alj s (ach abv s ((ach abv s (i : Int) + 1 : Nat) : Int))).2.1, (alj s (ach abv s ((ach abv s (i : Int) + 1 : Nat) : Int))).2.2.1)
theorem low2 : ∀ c : UInt8, aki (aki c) = aki c := afs _ (by decide +kernel)
theorem lowlowL (l : Str) : ajq (ajq l) = ajq l := by
  unfold ajq
  rw [List.map_map]
  apply List.map_congr_left
  intro c _
  exact low2 c
theorem listP_bd (s : Str) (hs : s.length ≤ 4194304) (b : Nat) (hb : b ≤ s.length) (h0 : (alj s b).2.2.1 = 0) : (alj s b).2.2.2.1 = s ∧ (b : Int) + 1 ≤ (alj s b).2.2.2.2 ∧ (alj s b).2.2.2.2 ≤ (s.length : Int) + 1 ∧ ajq (alj s b).1.1 = (alj s b).1.1 ∧ (alj s b).1.1.length ≤ s.length ∧ (alj s b).1.2.1.length ≤ 90000000 := by
  have ht1 := akg aba s b hb
  have ht2 := agv aba s (b : Int)
  unfold alj at h0 ⊢
  generalize ht : ach aba s (b : Int) = t at ht1 ht2 h0 ⊢
  have hy2 := agv abv s (t : Int)
  have hy1 := akg abv s t ht2
  have hlen : (ajq (sub s (b : Int) (t : Int))).length ≤ s.length := by
    unfold ajq; rw [List.length_map, sub_len]; omega
  by_cases hn : t = b
  · rw [if_pos hn] at h0; exact absurd h0 (show ¬ ((5 : UInt8) = 0) by decide)
  · rw [if_neg hn] at h0 ⊢
    generalize hy : ach abv s (t : Int) = y at hy1 hy2 h0 ⊢
    cases h61 : akh s y 61 with
    | false =>
      rw [if_pos rfl]
      exact ⟨rfl, by simp only; omega, by simp only; omega, lowlowL _, hlen, by simp⟩
    | true =>
      have hyl := (amk h61).1
      rw [h61, if_neg (show ¬ (true = false) by decide)] at h0
      rw [if_neg (show ¬ (true = false) by decide)]
      have hz1 := akg abv s (y + 1) omg
      have hz2 := agv abv s ((y + 1 : Nat) : Int)
      generalize hz : ach abv s ((y + 1 : Nat) : Int) = z at hz1 hz2 h0 ⊢
      by_cases hv : (valP s z).2.2 = 0
      · have := valP_bd s hs z hz2
        rw [if_pos hv]
        exact ⟨rfl, by simp only; have := (this.2 hv).1; omega, by simp only; exact (this.2 hv).2, lowlowL _, hlen, this.1⟩
      · rw [if_neg hv] at h0
        exact absurd h0 hv
theorem params_lp (s : Str) (hs : s.length ≤ 4194304) (n : Nat) : ∀ (k fk : Nat) (l : List PP), s.length - k ≤ n → n < fk → k ≤ 4194305 → l.length ≤ 16 →
    aes FU fk l s (k : Int) = some (parM s (n + 1) l k) := by
  have ff : ¬ (false = true) := by decide
  induction n with
  | zero =>
    intro k fk l hn hf hk hl
    obtain ⟨fk, rfl⟩ := fkx fk
    have h1 := agv abv s (k : Int)
    have h2 : s.length ≤ ach abv s (k : Int) := by
      unfold ach akl
      omega
    rw [aes, amy s hs, zab, ended_eq, zab, decide_eq_true omg, cond_true, parM, if_pos h2]
  | succ n ih =>
    intro k fk l hn hf hk hl
    obtain ⟨fk, rfl⟩ := fkx fk
    have h1 := agv abv s (k : Int)
    have hge : k ≤ s.length → k ≤ ach abv s (k : Int) := akg abv s k
    rw [parM, aes, amy s hs, zab, ended_eq, zab]
    generalize hj : ach abv s (k : Int) = j at h1 hge ⊢
    by_cases he : s.length ≤ j
    · rw [decide_eq_true omg, cond_true, if_pos he]
    · have hkl : k ≤ s.length := by
        rcases Nat.lt_or_ge s.length k with h | h
        · exfalso
          have : ach abv s (k : Int) = s.length := by
            have a := agv abv s (k : Int)
            unfold ach akl at a ⊢
            omega
          omega
        · exact h
      rw [decide_eq_false omg, cond_false, if_neg he, sees_eq, zab]
      have hjl : j < s.length := by omega
      unfold akh
      rw [decide_eq_true hjl, zaA]
      by_cases h59 : at_ s (j : Int) = 59
      · have e59 : (at_ s (j : Int) == 59) = true := by simpa using h59
        rw [e59, zat, cond_false, if_neg (by simpa using h59)]
        simp only
        rw [gok, amy s hs, zab, skip_add1]
        have hb2 := agv abv s ((j + 1 : Nat) : Int)
        have hb1 := akg abv s (j + 1) omg
        generalize hb : ach abv s ((j + 1 : Nat) : Int) = b at hb1 hb2 ⊢
        rw [listed_eq s hs b hb2, zab]
        by_cases h0 : (alj s b).2.2.1 = 0
        · obtain ⟨g1, g2, g3, g4, g5, g6⟩ := listP_bd s hs b hb2 h0
          rw [if_pos h0, if_pos h0, room_eq l omg, zab, zab]
          by_cases hr : roomB l (alj s b).1.1 = 0
          · have hl16 : l.length < 16 := by
              unfold roomB at hr
              split at hr
              · exact absurd hr (by decide)
              · split at hr
                · exact absurd hr (by decide)
                · omega
            have ee : (alj s b).2.2.2.2 = (((alj s b).2.2.2.2.toNat : Nat) : Int) := by omega
            rw [if_pos hr]
            try simp only
            rw [if_pos hr, aag (by simp only [zai]; omega), g1, ee]
            have := ih (alj s b).2.2.2.2.toNat fk (l ++ [(alj s b).1]) omg omg omg (by simp only [zan, zai]; omega)
            rw [this]
            congr 2
          · rw [if_neg hr]
            try simp only
            rw [if_neg hr]
        · rw [if_neg h0, if_neg h0, zab]
          simp only
          rw [if_neg h0]
      · have e59 : (at_ s (j : Int) == 59) = false := by simpa using h59
        rw [e59, zaz, cond_true, if_pos h59]
def parP (s : Str) : List PP × Int × UInt8 := parM s (s.length + 1) [] 0
theorem params_eq (s : Str) (hs : s.length ≤ 4194304) : afp FU s = some (parP s) := by
  unfold afp
  exact params_lp s hs s.length 0 FU [] omg (by rw [aks]; omega) omg (by simp)
def itemE (s : Str) : Nat := if ach aba s 0 = 0 then 0 else if akh s (ach aba s 0) 47 = true then (if ach aba s ((ach aba s 0 + 1 : Nat) : Int) = ach aba s 0 + 1 then 0 else ach aba s ((ach aba s 0 + 1 : Nat) : Int)) else ach aba s 0
def itemP (v : Str) : (Str × List PP) × UInt8 :=
  if itemE (trimL v) = 0 then (([], []), 5)
  else if (parP ((trimL v).drop (itemE (trimL v)))).2.2 = 0 then (((trimL v).take (itemE (trimL v)), (parP ((trimL v).drop (itemE (trimL v)))).1), 0)
  else (([], []), (parP ((trimL v).drop (itemE (trimL v)))).2.2)
theorem item_eq (v : Str) (hv : v.length ≤ 4194304) : akn FU v = some (itemP v) := by
  have hl := trimL_len v
  have h1 := agv aba (trimL v) 0
  unfold akn itemP itemE
  rw [trim_eq v hv, zab, tokEndP_eq _ omg, zab]
  generalize trimL v = s at hl h1 ⊢
  have fin : ∀ e : Nat, e ≤ s.length → e ≠ 0 → zaC (fun (v41 : Int) => (gd (0 ≤ v41 ∧ v41 ≤ (s.length : Int)) <| ((afp FU (zak (zac v41) s)).bind fun (y66 : ((List PP) × Int × UInt8)) => (if y66.2.2 = (0 : UInt8) then (gd (0 ≤ v41 ∧ v41 ≤ (s.length : Int)) <| some ((zas (zac v41) s, y66.1), (0 : UInt8))) else some ((([] : Str), ([] : List PP)), y66.2.2))))) (fun q => some q) (.inl (e : Int) : Int ⊕ ((Str × List PP) × UInt8)) = some (if e = 0 then (([], []), 5) else if (parP (s.drop e)).2.2 = 0 then ((s.take e, (parP (s.drop e)).1), 0) else (([], []), (parP (s.drop e)).2.2)) := by
    intro e he h0
    have et : ((e : Nat) : Int).toNat = e := by omega
    rw [zav, aag omg, et, params_eq _ (by rw [List.length_drop]; omega), zab, if_neg h0]
    by_cases hp : (parP (s.drop e)).2.2 = 0
    · rw [if_pos hp, if_pos hp, aag omg]
    · rw [if_neg hp, if_neg hp]
  generalize ach aba s 0 = k at h1 ⊢
  by_cases h0 : k = 0
  · subst h0; rfl
  · rw [if_neg omg, rfSees, zab, if_neg h0]
    cases h47 : akh s k 47 with
    | true =>
      have hk := (amk h47).1
      have h2 := agv aba s ((k + 1 : Nat) : Int)
      have h3 := akg aba s (k + 1) omg
      rw [cond_true, gok, tokEndP_eq _ omg, zab, gok, skip_add1, if_pos rfl]
      by_cases he : ach aba s ((k + 1 : Nat) : Int) = k + 1
      · rw [if_pos omg, if_pos he]; rfl
      · rw [if_neg omg, if_neg he, zab, fin _ h2 omg]
    | false =>
      rw [cond_false, zab, if_neg (show ¬ (false = true) by decide), fin _ h1 h0]
open Bool renaming and_eq_true → zau, not_false → zaz, not_true → zat, true_and → zaA
open Go.Lib renaming join → zax
open List renaming length_append → zan, length_cons → zam, length_nil → zaw, length_singleton → zai, take → zas
def quoT (s : Str) : Str := 34 :: (s.flatMap ail ++ [34])
def quoM (s : Str) : Str × UInt8 := if s.any adg = true then ([], 5) else (quoT s, 0)
theorem qstep_len (c : UInt8) : (ail c).length ≤ 2 := by unfold ail; split <;> simp
theorem qflat_len : ∀ s : Str, (s.flatMap ail).length ≤ 2 * s.length
  | [] => by simp
  | c :: l => by
    have h1 := qstep_len c
    have h2 := qflat_len l
    rw [List.flatMap_cons, zan, zam]; omega
theorem quo_lp (s : Str) (hs : s.length ≤ 4194304) (l : Str) : ∀ (p : Str) (fk : Nat), s = p ++ l → l.length < fk →
    aeq FU s fk (34 :: p.flatMap ail) (p.length : Int) = some (if l.any adg = true then .inr ([], 5) else .inl (34 :: s.flatMap ail)) := by
  induction l with
  | nil =>
    intro p fk h hf
    obtain ⟨fk, rfl⟩ := fkx fk
    rw [List.append_nil] at h
    subst h
    rw [aeq, if_neg omg]; rfl
  | cons c l ih =>
    intro p fk h hf
    obtain ⟨fk, rfl⟩ := fkx fk
    have hl := congrArg List.length h
    simp only [zan, zam] at hl hf
    have hb : (0 : Int) ≤ (p.length : Int) ∧ (p.length : Int) < (s.length : Int) := by omega
    have ha : at_ s (p.length : Int) = c := by rw [h, at_mid]
    have hq := qflat_len p
    have hih := ih (p ++ [c]) fk (by rw [h]; simp) omg
    rw [← len_snoc p c, List.flatMap_append, List.flatMap_singleton] at hih
    rw [aeq, if_pos hb.2, aag hb, ha, char_control, zab, List.any_cons]
    cases hc : adg c with
    | true => rw [cond_true, Bool.true_or, if_pos rfl]
    | false =>
      rw [cond_false, Bool.false_or]
      have hq34 : ∀ b : Bool, ail c = (bif b then [92, c] else [c]) → (bif b then gd (((34 :: p.flatMap ail).length + ([(92 : UInt8)] : List UInt8).length) * 1 ≤ 140737488355328) (some ((34 :: p.flatMap ail) ++ ([(92 : UInt8)] : List UInt8))) else some (34 :: p.flatMap ail)) = some ((34 :: p.flatMap ail) ++ (bif b then [92] else [])) := by
        intro b _
        cases b with
        | true => rw [cond_true, cond_true, aag (by simp only [zam, zaw]; omega)]
        | false => rw [cond_false, cond_false, List.append_nil]
      have fin : ∀ b : Bool, ail c = (bif b then [92, c] else [c]) → ((some ((34 :: p.flatMap ail) ++ (bif b then [92] else []))).bind fun (v394 : List UInt8) => (gd (0 ≤ (p.length : Int) ∧ (p.length : Int) < (s.length : Int)) <| (gd ((v394.length + ([c] : List UInt8).length) * 1 ≤ 140737488355328) <| (gd (acw ((p.length : Int) + (1 : Int))) <| (aeq FU s fk (v394 ++ ([c] : List UInt8)) ((p.length : Int) + (1 : Int))))))) = some (if l.any adg = true then .inr ([], 5) else .inl (34 :: s.flatMap ail)) := by
        intro b hqb
        rw [zab, aag hb, aag (by cases b <;> simp only [cond_true, cond_false, zan, zam, zaw] <;> omega), aag (akt _ omg omg), ← hih, hqb]
        cases b <;> simp
      by_cases h34 : c = 34
      · have e : ail c = (bif true then [92, c] else [c]) := by rw [h34]; rfl
        rw [if_pos h34, zab, hq34 true e, fin true e]
      · rw [if_neg h34, zab]
        by_cases h92 : c = 92
        · have e : ail c = (bif true then [92, c] else [c]) := by rw [h92]; rfl
          rw [decide_eq_true h92, hq34 true e, fin true e]
        · have e : ail c = (bif false then [92, c] else [c]) := by unfold ail; rw [if_neg (by simp [h34, h92])]; rfl
          rw [decide_eq_false h92, hq34 false e, fin false e]
theorem quote_eq (s : Str) (hs : s.length ≤ 4194304) : ajh FU s = some (quoM s) := by
  have := quo_lp s hs s [] FU (by simp) (by rw [aks]; omega)
  have this' : aeq FU s FU (([] : List UInt8) ++ ([(34 : UInt8)] : List UInt8)) (0 : Int) = _ := this
  have hq := qflat_len s
  unfold ajh quoM
  rw [aag (akt _ omg omg), aag omg, aag (by decide), this', zab]
  cases s.any adg with
  | true => rfl
  | false => rw [if_neg (show ¬ (false = true) by decide), zav, aag (by simp only [zam, zaw]; omega), if_neg (show ¬ (false = true) by decide)]; rfl
theorem quoT_len (s : Str) : (quoT s).length ≤ 2 * s.length + 2 := by
  have := qflat_len s
  unfold quoT
  rw [zam, zan, zai]; omega
theorem tok_nc : ∀ c : UInt8, aba c = true → adg c = false := afs _ (by decide +kernel)
theorem hex_nc : ∀ c : UInt8, hexB c = true → adg (aki c) = false := afs _ (by decide +kernel)
theorem lab_nc : ∀ c : UInt8, labB c = true → adg (aki c) = false := afs _ (by decide +kernel)
theorem dig_nc : ∀ c : UInt8, ahx c = true → adg c = false := afs _ (by decide +kernel)
theorem any_f (l : Str) (h : ∀ c ∈ l, adg c = false) : l.any adg = false := by
  rw [List.any_eq_false]; intro c hc; rw [h c hc]; decide
theorem isTok_nc (s : Str) (h : ajg s = true) : s.any adg = false := by
  unfold ajg at h
  rw [zau] at h
  exact any_f s fun c hc => tok_nc c (List.all_eq_true.1 h.2 c hc)
theorem grpN_nc (g : Str) (h : ama g = true) : ∀ c ∈ grpN g, adg c = false := by
  have hx : g.all hexB = true := by unfold ama at h; simp only [zau] at h; exact h.2
  intro c hc
  unfold grpN at hc
  split at hc
  · rw [List.mem_singleton.1 hc]; decide
  · have hm : c ∈ lowP g := (List.dropWhile_suffix _).subset hc
    obtain ⟨d, hd, rfl⟩ := List.mem_map.1 hm
    exact hex_nc d (List.all_eq_true.1 hx d hd)
theorem join_nc : ∀ (l : List Str), (∀ x ∈ l, ∀ c ∈ x, adg c = false) → ∀ c ∈ zax l [58], adg c = false
  | [], _, c, hc => by simp [zax, List.intercalate] at hc
  | [a], h, c, hc => by
    simp [zax, List.intercalate] at hc
    exact h a (by simp) c hc
  | a :: b :: l, h, c, hc => by
    have e : zax (a :: b :: l) [58] = a ++ (58 :: zax (b :: l) [58]) := by simp [zax, List.intercalate, List.intersperse]
    rw [e] at hc
    rcases List.mem_append.1 hc with hc | hc
    · exact h a (by simp) c hc
    · rcases List.mem_cons.1 hc with rfl | hc
      · decide
      · exact join_nc (b :: l) (fun x hx => h x (List.mem_cons_of_mem _ hx)) c hc
theorem grpList_nc (s : Str) : ∀ x ∈ (ahe s).1, ∀ c ∈ x, adg c = false := by
  intro x hx
  unfold ahe at hx
  split at hx
  · rename_i ha
    obtain ⟨y, hy, rfl⟩ := List.mem_map.1 hx
    exact grpN_nc y (List.all_eq_true.1 ha y hy)
  · simp at hx
theorem grpL0_nc (s : Str) : ∀ x ∈ (alu s).1, ∀ c ∈ x, adg c = false := by
  intro x hx
  unfold alu at hx
  split at hx
  · simp at hx
  · exact grpList_nc s x hx
theorem grpsP_nc (s : Str) : ∀ c ∈ (grpsP s).1, adg c = false := by
  intro c hc
  unfold grpsP at hc
  split at hc
  · simp at hc
  · split at hc
    · exact join_nc _ (grpList_nc s) c hc
    · split at hc
      · simp at hc
      · rcases List.mem_append.1 hc with hc | hc
        · rcases List.mem_append.1 hc with hc | hc
          · exact join_nc _ (grpL0_nc _) c hc
          · have h58 : c = 58 := by simpa using hc
            rw [h58]; decide
        · exact join_nc _ (grpL0_nc _) c hc
theorem hostP_nc (s : Str) : ((hostP s).1).any adg = false := by
  refine any_f _ fun c hc => ?_
  unfold hostP at hc
  split at hc
  · split at hc
    · rcases List.mem_append.1 hc with hc | hc
      · rcases List.mem_append.1 hc with hc | hc
        · rw [List.mem_singleton.1 hc]; decide
        · exact grpsP_nc _ c hc
      · rw [List.mem_singleton.1 hc]; decide
    · simp at hc
  · split at hc
    · rename_i hn
      unfold numsP at hn
      simp only [zau] at hn
      rcases spl_all 46 ahx s (fun x hx => (num_parts x (by rw [← oct_num]; exact List.all_eq_true.1 hn.1.2 x hx)).2.2) c hc with h | h
      · exact dig_nc c h
      · rw [h]; decide
    · split at hc
      · rename_i hn
        unfold namedP at hn
        simp only [zau] at hn
        obtain ⟨d, hd, rfl⟩ := List.mem_map.1 hc
        rcases spl_all 46 labB s (fun x hx => by
          have := List.all_eq_true.1 hn.1.2 x hx
          unfold labOk at this
          simp only [zau] at this
          exact this.2) d hd with h | h
        · exact lab_nc d h
        · rw [h]; decide
      · simp at hc
def brV (v : Str) : Bool := (hostP v).2 && decide ((hostP v).1 = v) && (at_ v 0 == 91)
def okN (pre : List PP) (p : PP) : Bool := ajg p.1 && decide (ajq p.1 = p.1) && !(pre.any fun q => q.1 == p.1)
def okV (p : PP) : Bool := bif p.2.2 then !p.2.1.any adg else decide (p.2.1 = [])
def txt (p : PP) : Str := bif p.2.2 then 61 :: (bif ajg p.2.1 || brV p.2.1 then p.2.1 else quoT p.2.1) else []
def ppL : List PP → List PP → Option Str
  | _, [] => some []
  | pre, p :: r => bif okN pre p && okV p then (ppL (pre ++ [p]) r).map fun t => 59 :: (p.1 ++ (txt p ++ t)) else none
def ppM (l : List PP) : Str × UInt8 := if 16 < l.length then ([], 2) else match ppL [] l with | some t => (t, 0) | none => ([], 2)
theorem brV_nc (v : Str) (h : brV v = true) : v.any adg = false := by
  unfold brV at h
  simp only [zau, decide_eq_true_eq] at h
  rw [← h.1.2]; exact hostP_nc v
theorem host_ne (v : Str) (h : (hostP v).2 = true) (h2 : (hostP v).1 = v) : v ≠ [] := by
  intro e
  subst e
  exact absurd h (by decide)
theorem txt_len (p : PP) (h1 : p.2.1.length ≤ 4194304) : (txt p).length ≤ 8388611 := by
  have := quoT_len p.2.1
  unfold txt
  cases p.2.2 with
  | false => simp
  | true =>
    rw [cond_true, zam]
    cases (ajg p.2.1 || brV p.2.1) with
    | true => rw [cond_true]; omega
    | false => rw [cond_false]; omega
theorem pp_lp (l : List PP) (hl : l.length ≤ 16) (hb : ∀ p ∈ l, p.1.length ≤ 4194304 ∧ p.2.1.length ≤ 4194304) (r : List PP) : ∀ (pre : List PP) (fk : Nat) (out : Str), l = pre ++ r → r.length < fk → out.length ≤ pre.length * 16000000 →
    aca FU l fk (pre.length : Int) out = some (match ppL pre r with | some t => .inl (out ++ t) | none => .inr ([], 2)) := by
  induction r with
  | nil =>
    intro pre fk out h hf ho
    obtain ⟨fk, rfl⟩ := fkx fk
    rw [List.append_nil] at h
    rw [aca, if_neg (by rw [h]; omega)]; simp [ppL]
  | cons p r ih =>
    intro pre fk out h hf ho
    obtain ⟨fk, rfl⟩ := fkx fk
    have hlen := congrArg List.length h
    simp only [zan, zam] at hlen hf
    have hin : (0 : Int) ≤ (pre.length : Int) ∧ (pre.length : Int) < (l.length : Int) := by omega
    have he : el l (pre.length : Int) = p := by rw [h]; simp [el]
    have htk : zas (zac (pre.length : Int)) l = pre := by rw [h]; simp
    have hbp := hb p (by rw [h]; simp)
    have ht := txt_len p hbp.2
    have hok : acw ((pre.length : Int) + 1) := akt _ omg omg
    have next : ∀ o : Str, o = out ++ (59 :: (p.1 ++ txt p)) → okN pre p = true → okV p = true → aca FU l fk ((pre.length : Int) + 1) o = some (match ppL pre (p :: r) with | some t => .inl (out ++ t) | none => .inr ([], 2)) := by
      intro o ho' h1 h2
      have hih := ih (pre ++ [p]) fk o (by rw [h]; simp) omg (by rw [ho']; simp only [zan, zam, zaw]; omega)
      rw [show ((pre ++ [p]).length : Int) = (pre.length : Int) + 1 by simp] at hih
      rw [hih, ppL, h1, h2, zaA, cond_true]
      cases ppL (pre ++ [p]) r with
      | none => rfl
      | some t => rw [ho']; simp
    have bad : okN pre p = false ∨ okV p = false → ppL pre (p :: r) = none := by
      rintro (h | h)
      · rw [ppL, h]; rfl
      · rw [ppL, h, Bool.and_false]; rfl
    rw [aca, if_pos hin.2, aag hin, aag hin, he, token_eq _ omg, zab]
    cases h1 : ajg p.1 with
    | false =>
      rw [bad (.inl (by unfold okN; rw [h1]; rfl))]; rfl
    | true =>
      rw [zat, cond_false, adLower_eq _ hbp.1, zab]
      by_cases h2 : p.1 = ajq p.1
      · rw [if_pos h2, aag omg, htk, holds_eq pre omg, zab, zab]
        cases h3 : pre.any fun q => q.1 == p.1 with
        | true => rw [bad (.inl (by unfold okN; rw [h3]; simp))]; rfl
        | false =>
          have hN : okN pre p = true := by unfold okN; rw [h1, h3, decide_eq_true h2.symm]; rfl
          rw [cond_false, aag (by simp only [zai]; omega)]
          unfold abt
          rw [aag (by simp only [zan, zai]; omega), zab]
          simp only
          cases h4 : p.2.2 with
          | false =>
            rw [zaz, cond_true]
            by_cases h5 : p.2.1 = []
            · have hV : okV p = true := by unfold okV; rw [h4, cond_false]; exact decide_eq_true h5
              rw [if_pos h5, aag hok]
              refine next _ ?_ hN hV
              have : txt p = [] := by unfold txt; rw [h4]; rfl
              rw [this]; simp
            · have hV : okV p = false := by unfold okV; rw [h4, cond_false]; exact decide_eq_false h5
              rw [if_neg h5, bad (.inr hV)]
          | true =>
            have hVe : okV p = !p.2.1.any adg := by unfold okV; rw [h4]; rfl
            rw [zat, cond_false, adHost_eq _ hbp.2, zab, token_eq _ omg, zab]
            have e : (bif (!ajg p.2.1) then (bif (hostP p.2.1).2 then (if (hostP p.2.1).1 = p.2.1 then (gd (0 ≤ (0 : Int) ∧ (0 : Int) < (p.2.1.length : Int)) <| some (!decide ((at_ p.2.1 (0 : Int)) = (91 : UInt8)))) else some true) else some true) else some false) = some (!(ajg p.2.1 || brV p.2.1)) := by
              unfold brV
              cases ajg p.2.1 with
              | true => rfl
              | false =>
                rw [zaz, cond_true, Bool.false_or]
                cases h6 : (hostP p.2.1).2 with
                | false => rfl
                | true =>
                  rw [cond_true, zaA]
                  by_cases h7 : (hostP p.2.1).1 = p.2.1
                  · have := List.length_pos_iff.2 (host_ne p.2.1 h6 h7)
                    rw [if_pos h7, decide_eq_true h7, aag omg, zaA]; rfl
                  · rw [if_neg h7, decide_eq_false h7]; rfl
            rw [e, zab]
            cases h5 : (ajg p.2.1 || brV p.2.1) with
            | true =>
              have hnc : p.2.1.any adg = false := by
                rcases Bool.or_eq_true_iff.1 h5 with h | h
                · exact isTok_nc _ h
                · exact brV_nc _ h
              rw [zat, cond_false, zab, zav, aag (by simp only [zai]; omega), aag (by simp only [zan, zai]; omega), zab, aag hok]
              refine next _ ?_ hN (by rw [hVe, hnc]; rfl)
              have : txt p = 61 :: p.2.1 := by unfold txt; rw [h4, h5]; rfl
              rw [this]; simp
            | false =>
              rw [zaz, cond_true, quote_eq _ hbp.2, zab]
              unfold quoM
              have hq := quoT_len p.2.1
              cases h6 : p.2.1.any adg with
              | true =>
                rw [if_pos rfl, if_neg (show ¬ ((5 : UInt8) = 0) by decide), zab, Sum.elim_inr, bad (.inr (by rw [hVe, h6]; rfl))]
              | false =>
                rw [if_neg (show ¬ (false = true) by decide), if_pos rfl, zab, zav]
                simp only
                rw [aag (by simp only [zai]; omega), aag (by simp only [zan, zai]; omega), zab, aag hok]
                refine next _ ?_ hN (by rw [hVe, h6]; rfl)
                have : txt p = 61 :: quoT p.2.1 := by unfold txt; rw [h4, h5]; rfl
                rw [this]; simp
      · rw [if_neg h2, zab, cond_true, bad (.inl (by unfold okN; rw [decide_eq_false (fun h => h2 h.symm)]; simp))]
theorem ppL_len : ∀ (r pre : List PP) (t : Str), (∀ p ∈ r, p.1.length ≤ 4194304 ∧ p.2.1.length ≤ 4194304) → ppL pre r = some t → t.length ≤ r.length * 16000000
  | [], _, t, _, h => by simp [ppL] at h; subst h; simp
  | p :: r, pre, t, hb, h => by
    rw [ppL] at h
    cases hk : okN pre p && okV p with
    | false => rw [hk] at h; cases h
    | true =>
      rw [hk, cond_true, Option.map_eq_some_iff] at h
      obtain ⟨u, hu, rfl⟩ := h
      have := ppL_len r _ u (fun q hq => hb q (List.mem_cons_of_mem _ hq)) hu
      have hbp := hb p List.mem_cons_self
      have ht := txt_len p hbp.2
      simp only [zam, zan]
      omega
theorem printParams_eq (l : List PP) (hb : ∀ p ∈ l, p.1.length ≤ 4194304 ∧ p.2.1.length ≤ 4194304) : adi FU l = some (ppM l) := by
  unfold adi ppM
  by_cases h : 16 < l.length
  · rw [if_pos omg, if_pos h]
  · have := pp_lp l omg hb l [] FU [] (by simp) (by rw [aks]; omega) (by simp)
    have this' : aca FU l FU (0 : Int) [] = _ := this
    rw [if_neg omg, if_neg h, this', zab]
    cases hp : ppL [] l with
    | none => rfl
    | some t =>
      have := ppL_len l [] t hb hp
      rw [zav, List.nil_append, aag omg]
open Go.Op renaming bytesLess → zay
open List renaming length_append → zan, length_cons → zam, length_nil → zaw, length_singleton → zai, length_take → zah
theorem pp_eta (x : PP) : (x.1, x.2.1, x.2.2) = x := rfl
theorem less_tri : ∀ x y : Str, zay x y = !(zay y x || y == x)
  | [], [] => rfl
  | [], b :: y => rfl
  | a :: x, [] => rfl
  | a :: x, b :: y => by
    have ih := less_tri x y
    rw [zay, zay, ih]
    rcases Nat.lt_trichotomy a.toNat b.toNat with h | h | h
    · have h1 : a < b := h
      have h2 : ¬ b < a := by rw [UInt8.lt_iff_toNat_lt]; omega
      have h3 : ¬ a = b := fun e => by subst e; omega
      have h4 : (b :: y == a :: x) = false := by simp; intro e; exact absurd e.symm h3
      rw [h4]
      simp [h1, h2, h3]
      exact .inl fun e => h3 e.symm
    · have e : a = b := UInt8.toNat_inj.1 h
      subst e
      have h1 : ¬ a < a := by rw [UInt8.lt_iff_toNat_lt]; omega
      have h4 : (a :: y == a :: x) = (y == x) := by simp [List.cons_beq_cons]
      rw [h4]
      simp [h1]
    · have h1 : b < a := h
      have h2 : ¬ a < b := by rw [UInt8.lt_iff_toNat_lt]; omega
      have h3 : ¬ a = b := fun e => by subst e; omega
      simp [h1, h2, h3]
def gtN (a b : Str) : Bool := !(zay a b || a == b)
def insV (x : PP) : List PP → List PP
  | [] => [x]
  | a :: V => bif gtN a.1 x.1 then a :: insV x V else x :: a :: V
def insR (x : PP) (l : List PP) : List PP := (insV x l.reverse).reverse
theorem insR_snoc (x a : PP) (l : List PP) : insR x (l ++ [a]) = bif gtN a.1 x.1 then insR x l ++ [a] else l ++ [a, x] := by
  unfold insR
  rw [List.reverse_append, List.reverse_singleton, List.singleton_append, insV]
  cases gtN a.1 x.1 <;> simp
theorem insV_len (x : PP) : ∀ V : List PP, (insV x V).length = V.length + 1
  | [] => rfl
  | a :: V => by
    rw [insV]
    cases gtN a.1 x.1 with
    | true => rw [cond_true, zam, insV_len x V, zam]
    | false => rfl
theorem insR_len (x : PP) (l : List PP) : (insR x l).length = l.length + 1 := by
  unfold insR; rw [List.length_reverse, insV_len, List.length_reverse]
theorem insV_mem (x y : PP) : ∀ V : List PP, y ∈ insV x V → y = x ∨ y ∈ V
  | [], h => by left; simpa [insV] using h
  | a :: V, h => by
    rw [insV] at h
    cases hg : gtN a.1 x.1 with
    | true =>
      rw [hg, cond_true] at h
      rcases List.mem_cons.1 h with rfl | h
      · right; simp
      · rcases insV_mem x y V h with h | h
        · exact .inl h
        · right; simp [h]
    | false =>
      rw [hg, cond_false] at h
      rcases List.mem_cons.1 h with rfl | h
      · left; rfl
      · right; exact h
theorem insR_mem (x y : PP) (l : List PP) (h : y ∈ insR x l) : y = x ∨ y ∈ l := by
  unfold insR at h
  rcases insV_mem x y _ (List.mem_reverse.1 h) with h | h
  · exact .inl h
  · exact .inr (List.mem_reverse.1 h)
def akw (l : List PP) : List PP := l.foldl (fun out x => insR x out) []
theorem fold_len : ∀ (q p : List PP), (q.foldl (fun out x => insR x out) p).length = p.length + q.length
  | [], p => by simp
  | a :: q, p => by rw [List.foldl_cons, fold_len q, insR_len, zam]; omega
theorem fold_mem (y : PP) : ∀ (q p : List PP), y ∈ q.foldl (fun out x => insR x out) p → y ∈ p ∨ y ∈ q
  | [], p, h => .inl h
  | a :: q, p, h => by
    rw [List.foldl_cons] at h
    rcases fold_mem y q _ h with h | h
    · rcases insR_mem a y p h with h | h
      · right; simp [h]
      · exact .inl h
    · right; simp [h]
theorem isort_len (l : List PP) : (akw l).length = l.length := by unfold akw; rw [fold_len]; simp
theorem isort_mem (l : List PP) (y : PP) (h : y ∈ akw l) : y ∈ l := by
  rcases fold_mem y l [] h with h | h
  · simp at h
  · exact h
theorem rfSort_lp1 (l : List PP) (out : List PP) (i : Int) (x : PP) (hx : el l i = x) (hi : 0 ≤ i ∧ i < (l.length : Int)) (ho : out.length ≤ 4194304) (n : Nat) : ∀ fk, n ≤ out.length → n < fk →
    ∃ k : Nat, k ≤ n ∧ afj FU l out i fk (n : Int) = some (k : Int) ∧ (out.take n).take k ++ ([x] ++ (out.take n).drop k) = insR x (out.take n) := by
  induction n with
  | zero =>
    intro fk hn hf
    obtain ⟨fk, rfl⟩ := fkx fk
    exact ⟨0, Nat.le_refl _, by rw [afj, if_neg omg]; rfl, rfl⟩
  | succ n ih =>
    intro fk hn hf
    obtain ⟨fk, rfl⟩ := fkx fk
    have e : (((n + 1 : Nat) : Int) - 1) = (n : Int) := by omega
    have hlt : n < out.length := by omega
    have ht : out.take (n + 1) = out.take n ++ [el out (n : Int)] := take_snoc' out n hlt
    rw [afj, if_pos omg, e, aag (akt _ omg omg), aag omg, aag omg, aag hi, aag hi, hx, zab, ht, insR_snoc]
    have hg : (!(zay (el out (n : Int)).1 x.1 || (el out (n : Int)).1 == x.1)) = gtN (el out (n : Int)).1 x.1 := rfl
    rw [hg]
    have htl : (out.take n).length = n := by rw [zah]; omega
    cases h : gtN (el out (n : Int)).1 x.1 with
    | true =>
      obtain ⟨k, h1, h2, h3⟩ := ih fk omg omg
      refine ⟨k, by omega, by rw [cond_true, aag (akt _ omg omg), h2], ?_⟩
      rw [cond_true, ← h3, List.take_append_of_le_length omg, List.drop_append_of_le_length omg]
      simp
    | false =>
      refine ⟨n + 1, Nat.le_refl _, by rw [cond_false], ?_⟩
      rw [cond_false, List.take_of_length_le (by simp only [zan, zai]; omega), List.drop_eq_nil_of_le (by simp only [zan, zai]; omega)]
      simp
theorem rfSort_lp (l : List PP) (hl : l.length ≤ 4194304) (q : List PP) : ∀ (p : List PP) (fk : Nat) (out : List PP), l = p ++ q → q.length < fk → out.length = p.length →
    aet FU l fk out (p.length : Int) = some (q.foldl (fun out x => insR x out) out) := by
  induction q with
  | nil =>
    intro p fk out h hf ho
    obtain ⟨fk, rfl⟩ := fkx fk
    rw [List.append_nil] at h
    rw [aet, if_neg (by rw [h]; omega)]; rfl
  | cons a q ih =>
    intro p fk out h hf ho
    obtain ⟨fk, rfl⟩ := fkx fk
    have hlen := congrArg List.length h
    simp only [zan, zam] at hlen hf
    have hin : (0 : Int) ≤ (p.length : Int) ∧ (p.length : Int) < (l.length : Int) := by omega
    have he : el l (p.length : Int) = a := by rw [h]; simp [el]
    obtain ⟨k, h1, h2, h3⟩ := rfSort_lp1 l out (p.length : Int) a he hin omg out.length FU (Nat.le_refl _) (by rw [aks]; omega)
    rw [List.take_length] at h3
    have et : ((k : Nat) : Int).toNat = k := by omega
    have hil := insR_len a out
    rw [aet, if_pos hin.2, h2, zab, aag omg, et, aag (by simp only [zaw, zah]; omega), aag hin, aag hin, he]
    simp only [pp_eta, List.nil_append]
    rw [aag (by simp only [zah, zai]; omega), aag omg, aag (by simp only [zan, zah, List.length_drop, zai]; omega), zab, aag (akt _ omg omg), List.append_assoc, h3, List.foldl_cons]
    have := ih (p ++ [a]) fk (insR a out) (by rw [h]; simp) omg (by rw [hil, zan, zai]; omega)
    rw [show ((p ++ [a]).length : Int) = (p.length : Int) + 1 by simp] at this
    exact this
theorem rfSorted_eq (l : List PP) (hl : l.length ≤ 4194304) : ajx FU l = some (akw l) := by
  have := rfSort_lp l hl l [] FU [] (by simp) (by rw [aks]; omega) rfl
  have this' : aet FU l FU [] (0 : Int) = _ := this
  unfold ajx
  rw [this']; rfl
open Bool renaming not_true → zat
open List renaming length_append → zan, length_cons → zam, length_singleton → zai, set → zaf
def cmpV (a b : Str) : Int := bif zay a b then -1 else bif !(zay a b || a == b) then 1 else 0
theorem hs1_eq (fu : Nat) (x y : PP) : afb fu x y = some (cmpV x.1 y.1) := by
  unfold afb agb agz cmpV
  rw [zab, zab, decide_eq_true rfl, decide_eq_true rfl, zat, cond_false, cond_false]
  cases zay x.1 y.1 with
  | true => rfl
  | false =>
    rw [cond_false, cond_false]
    cases (!(false || x.1 == y.1)) <;> rfl
theorem cmp_lt (a b : Str) : decide (cmpV a b < 0) = zay a b := by
  unfold cmpV
  cases zay a b with
  | true => rfl
  | false =>
    rw [cond_false]
    cases (!(false || a == b)) <;> rfl
theorem coll_lp (x : List PP) (hx : x.length ≤ 4194304) (q : List PP) : ∀ (p : List PP) (fk : Nat), x = p ++ q → q.length < fk →
    aaf FU x fk (p.length : Int) p = some (x, 0) := by
  induction q with
  | nil =>
    intro p fk h hf
    obtain ⟨fk, rfl⟩ := fkx fk
    rw [List.append_nil] at h
    subst h
    rw [aaf, if_neg omg]
  | cons a q ih =>
    intro p fk h hf
    obtain ⟨fk, rfl⟩ := fkx fk
    have hlen := congrArg List.length h
    simp only [zan, zam] at hlen hf
    have hin : (0 : Int) ≤ (p.length : Int) ∧ (p.length : Int) < (x.length : Int) := by omega
    have he : el x (p.length : Int) = a := by rw [h]; simp [el]
    rw [aaf, if_pos hin.2, aag hin, aag hin, he]
    unfold acl
    simp only [pp_eta]
    rw [aag (by simp only [zai]; omega), zab, if_pos rfl, aag (akt _ omg omg)]
    have := ih (p ++ [a]) fk (by rw [h]; simp) omg
    rw [show ((p ++ [a]).length : Int) = (p.length : Int) + 1 by simp] at this
    exact this
theorem collect_eq (x : List PP) (hx : x.length ≤ 4194304) : acz FU x = some x := by
  have := coll_lp x hx x [] FU (by simp) (by rw [aks]; omega)
  unfold acz ads abg
  have this' : aaf FU x FU (0 : Int) [] = _ := this
  rw [this', zab, if_pos rfl]; rfl
theorem el_at (P S : List PP) (x : PP) : el (P ++ x :: S) (P.length : Int) = x := by simp [el]
theorem ins_lp1 (n : Nat) : ∀ (P S : List PP) (x : PP) (fk : Nat), P.length = n → n < fk → P.length + S.length ≤ 1048575 →
    aae FU 0 fk (P ++ x :: S) (P.length : Int) = some (insR x P ++ S) := by
  induction n with
  | zero =>
    intro P S x fk hP hf hl
    obtain ⟨fk, rfl⟩ := fkx fk
    obtain rfl : P = [] := List.eq_nil_of_length_eq_zero hP
    rw [aae, if_neg (by simp)]; rfl
  | succ n ih =>
    intro P S x fk hP hf hl
    obtain ⟨fk, rfl⟩ := fkx fk
    rcases List.eq_nil_or_concat P with rfl | ⟨P', a, rfl⟩
    · simp at hP
    · simp only [List.concat_eq_append] at *
      have hP' : P'.length = n := by simp at hP; omega
      have e1 : (((P' ++ [a]).length : Int) - 1) = (P'.length : Int) := by simp
      have hj : el (P' ++ [a] ++ x :: S) ((P' ++ [a]).length : Int) = x := el_at _ _ _
      have hj1 : el (P' ++ [a] ++ x :: S) (P'.length : Int) = a := by rw [List.append_assoc]; exact el_at P' (x :: S) a
      have hlen : (P' ++ [a] ++ x :: S).length = P'.length + 2 + S.length := by simp; omega
      have hin : (0 : Int) ≤ ((P' ++ [a]).length : Int) ∧ ((P' ++ [a]).length : Int) < ((P' ++ [a] ++ x :: S).length : Int) := by rw [hlen]; simp; omega
      have hin1 : (0 : Int) ≤ (P'.length : Int) ∧ (P'.length : Int) < ((P' ++ [a] ++ x :: S).length : Int) := by rw [hlen]; omega
      have hok : acw (P'.length : Int) := akt _ omg (by simp at hl; omega)
      have ht1 : ((P' ++ [a]).length : Int).toNat = P'.length + 1 := by simp
      have ht2 : ((P'.length : Nat) : Int).toNat = P'.length := by omega
      rw [aae, e1]
      simp only [hj, hj1, pp_eta, hs1_eq, zab, cmp_lt, aag hin, aag hin1, aag hok]
      rw [if_pos (by rw [zan, zai]; omega), zab, less_tri x.1 a.1, insR_snoc]
      have hg : (!(zay a.1 x.1 || a.1 == x.1)) = gtN a.1 x.1 := rfl
      rw [hg]
      cases gtN a.1 x.1 with
      | false => rw [cond_false, cond_false]; simp
      | true =>
        have hset : zaf (P' ++ [a] ++ x :: S) ((P' ++ [a]).length : Int).toNat a = P' ++ a :: a :: S := by
          rw [ht1, List.append_assoc, List.set_append_right _ _ omg]
          simp
        have hset2 : zaf (P' ++ a :: a :: S) ((P'.length : Nat) : Int).toNat x = P' ++ x :: a :: S := by
          rw [ht2, List.set_append_right _ _ omg]
          simp
        rw [cond_true, cond_true, hset, hset2, aag (by simp; omega), aag (by simp; omega), ih P' (a :: S) x fk hP' omg (by simp at hl ⊢; omega)]
        simp
theorem ins_lp0 (R : List PP) : ∀ (P : List PP) (fk : Nat) (n : Int), n = ((P ++ R).length : Int) → (P ++ R).length ≤ 1048575 → R.length < fk →
    aac FU 0 n fk (P ++ R) (P.length : Int) = some (R.foldl (fun out x => insR x out) P) := by
  induction R with
  | nil =>
    intro P fk n hn hl hf
    obtain ⟨fk, rfl⟩ := fkx fk
    rw [aac, if_neg (by rw [hn]; simp)]; simp
  | cons a R ih =>
    intro P fk n hn hl hf
    obtain ⟨fk, rfl⟩ := fkx fk
    simp only [zan, zam] at hl hf
    rw [aac, if_pos (by rw [hn]; simp; omega), ins_lp1 P.length P R a FU rfl (by rw [aks]; omega) omg, zab, aag (akt _ omg omg)]
    have hil := insR_len a P
    have := ih (insR a P) fk n (by rw [hn]; simp [hil]; omega) (by simp only [zan, hil]; omega) omg
    rw [hil] at this
    have e : ((P.length : Int) + 1) = ((P.length + 1 : Nat) : Int) := rfl
    rw [e, this]; rfl
theorem ins_eq (l : List PP) (hl : l.length ≤ 1048575) : aai FU l 0 (l.length : Int) = some (akw l) := by
  unfold aai
  rw [aag (akt _ omg omg)]
  cases l with
  | nil =>
    obtain ⟨m, hm⟩ : ∃ m, FU = m + 1 := ⟨FU - 1, by rw [aks]⟩
    rw [show (aac FU 0 (([] : List PP).length : Int) FU [] (0 + 1)) = aac FU 0 (([] : List PP).length : Int) (m + 1) [] (0 + 1) by rw [← hm]]
    rw [aac, if_neg (by simp)]; rfl
  | cons a l =>
    have := ins_lp0 l [a] FU ((a :: l).length : Int) rfl hl (by rw [aks]; simp at hl; omega)
    exact this
end Go.Wk
