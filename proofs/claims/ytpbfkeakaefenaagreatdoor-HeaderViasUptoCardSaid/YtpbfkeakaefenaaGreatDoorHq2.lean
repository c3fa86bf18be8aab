/-
  The law HeaderVias holds, second form: for every value and every Via of at most 1048576 values and letters the call returns true; no condition beyond the statement's own (part 2 of 8).
-/
import Derived.Test.YtpbfkeakaefenaaGreatDoorHq1
import Derived.Lib.SplitLaws
import Derived.Lib.Split
import GoSem.Core.Utf8
set_option linter.unusedSimpArgs false
set_option linter.unusedVariables false
namespace Go.Px
open Go.Wk
def spl (c : UInt8) : List UInt8 → List (List UInt8)
  | [] => [[]]
  | b :: l => if b = c then [] :: spl c l else match spl c l with | x :: r => (b :: x) :: r | [] => [[b]]
theorem spl_ne (c : UInt8) : ∀ l, spl c l ≠ []
  | [] => by simp [spl]
  | b :: l => by unfold spl; split; simp; split <;> simp
theorem splitK_spl (c : UInt8) : ∀ (s : List UInt8) (k : Nat), s.count c ≤ k → Lib.splitK [c] 0 k s = spl c s
  | [], k, _ => by cases k <;> simp [Lib.splitK, Lib.index, spl]
  | b :: l, k, h => by
    by_cases hb : b = c
    · subst hb
      obtain ⟨k, rfl⟩ : ∃ j, k = j + 1 := ⟨k - 1, by simp at h; omega⟩
      have ih := splitK_spl b l k (by simp at h; omega)
      simp [Lib.splitK, Lib.index, spl, ih]
    · have hc : (b :: l).count c = l.count c := by simp [List.count_cons, hb]
      rw [hc] at h
      have ih := splitK_spl c l k h
      unfold spl
      rw [if_neg hb, ← ih]
      cases k with
      | zero => simp [Lib.splitK]
      | succ k =>
        have hi : Lib.index (b :: l) [c] = if Lib.index l [c] == -1 then -1 else Lib.index l [c] + 1 := by
          conv => lhs; unfold Lib.index
          rw [if_neg (by simp; exact fun h => hb h.symm)]
        have hg := Lib.index_ge l [c]
        unfold Lib.splitK
        rw [hi]
        by_cases h1 : Lib.index l [c] = -1
        · simp [h1]
        · have h2 : ¬ (Lib.index l [c] + 1) = -1 := by omega
          have h3 : (Lib.index l [c] + 1).toNat = (Lib.index l [c]).toNat + 1 := by omega
          simp [h1, h2, h3]
theorem split_spl (s : List UInt8) (c : UInt8) : (Lib.splitB ⟨#[c]⟩ 0 (Lib.countB ⟨s.toArray⟩ ⟨#[c]⟩) ⟨s.toArray⟩).map Value.string = (spl c s).map str := by
  have h := Lib.splitB_data ⟨#[c]⟩ 0 (Lib.countB ⟨s.toArray⟩ ⟨#[c]⟩) ⟨s.toArray⟩
  have e : Lib.splitK [c] 0 (Lib.countB ⟨s.toArray⟩ ⟨#[c]⟩) s = spl c s := splitK_spl c s _ (Nat.le_of_eq (Lib.count_one c s).symm)
  have h' : (Lib.splitB ⟨#[c]⟩ 0 (Lib.countB ⟨s.toArray⟩ ⟨#[c]⟩) ⟨s.toArray⟩).map (·.data.toList) = spl c s := h.trans e
  rw [← h', List.map_map]
  refine List.map_congr_left fun x _ => ?_
  rfl
theorem split_spl_len (s : List UInt8) (c : UInt8) : Lib.countB ⟨s.toArray⟩ ⟨#[c]⟩ + 1 = (spl c s).length := by
  have : ∀ s : List UInt8, s.count c + 1 = (spl c s).length := by
    intro s
    induction s with
    | nil => rfl
    | cons b l ih =>
      unfold spl
      by_cases hb : b = c
      · subst hb; simp; omega
      · rw [if_neg hb]
        have hc : (b :: l).count c = l.count c := by simp [List.count_cons, hb]
        rw [hc, ih]
        split
        · rename_i h; rw [h]; simp
        · rename_i h; exact absurd h (spl_ne c l)
  show Lib.count s [c] + 1 = _
  rw [Lib.count_one, this]
theorem arh (c : UInt8) : ∀ s : List UInt8, (spl c s).length ≤ s.length + 1 ∧ ∀ x ∈ spl c s, x.length ≤ s.length
  | [] => by simp [spl]
  | b :: l => by
    have ih := arh c l
    unfold spl
    split
    · simp; exact ⟨ih.1, fun x hx => by have := ih.2 x hx; omega⟩
    · split
      · rename_i x r h
        rw [h] at ih
        simp at ih ⊢
        exact ⟨by omega, by omega, fun a ha => by have := ih.2.2 a ha; omega⟩
      · simp
theorem row_strs {w : World} (a : Addr) (xs : List (List UInt8)) (h : Rd w (some a) (xs.map str)) : ∀ (j : Nat) x, (xs.map fun l => (⟨l.toArray⟩ : ByteArray))[j]? = some x → w.cell? (a.add j) = some (.string x) := by
  intro j x hx
  simp only [List.getElem?_map, Option.map_eq_some_iff] at hx
  obtain ⟨l, hl, rfl⟩ := hx
  obtain ⟨p, e, hc⟩ := h j (str l) (by simp [hl])
  cases e
  exact hc
theorem rd_spot {w : World} {p : Addr} {v : Value} (h : w.cell? p = some v) : p.spot = none := by
  unfold World.cell? at h
  split at h
  · by_cases hs : p.spot.isSome = true
    · simp [hs] at h
    · simpa using hs
  · simp at h
theorem join_len (sep : List UInt8) (m : Nat) : ∀ xs : List (List UInt8), (∀ x ∈ xs, x.length ≤ m) → (Lib.join xs sep).length ≤ xs.length * (m + sep.length)
  | [], _ => by simp [Lib.join_nil]
  | x :: r, h => by
    rw [Lib.join_cons]
    have hr : (Lib.joinTail sep r).length ≤ r.length * (m + sep.length) := by
      have hr' : ∀ y ∈ r, y.length ≤ m := fun y hy => h y (List.mem_cons_of_mem _ hy)
      clear h
      induction r with
      | nil => simp [Lib.joinTail]
      | cons y r ih =>
        have := ih (fun z hz => hr' z (List.mem_cons_of_mem _ hz))
        have hy := hr' y (by simp)
        simp only [Lib.joinTail, List.map_cons, List.flatten_cons, List.length_append, List.length_cons, Nat.add_mul, Nat.one_mul] at *
        omega
    have hx := h x (by simp)
    rw [List.length_append, List.length_cons, Nat.add_mul, Nat.one_mul]
    omega
def anb (g : List UInt8) : Bool := decide (1 ≤ g.length) && decide (g.length ≤ 4) && g.all hexB
def grpN (g : List UInt8) : List UInt8 := if Lib.trimLeftS (lowP g) [48] = [] then [48] else Lib.trimLeftS (lowP g) [48]
theorem grpN_len (g : List UInt8) (h : anb g = true) : (grpN g).length ≤ 4 := by
  unfold anb at h
  simp only [Bool.and_eq_true, decide_eq_true_eq] at h
  unfold grpN
  split
  · simp
  · have := trimLeftS_len (lowP g) [48]; simp at this; omega
def aiu (s : List UInt8) : List (List UInt8) × Bool := if (spl 58 s).all anb then ((spl 58 s).map grpN, true) else ([], false)
theorem grpList_bd (s : List UInt8) : (aiu s).1.length ≤ s.length + 1 ∧ ∀ x ∈ (aiu s).1, x.length ≤ 4 := by
  have h := arh 58 s
  unfold aiu
  split
  · rename_i ha
    refine ⟨by simp; exact h.1, fun x hx => ?_⟩
    simp at hx
    obtain ⟨y, hy, rfl⟩ := hx
    exact grpN_len y (List.all_eq_true.1 ha y hy)
  · simp
theorem el_app {α : Type} [Inhabited α] (a b : List α) (k : Nat) (h : a.length = k) : el (a ++ b) (k : Int) = el b 0 := by
  subst h; simp only [el, Int.toNat_natCast, List.getD_eq_getElem?_getD]; rw [List.getElem?_append_right (Nat.le_refl _)]; simp
theorem el_drop0 {α : Type} [Inhabited α] (l : List α) (k : Nat) : el (l.drop k) 0 = el l (k : Int) := by simp [el]
def aqh (X : List (List UInt8)) (k : Nat) : List (List UInt8) := List.map grpN (List.take k X) ++ List.drop k X
theorem grpMix_len (X : List (List UInt8)) (k : Nat) (h : k ≤ X.length) : (aqh X k).length = X.length := by simp [aqh]; omega
theorem grpMix_zero (X : List (List UInt8)) : aqh X 0 = X := by simp [aqh]
theorem grpMix_all (X : List (List UInt8)) : aqh X X.length = X.map grpN := by simp [aqh]
theorem grp_step (X : List (List UInt8)) (k : Nat) (v : List UInt8) (h : k < X.length) (hv : v = grpN (el X (k : Int))) :
    aqh X (k + 1) = List.set (aqh X k) (k : Int).toNat v := by
  unfold aqh
  have hl : (List.map grpN (List.take k X)).length = k := by simp; omega
  rw [Int.toNat_natCast, List.set_append_right _ _ (by omega), hl, Nat.sub_self, take_snoc' X k h, hv]
  rw [List.drop_eq_getElem_cons h]
  simp only [List.map_append, List.map_cons, List.map_nil, List.append_assoc, List.cons_append, List.nil_append, List.set_cons_zero]
theorem grp_el (X : List (List UInt8)) (k : Nat) (h : k < X.length) : el (aqh X k) (k : Int) = el X (k : Int) := by
  unfold aqh
  rw [el_app _ _ k (by simp; omega), el_drop0]
theorem grpN_zero (g : List UInt8) (h : Lib.trimLeftS (g.map akq) [48] = []) : [48] = grpN g := by unfold grpN; rw [if_pos h]
theorem grpN_else (g : List UInt8) (h : ¬ Lib.trimLeftS (g.map akq) [48] = []) : Lib.trimLeftS (g.map akq) [48] = grpN g := by unfold grpN; rw [if_neg h]
theorem grpOk_no1 (g : List UInt8) (h : (g.length : Int) < 1 ∨ 4 < (g.length : Int)) : anb g = false := by
  unfold anb
  rcases h with h | h
  · rw [show decide (1 ≤ g.length) = false by (rw [decide_eq_false_iff_not]; omega)]; rfl
  · rw [show decide (g.length ≤ 4) = false by (rw [decide_eq_false_iff_not]; omega)]; simp
theorem grpOk_no2 (g : List UInt8) (h : g.all hexB = false) : anb g = false := by unfold anb; rw [h]; simp
theorem grpOk_yes (g : List UInt8) (h1 : ¬ (g.length : Int) < 1) (h2 : ¬ 4 < (g.length : Int)) (h : g.all hexB = true) : anb g = true := by
  unfold anb; rw [h, show decide (1 ≤ g.length) = true by (rw [decide_eq_true_eq]; omega), show decide (g.length ≤ 4) = true by (rw [decide_eq_true_eq]; omega)]; rfl
theorem all_take_snoc' {α : Type} [Inhabited α] (p : α → Bool) (s : List α) (k : Nat) (h : k < s.length) (ha : (s.take k).all p = true) (hc : p (el s (k : Int)) = true) : (s.take (k + 1)).all p = true := by
  rw [take_snoc' s k h, List.all_append, ha]; simpa using hc
theorem all_false_at' {α : Type} [Inhabited α] (p : α → Bool) (s : List α) (k : Nat) (h : k < s.length) (hc : p (el s (k : Int)) = false) : s.all p = false := by
  rw [Bool.eq_false_iff]; intro ha
  have := List.all_eq_true.1 ha (el s (k : Int)) (by simp [el, h])
  rw [this] at hc; cases hc
theorem grpList_no (s : List UInt8) (h : (spl 58 s).all anb = false) : aiu s = ([], false) := by unfold aiu; rw [h]; rfl
theorem grpList_yes (s : List UInt8) (h : (spl 58 s).all anb = true) : aiu s = ((spl 58 s).map grpN, true) := by unfold aiu; rw [h]; rfl
theorem join_grp (s : List UInt8) (h : s.length ≤ 1000000000) : (Lib.join (aiu s).1 [58]).length ≤ 100000000000 := by
  have h1 := grpList_bd s
  have h2 := join_len [58] 4 (aiu s).1 h1.2
  simp at h2; omega
def aji (x : List UInt8) : List (List UInt8) × Bool := if x = [] then ([], true) else aiu x
theorem grpL0_nil (x : List UInt8) (h : x = []) : aji x = ([], true) := by unfold aji; rw [if_pos h]
theorem aqz (x : List UInt8) (h : ¬ x = []) : aji x = aiu x := by unfold aji; rw [if_neg h]
def grpsP (s : List UInt8) : List UInt8 × Bool :=
  if 39 < s.length then ([], false)
  else if (Lib.cut s [58, 58]).2.2 = false then (Lib.join (aiu s).1 [58], (aiu s).2 && decide (((aiu s).1.length : Int) = 8))
  else if (!(aji (Lib.cut s [58, 58]).1).2 || !(aji (Lib.cut s [58, 58]).2.1).2 || decide (7 < ((aji (Lib.cut s [58, 58]).1).1.length : Int) + ((aji (Lib.cut s [58, 58]).2.1).1.length : Int))) = true then ([], false)
  else (Lib.join (aji (Lib.cut s [58, 58]).1).1 [58] ++ [58, 58] ++ Lib.join (aji (Lib.cut s [58, 58]).2.1).1 [58], true)
def octOk (n : List UInt8) : Bool := n.all adz && !(n == []) && decide (agd n ≤ 255) && (n == Lib.itoa (agd n : Int))
def aqy (s : List UInt8) : Bool := decide (s.length ≤ 15) && (spl 46 s).all octOk && decide ((spl 46 s).length = 4)
theorem octOk_no1 (n : List UInt8) (h : n.all adz = false) : octOk n = false := by unfold octOk; rw [h]; rfl
theorem octOk_no2 (n : List UInt8) (h : (n = [] ∨ 255 < (agd n : Int)) ∨ ¬ n = Lib.itoa (agd n : Int)) : octOk n = false := by
  unfold octOk
  rcases h with (h | h) | h
  · subst h; rfl
  · rw [show decide (agd n ≤ 255) = false by (rw [decide_eq_false_iff_not]; omega)]; simp
  · rw [show (n == Lib.itoa (agd n : Int)) = false by simpa using h]; simp
theorem octOk_yes (n : List UInt8) (h : n.all adz = true) (h1 : ¬ n = []) (h2 : ¬ 255 < (agd n : Int)) (h3 : n = Lib.itoa (agd n : Int)) : octOk n = true := by
  unfold octOk
  rw [h, show decide (agd n ≤ 255) = true by (rw [decide_eq_true_eq]; omega), show (n == Lib.itoa (agd n : Int)) = true by rw [beq_iff_eq]; exact h3, show (n == []) = false by simpa using h1]; rfl
theorem numsP_long (s : List UInt8) (h : 15 < (s.length : Int)) : aqy s = false := by
  unfold aqy; rw [show decide (s.length ≤ 15) = false by (rw [decide_eq_false_iff_not]; omega)]; rfl
theorem numsP_no (s : List UInt8) (h : (spl 46 s).all octOk = false) : aqy s = false := by unfold aqy; rw [h]; simp
theorem numsP_fin (s : List UInt8) (h0 : ¬ 15 < (s.length : Int)) (h : (spl 46 s).all octOk = true) : aqy s = decide (((spl 46 s).length : Int) = 4) := by
  unfold aqy; rw [h, show decide (s.length ≤ 15) = true by (rw [decide_eq_true_eq]; omega)]
  rw [Bool.eq_iff_iff]; simp; omega
theorem el_mem' {α : Type} [Inhabited α] (l : List α) (k : Nat) (h : k < l.length) : el l (k : Int) ∈ l := by rw [el_nat l k h]; exact List.getElem_mem h
end Go.Px
namespace Go.Wk
open Go.Px
open Go.Value renaming slice → Vs, int → Vi, bool → Vb, pointer → Vp
def aps (x : (Str × Int)) : List Value := [(str x.1), (Vi .i64 x.2)]
theorem enc_enamekind : Enc aps 2 := ⟨fun _ => rfl, fun x v h => by
  simp only [aps, List.mem_cons, List.not_mem_nil, or_false] at h
  rcases h with h | h <;> subst h <;> rfl⟩
def aaa (x : PQ) : List Value := [(str x.1), (str x.2.1), (Vb x.2.2)]
theorem aab : Enc aaa 3 := ⟨fun _ => rfl, fun x v h => by
  simp only [aaa, List.mem_cons, List.not_mem_nil, or_false] at h
  rcases h with h | h | h <;> subst h <;> rfl⟩
def anz (x : (Int × Str)) : List Value := [(Vi .i64 x.1), (str x.2)]
theorem arl : Enc anz 2 := ⟨fun _ => rfl, fun x v h => by
  simp only [anz, List.mem_cons, List.not_mem_nil, or_false] at h
  rcases h with h | h <;> subst h <;> rfl⟩
def akg : List Str := [[67, 97, 108, 108, 45, 73, 68], [67, 83, 101, 113], [77, 73, 77, 69, 45, 86, 101, 114, 115, 105, 111, 110], [77, 105, 110, 45, 83, 69], [82, 65, 99, 107], [82, 83, 101, 113], [87, 87, 87, 45, 65, 117, 116, 104, 101, 110, 116, 105, 99, 97, 116, 101]]
def anc : List (Str × Int) := [([70, 114, 111, 109], 1), ([84, 111], 1), ([67, 111, 110, 116, 97, 99, 116], 1), ([82, 111, 117, 116, 101], 1), ([82, 101, 99, 111, 114, 100, 45, 82, 111, 117, 116, 101], 1), ([80, 97, 116, 104], 1), ([83, 101, 114, 118, 105, 99, 101, 45, 82, 111, 117, 116, 101], 1), ([82, 101, 102, 101, 114, 45, 84, 111], 1), ([82, 101, 102, 101, 114, 114, 101, 100, 45, 66, 121], 1), ([82, 101, 112, 108, 121, 45, 84, 111], 1), ([86, 105, 97], 2), ([67, 83, 101, 113], 3), ([82, 65, 99, 107], 4), ([67, 111, 110, 116, 101, 110, 116, 45, 76, 101, 110, 103, 116, 104], 5), ([69, 120, 112, 105, 114, 101, 115], 5), ([77, 97, 120, 45, 70, 111, 114, 119, 97, 114, 100, 115], 5), ([77, 105, 110, 45, 69, 120, 112, 105, 114, 101, 115], 5), ([82, 83, 101, 113], 5), ([67, 111, 110, 116, 101, 110, 116, 45, 68, 105, 115, 112, 111, 115, 105, 116, 105, 111, 110], 6), ([67, 111, 110, 116, 101, 110, 116, 45, 84, 121, 112, 101], 6), ([69, 118, 101, 110, 116], 6), ([77, 105, 110, 45, 83, 69], 6), ([83, 101, 115, 115, 105, 111, 110, 45, 69, 120, 112, 105, 114, 101, 115], 6), ([83, 117, 98, 115, 99, 114, 105, 112, 116, 105, 111, 110, 45, 83, 116, 97, 116, 101], 6), ([65, 99, 99, 101, 112, 116], 7), ([65, 108, 108, 111, 119], 7), ([65, 108, 108, 111, 119, 45, 69, 118, 101, 110, 116, 115], 7), ([80, 114, 111, 120, 121, 45, 82, 101, 113, 117, 105, 114, 101], 7), ([82, 101, 113, 117, 105, 114, 101], 7), ([83, 117, 112, 112, 111, 114, 116, 101, 100], 7), ([85, 110, 115, 117, 112, 112, 111, 114, 116, 101, 100], 7)]
def gl_classes : List Str := [[38, 61, 43, 36, 44, 59, 63, 47], [91, 93, 47, 58, 38, 43, 36], [91, 93, 47, 63, 58, 43, 36]]
end Go.Wk
set_option maxRecDepth 20000
set_option maxHeartbeats 1000000
namespace Go.Wk
open Go.Px
open Int renaming toNat → zac
open List renaming drop → zam
open Sum renaming elim → zay
def agf (fu : Nat) (a0 : Int) : Option Bool :=
  (((if (0 : Int) ≤ a0 then some (decide (a0 < (55296 : Int))) else some false)).bind fun (v5 : Bool) => (bif v5 then some true else (((if (57343 : Int) < a0 then some (decide (a0 ≤ (1114111 : Int))) else some false)).bind fun (a1 : Bool) => (bif a1 then some true else some false))))
def ael (fu : Nat) (s_0 : Str) : Nat → Nat → Option (Unit ⊕ Int)
  | 0, _ => none
  | a1 + 1, a0 => (if a0 < s_0.length then (if ((Utf8.decode ⟨List.toArray s_0⟩ a0).1 : Int) = (65533 : Int) then some (.inr (a0 : Int)) else (ael fu s_0 a1 (a0 + (Utf8.decode ⟨List.toArray s_0⟩ a0).2))) else some (.inl ()))
def aic (fu : Nat) (s_0 : Str) (a1 : Int) (a2 : Int) : Nat → Int → Option Int
  | 0, _ => none
  | a3 + 1, a0 => (if a0 < (((Utf8.encode a1).data.toList).length : Int) then (gd (abx (a2 - a0)) <| (gd (0 ≤ (a2 - a0) ∧ (a2 - a0) < (s_0.length : Int)) <| (gd (abx (((((Utf8.encode a1).data.toList).length : Int) - (1 : Int)) - a0)) <| (gd (0 ≤ (((((Utf8.encode a1).data.toList).length : Int) - (1 : Int)) - a0) ∧ (((((Utf8.encode a1).data.toList).length : Int) - (1 : Int)) - a0) < (((Utf8.encode a1).data.toList).length : Int)) <| (if (at_ s_0 (a2 - a0)) = (at_ ((Utf8.encode a1).data.toList) (((((Utf8.encode a1).data.toList).length : Int) - (1 : Int)) - a0)) then (gd (abx (a0 + (1 : Int))) <| (aic fu s_0 a1 a2 a3 (a0 + (1 : Int)))) else none))))) else (gd (abx (a2 - ((((Utf8.encode a1).data.toList).length : Int) - (1 : Int)))) <| some (a2 - ((((Utf8.encode a1).data.toList).length : Int) - (1 : Int)))))
def agt (fu : Nat) (s_0 : Str) (a0 : Int) : Nat → Option Int
  | 0 => none
  | a3 + 1 => (if ((((Utf8.encode a0).data.toList).length : Int) - (1 : Int)) < (s_0.length : Int) then (((gd (0 ≤ ((((Utf8.encode a0).data.toList).length : Int) - (1 : Int)) ∧ ((((Utf8.encode a0).data.toList).length : Int) - (1 : Int)) < (s_0.length : Int)) <| (gd (0 ≤ ((((Utf8.encode a0).data.toList).length : Int) - (1 : Int)) ∧ ((((Utf8.encode a0).data.toList).length : Int) - (1 : Int)) < (((Utf8.encode a0).data.toList).length : Int)) <| (if (at_ s_0 ((((Utf8.encode a0).data.toList).length : Int) - (1 : Int))) = (at_ ((Utf8.encode a0).data.toList) ((((Utf8.encode a0).data.toList).length : Int) - (1 : Int))) then some (.inl ((((Utf8.encode a0).data.toList).length : Int) - (1 : Int))) else (gd (abx (((((Utf8.encode a0).data.toList).length : Int) - (1 : Int)) + (1 : Int))) <| (gd (0 ≤ (((((Utf8.encode a0).data.toList).length : Int) - (1 : Int)) + (1 : Int)) ∧ (((((Utf8.encode a0).data.toList).length : Int) - (1 : Int)) + (1 : Int)) ≤ (s_0.length : Int)) <| (gd (0 ≤ ((((Utf8.encode a0).data.toList).length : Int) - (1 : Int)) ∧ ((((Utf8.encode a0).data.toList).length : Int) - (1 : Int)) < (((Utf8.encode a0).data.toList).length : Int)) <| (if (ixb (· == (at_ ((Utf8.encode a0).data.toList) ((((Utf8.encode a0).data.toList).length : Int) - (1 : Int)))) (zam (zac (((((Utf8.encode a0).data.toList).length : Int) - (1 : Int)) + (1 : Int))) s_0)) < (0 : Int) then some (.inr (-1 : Int)) else (gd (abx ((ixb (· == (at_ ((Utf8.encode a0).data.toList) ((((Utf8.encode a0).data.toList).length : Int) - (1 : Int)))) (zam (zac (((((Utf8.encode a0).data.toList).length : Int) - (1 : Int)) + (1 : Int))) s_0)) + (1 : Int))) <| (gd (abx (((((Utf8.encode a0).data.toList).length : Int) - (1 : Int)) + ((ixb (· == (at_ ((Utf8.encode a0).data.toList) ((((Utf8.encode a0).data.toList).length : Int) - (1 : Int)))) (zam (zac (((((Utf8.encode a0).data.toList).length : Int) - (1 : Int)) + (1 : Int))) s_0)) + (1 : Int)))) <| some (.inl (((((Utf8.encode a0).data.toList).length : Int) - (1 : Int)) + ((ixb (· == (at_ ((Utf8.encode a0).data.toList) ((((Utf8.encode a0).data.toList).length : Int) - (1 : Int)))) (zam (zac (((((Utf8.encode a0).data.toList).length : Int) - (1 : Int)) + (1 : Int))) s_0)) + (1 : Int)))))))))))))).bind fun (a1 : (Int ⊕ Int)) => zay (fun (a2 : Int) => (aic fu s_0 a0 a2 fu (1 : Int))) (fun q => some q) a1) else some (-1 : Int))
def afg (fu : Nat) (s_0 : Str) (a0 : Int) : Option Int :=
  (((if (0 : Int) ≤ a0 then some (decide (a0 < (128 : Int))) else some false)).bind fun (v5 : Bool) => (bif v5 then some (ixb (· == (u8i a0)) s_0) else (if a0 = (65533 : Int) then (((ael fu s_0 fu 0)).bind fun (a1 : (Unit ⊕ Int)) => zay (fun (a3 : Unit) => some (-1 : Int)) (fun q => some q) a1) else ((agf fu a0).bind fun (a2 : Bool) => (bif (!a2) then some (-1 : Int) else (gd (abx ((((Utf8.encode a0).data.toList).length : Int) - (1 : Int))) <| (agt fu s_0 a0 fu)))))))
def ags (fu : Nat) (a0 : Int) : Option Bool :=
  some (decide ((8 : Int) < a0))
def aeb (fu : Nat) (s_0 : Str) (a1 : Str) : Nat → Nat → Option (Unit ⊕ Int)
  | 0, _ => none
  | a2 + 1, a0 => (if a0 < s_0.length then ((afg fu a1 ((Utf8.decode ⟨List.toArray s_0⟩ a0).1 : Int)).bind fun (a3 : Int) => (if (0 : Int) ≤ a3 then some (.inr (a0 : Int)) else (aeb fu s_0 a1 a2 (a0 + (Utf8.decode ⟨List.toArray s_0⟩ a0).2)))) else some (.inl ()))
def alf (fu : Nat) (s_0 : Str) (a0 : Str) : Option Int :=
  (if a0 = ([] : Str) then some (-1 : Int) else (if (a0.length : Int) = (1 : Int) then (gd (0 ≤ (0 : Int) ∧ (0 : Int) < (a0.length : Int)) <| (((if (128 : Int) ≤ ((at_ a0 (0 : Int)).toNat : Int) then some (65533 : Int) else some ((at_ a0 (0 : Int)).toNat : Int))).bind fun (v8 : Int) => ((afg fu s_0 v8).bind fun (a1 : Int) => some a1))) else ((((ags fu (s_0.length : Int)).bind fun (a2 : Bool) => (bif a2 then none else some ()))).bind fun (a4 : Unit) => (((aeb fu s_0 a0 fu 0)).bind fun (a3 : (Unit ⊕ Int)) => zay (fun (a5 : Unit) => some (-1 : Int)) (fun q => some q) a3))))
end Go.Wk
namespace Go.Px
open Go.Wk
theorem get_at (l : List UInt8) (k : Nat) (h : k < l.length) : (⟨l.toArray⟩ : ByteArray).get! k = at_ l (k : Int) := by
  show l.toArray[k]! = _
  simp [at_, h]
theorem dec_ascii (l : List UInt8) (k : Nat) (h : k < l.length) (h1 : (at_ l (k : Int)).toNat < 128) : Utf8.decode ⟨l.toArray⟩ k = ((at_ l (k : Int)).toNat, 1) := by
  unfold Utf8.decode
  simp only [Nat.add_zero, get_at l k h]
  rw [if_pos (by omega)]
theorem dec_high (l : List UInt8) (k : Nat) (h : k < l.length) (h1 : ¬ (at_ l (k : Int)).toNat < 128) :
    128 ≤ (Utf8.decode ⟨l.toArray⟩ k).1 ∧ 1 ≤ (Utf8.decode ⟨l.toArray⟩ k).2 ∧ k + (Utf8.decode ⟨l.toArray⟩ k).2 ≤ l.length ∧
    ∀ j : Nat, k ≤ j → j < k + (Utf8.decode ⟨l.toArray⟩ k).2 → 128 ≤ (at_ l (j : Int)).toNat := by
  have hsz : (⟨l.toArray⟩ : ByteArray).size = l.length := rfl
  have hone : ∀ c : Nat, 128 ≤ c → 128 ≤ ((c, 1) : Nat × Nat).1 ∧ 1 ≤ ((c, 1) : Nat × Nat).2 ∧ k + ((c, 1) : Nat × Nat).2 ≤ l.length ∧ ∀ j : Nat, k ≤ j → j < k + ((c, 1) : Nat × Nat).2 → 128 ≤ (at_ l (j : Int)).toNat :=
    fun c hc => ⟨hc, Nat.le_refl _, by simp; omega, fun j h2 h3 => by
      have : j = k := by simp at h3; omega
      subst this; omega⟩
  have cont : ∀ i : Nat, (decide (k + i < l.length) && ((⟨l.toArray⟩ : ByteArray).get! (k + i)).toNat / 64 == 2) = true → k + i < l.length ∧ 128 ≤ (at_ l ((k + i : Nat) : Int)).toNat := by
    intro i hi
    simp only [Bool.and_eq_true, decide_eq_true_eq, beq_iff_eq] at hi
    rw [get_at l (k + i) hi.1] at hi
    omega
  have hre : 128 ≤ Utf8.runeError := by decide
  have hk0 : 128 ≤ (at_ l (k : Int)).toNat := by omega
  unfold Utf8.decode
  simp only [Nat.add_zero, get_at l k h, hsz]
  rw [if_neg (by omega)]
  split
  · rename_i h2
    simp only [Bool.and_eq_true] at h2
    have c1 := cont 1 (by simpa using h2.2)
    split
    · rename_i h3
      refine ⟨by simpa using h3, by simp, by simp; omega, fun j h4 h5 => ?_⟩
      have : j = k ∨ j = k + 1 := by simp at h5; omega
      rcases this with rfl | rfl
      · exact hk0
      · exact c1.2
    · exact hone _ hre
  split
  · rename_i h2
    simp only [Bool.and_eq_true] at h2
    have c1 := cont 1 (by simpa using h2.1.2)
    have c2 := cont 2 (by simpa using h2.2)
    split
    · rename_i h3
      simp only [Bool.and_eq_true, decide_eq_true_eq] at h3
      refine ⟨by have := h3.1; simp only [ge_iff_le] at this ⊢; omega, by simp, by simp; omega, fun j h4 h5 => ?_⟩
      have : j = k ∨ j = k + 1 ∨ j = k + 2 := by simp at h5; omega
      rcases this with rfl | rfl | rfl
      · exact hk0
      · exact c1.2
      · exact c2.2
    · exact hone _ hre
  split
  · rename_i h2
    simp only [Bool.and_eq_true] at h2
    have c1 := cont 1 (by simpa using h2.1.1.2)
    have c2 := cont 2 (by simpa using h2.1.2)
    have c3 := cont 3 (by simpa using h2.2)
    split
    · rename_i h3
      simp only [Bool.and_eq_true, decide_eq_true_eq] at h3
      refine ⟨by have := h3.1; simp only [ge_iff_le] at this ⊢; omega, by simp, by simp; omega, fun j h4 h5 => ?_⟩
      have : j = k ∨ j = k + 1 ∨ j = k + 2 ∨ j = k + 3 := by simp at h5; omega
      rcases this with rfl | rfl | rfl | rfl
      · exact hk0
      · exact c1.2
      · exact c2.2
      · exact c3.2
    · exact hone _ hre
  · exact hone _ hre
def encL (r : Int) : List UInt8 := (Utf8.encode r).data.toList
theorem encL_high (r : Int) (h : 128 ≤ r) : 2 ≤ (encL r).length ∧ (encL r).length ≤ 4 ∧ 128 ≤ (at_ (encL r) ((encL r).length - 1 : Int)).toNat := by
  have hv : ∀ n : Nat, 128 ≤ (UInt8.ofNat (128 + n % 64)).toNat := by
    intro n
    rw [UInt8.toNat_ofNat']
    omega
  unfold encL Utf8.encode
  have hc : 128 ≤ (if Utf8.valid r = true then r.toNat else Utf8.runeError) := by
    split
    · omega
    · decide
  generalize (if Utf8.valid r = true then r.toNat else Utf8.runeError) = c at hc
  simp only
  rw [if_neg (by omega)]
  split
  · exact ⟨by simp, by simp, hv c⟩
  split
  · exact ⟨by simp, by simp, hv c⟩
  · exact ⟨by simp, by simp, hv c⟩
end Go.Px
namespace Go.Wk
open Go.Px
open Int renaming toNat → zac
open List renaming set → zal
open Sum renaming elim → zay
def ajb (fu : Nat) (a0 : UInt8) : Option Bool :=
  (((((if (97 : UInt8) ≤ a0 then some (decide (a0 ≤ (122 : UInt8))) else some false)).bind fun (a1 : Bool) => (bif a1 then (bif a1 then some (.inr true) else some (.inl ())) else (((if (65 : UInt8) ≤ a0 then some (decide (a0 ≤ (90 : UInt8))) else some false)).bind fun (a2 : Bool) => (bif a2 then (bif a2 then some (.inr true) else some (.inl ())) else (if (48 : UInt8) ≤ a0 then (if a0 ≤ (57 : UInt8) then some (.inr true) else some (.inl ())) else some (.inl ()))))))).bind fun (a3 : (Unit ⊕ Bool)) => zay (fun (a4 : Unit) => (if a0 = (45 : UInt8) then (if a0 = (45 : UInt8) then some true else some false) else (if a0 = (46 : UInt8) then (if a0 = (46 : UInt8) then some true else some false) else (if a0 = (33 : UInt8) then (if a0 = (33 : UInt8) then some true else some false) else (if a0 = (37 : UInt8) then (if a0 = (37 : UInt8) then some true else some false) else (if a0 = (42 : UInt8) then (if a0 = (42 : UInt8) then some true else some false) else (if a0 = (95 : UInt8) then (if a0 = (95 : UInt8) then some true else some false) else (if a0 = (43 : UInt8) then (if a0 = (43 : UInt8) then some true else some false) else (if a0 = (39 : UInt8) then (if a0 = (39 : UInt8) then some true else some false) else (if a0 = (126 : UInt8) then (if a0 = (126 : UInt8) then some true else some false) else (if a0 = (96 : UInt8) then some true else some false))))))))))) (fun q => some q) a3)
def acs (fu : Nat) (s_0 : Str) : Nat → Int → Option Int
  | 0, _ => none
  | a1 + 1, a0 => (((if a0 < (s_0.length : Int) then (gd (0 ≤ a0 ∧ a0 < (s_0.length : Int)) <| ((ajb fu (at_ s_0 a0)).bind fun (a2 : Bool) => some a2)) else some false)).bind fun (a3 : Bool) => (bif a3 then (gd (abx (a0 + (1 : Int))) <| (acs fu s_0 a1 (a0 + (1 : Int)))) else some a0))
def aep (fu : Nat) (s_0 : Str) (a0 : Int) : Option Int :=
  (((acs fu s_0 fu (min (max a0 (0 : Int)) (s_0.length : Int)))).bind fun (a1 : Int) => some a1)
def ahg (fu : Nat) (s_0 : Str) (a0 : Int) : Option Int :=
  ((aep fu s_0 a0).bind fun (y1 : Int) => some y1)
def aie (fu : Nat) (s_0 : Str) : Option Bool :=
  (((if s_0 = ([] : Str) then some false else ((ahg fu s_0 (0 : Int)).bind fun (a0 : Int) => some (decide (a0 = (s_0.length : Int)))))).bind fun (a1 : Bool) => some a1)
def alh (fu : Nat) (a0 : UInt8) : Option UInt8 :=
  (((if (65 : UInt8) ≤ a0 then some (decide (a0 ≤ (90 : UInt8))) else some false)).bind fun (v5 : Bool) => (bif v5 then some (a0 + (32 : UInt8)) else some a0))
def aod (fu : Nat) (a0 : UInt8) : Option Str :=
  (if a0 = (98 : UInt8) then none else (if a0 = (99 : UInt8) then none else (if a0 = (101 : UInt8) then none else (if a0 = (102 : UInt8) then none else (if a0 = (105 : UInt8) then none else (if a0 = (107 : UInt8) then none else (if a0 = (108 : UInt8) then none else (if a0 = (109 : UInt8) then some ([67, 111, 110, 116, 97, 99, 116] : Str) else none))))))))
def ady (fu : Nat) (s_0 : Str) : Nat → Str → Int → Option Str
  | 0, _, _ => none
  | a2 + 1, a1, a0 => (if a0 < (s_0.length : Int) then (gd (0 ≤ a0 ∧ a0 < (a1.length : Int)) <| (gd (0 ≤ a0 ∧ a0 < (a1.length : Int)) <| ((alh fu (at_ a1 a0)).bind fun (a3 : UInt8) => (gd (0 ≤ a0 ∧ a0 < (a1.length : Int)) <| (gd (0 ≤ a0 ∧ a0 < (a1.length : Int)) <| (gd (abx (a0 + (1 : Int))) <| (ady fu s_0 a2 (zal a1 (zac a0) a3) (a0 + (1 : Int))))))))) else some a1)
def aer (fu : Nat) (s_0 : Str) : Option Str :=
  (((ady fu s_0 fu s_0 (0 : Int))).bind fun (a0 : Str) => some a0)
def anl (fu : Nat) (a0 : Str) : Nat → Option (Str × UInt8)
  | 0 => none
  | a2 + 1 => (if (0 : Int) < (7 : Int) then (gd (0 ≤ (0 : Int) ∧ (0 : Int) < (akg.length : Int)) <| ((aer fu (el akg (0 : Int))).bind fun (a1 : Str) => (if a1 = a0 then some (el akg (0 : Int), (0 : UInt8)) else none))) else none)
def aol (fu : Nat) (a0 : Str) : Option (Str × UInt8) :=
  ((((aie fu a0).bind fun (a2 : Bool) => (bif (!a2) then none else some ()))).bind fun (v9 : Unit) => (if (64 : Int) < (a0.length : Int) then none else (if (a0.length : Int) = (1 : Int) then (gd (0 ≤ (0 : Int) ∧ (0 : Int) < (a0.length : Int)) <| ((alh fu (at_ a0 (0 : Int))).bind fun (a3 : UInt8) => ((aod fu a3).bind fun (a1 : Str) => (if a1 = ([] : Str) then none else some (a1, (0 : UInt8)))))) else ((aer fu a0).bind fun (a4 : Str) => (anl fu a4 fu)))))
open List renaming drop → zam
def ars (fu : Nat) (a0 : Str) : Option Bool :=
  (if a0 = ([67, 111, 110, 116, 97, 99, 116] : Str) then (if a0 = ([67, 111, 110, 116, 97, 99, 116] : Str) then some true else none) else none)
def ahs (fu : Nat) (a0 : UInt8) : Option Bool :=
  (((if a0 = (32 : UInt8) then some true else some (decide (a0 = (9 : UInt8))))).bind fun (v5 : Bool) => some v5)
def aca (fu : Nat) (s_0 : Str) : Nat → Int → Option Int
  | 0, _ => none
  | a1 + 1, a0 => (((if a0 < (s_0.length : Int) then (gd (0 ≤ a0 ∧ a0 < (s_0.length : Int)) <| ((ahs fu (at_ s_0 a0)).bind fun (a2 : Bool) => some a2)) else some false)).bind fun (a3 : Bool) => (bif a3 then (gd (abx (a0 + (1 : Int))) <| (aca fu s_0 a1 (a0 + (1 : Int)))) else some a0))
def agc (fu : Nat) (s_0 : Str) (a0 : Int) : Option Int :=
  (((aca fu s_0 fu (min (max a0 (0 : Int)) (s_0.length : Int)))).bind fun (a1 : Int) => some a1)
def aig (fu : Nat) (s_0 : Str) (a0 : Int) : Option Int :=
  ((agc fu s_0 a0).bind fun (y1 : Int) => some y1)
def api (fu : Nat) (s_0 : Str) (a1 : Int) (a0 : Int) : Option (Int × Str) :=
  ((aig fu s_0 a1).bind fun (y4 : Int) => (gd (0 ≤ (min y4 a0) ∧ (min y4 a0) ≤ a0 ∧ a0 ≤ (s_0.length : Int)) <| (gd ((sub s_0 (min y4 a0) a0).length ≤ 1000000000) <| gd (([32, 9] : Str).length ≤ 1000 ∧ ([32, 9] : Str).all (fun b => decide (b.toNat < 128)) = true) <| some (min y4 a0, Lib.trimRightS (sub s_0 (min y4 a0) a0) ([32, 9] : Str)))))
def aik (fu : Nat) (s_0 : Str) (a2 : UInt8) : Nat → (List (Int × Str)) → Int → Int → Option ((List (Int × Str)) × Int)
  | 0, _, _, _ => none
  | a4 + 1, a1, a3, a0 => (if a0 < (s_0.length : Int) then (gd (0 ≤ a0 ∧ a0 < (s_0.length : Int)) <| (if (at_ s_0 a0) = (34 : UInt8) then none else (if (at_ s_0 a0) = (60 : UInt8) then (gd (0 ≤ a0 ∧ a0 ≤ (s_0.length : Int)) <| (if (ixb (· == (62 : UInt8)) (zam (zac a0) s_0)) < (0 : Int) then none else (gd (abx ((ixb (· == (62 : UInt8)) (zam (zac a0) s_0)) + (1 : Int))) <| (gd (abx (a0 + ((ixb (· == (62 : UInt8)) (zam (zac a0) s_0)) + (1 : Int)))) <| (aik fu s_0 a2 a4 a1 a3 (a0 + ((ixb (· == (62 : UInt8)) (zam (zac a0) s_0)) + (1 : Int)))))))) else (if (at_ s_0 a0) = (62 : UInt8) then none else (if (at_ s_0 a0) = a2 then ((api fu s_0 a3 a0).bind fun (a5 : (Int × Str)) => (gd ((a1.length + ([a5] : List (Int × Str)).length) * 24 ≤ 140737488355328) <| (gd (abx (a0 + (1 : Int))) <| (aik fu s_0 a2 a4 (a1 ++ ([a5] : List (Int × Str))) (a0 + (1 : Int)) (a0 + (1 : Int)))))) else (gd (abx (a0 + (1 : Int))) <| (aik fu s_0 a2 a4 a1 a3 (a0 + (1 : Int))))))))) else some (a1, a3))
def arq (fu : Nat) (s_0 : Str) (a0 : UInt8) : Option ((List (Int × Str)) × Int × UInt8) :=
  ((((ahs fu a0).bind fun (a3 : Bool) => (bif a3 then none else (if a0 = (34 : UInt8) then none else (if a0 = (60 : UInt8) then none else some ()))))).bind fun (a4 : Unit) => (if a0 = (62 : UInt8) then none else (((aik fu s_0 a0 fu ([] : List (Int × Str)) (0 : Int) (0 : Int))).bind fun (a1 : ((List (Int × Str)) × Int)) => ((api fu s_0 a1.2 (s_0.length : Int)).bind fun (a2 : (Int × Str)) => (gd ((a1.1.length + ([a2] : List (Int × Str)).length) * 24 ≤ 140737488355328) <| some (a1.1 ++ ([a2] : List (Int × Str)), (0 : Int), (0 : UInt8)))))))
def alz (fu : Nat) (y1 : ((List (Int × Str)) × Int × UInt8)) : Nat → (List Str) → Int → Option (List Str)
  | 0, _, _ => none
  | a2 + 1, a1, a0 => (if a0 < (y1.1.length : Int) then (gd (0 ≤ a0 ∧ a0 < (y1.1.length : Int)) <| (gd (0 ≤ a0 ∧ a0 < (y1.1.length : Int)) <| (if ((el y1.1 a0).2) = ([] : Str) then none else (gd ((a1.length + ([(el y1.1 a0).2] : List Str).length) * 16 ≤ 140737488355328) <| (gd (abx (a0 + (1 : Int))) <| (alz fu y1 a2 (a1 ++ ([(el y1.1 a0).2] : List Str)) (a0 + (1 : Int)))))))) else some a1)
def aru (fu : Nat) (a0 : Str) : Option ((List Str) × UInt8) :=
  ((arq fu a0 (44 : UInt8)).bind fun (y1 : ((List (Int × Str)) × Int × UInt8)) => (if y1.2.2 = (0 : UInt8) then (((alz fu y1 fu ([] : List Str) (0 : Int))).bind fun (a1 : List Str) => some (a1, (0 : UInt8))) else none))
def akk (fu : Nat) (a1 : Str) : Nat → Int → Option Int
  | 0, _ => none
  | a2 + 1, a0 => (if a0 < (31 : Int) then (gd (0 ≤ a0 ∧ a0 < (31 : Int)) <| (gd (0 ≤ a0 ∧ a0 < (anc.length : Int)) <| (if ((el anc a0).1) = a1 then (gd (0 ≤ a0 ∧ a0 < (31 : Int)) <| (gd (0 ≤ a0 ∧ a0 < (anc.length : Int)) <| some ((el anc a0).2))) else (gd (abx (a0 + (1 : Int))) <| (akk fu a1 a2 (a0 + (1 : Int))))))) else none)
def apw (fu : Nat) (a0 : Str) : Option Int :=
  (akk fu a0 fu (0 : Int))
open Go.Lib renaming indexAny → zaC, join → zaB
open List renaming drop → zam, set → zal
def ajd (fu : Nat) (s_0 : Str) : Option Str :=
  (gd (s_0.length ≤ 1000000000) <| gd (([32, 9] : Str).length ≤ 1000 ∧ ([32, 9] : Str).all (fun b => decide (b.toNat < 128)) = true) <| some (Lib.trimS s_0 ([32, 9] : Str)))
def adc (fu : Nat) (a0 : (Str × Int)) : Option (Str × Int) :=
  ((aig fu a0.1 a0.2).bind fun (y1 : Int) => some (a0.1, y1))
def aex (fu : Nat) (a0 : (Str × Int)) : Option Bool :=
  some (decide ((a0.1.length : Int) ≤ a0.2))
def abn (fu : Nat) (a0 : (Str × Int)) (a1 : UInt8) : Option Bool :=
  ((((aex fu a0).bind fun (a2 : Bool) => (bif (!a2) then (gd (0 ≤ a0.2 ∧ a0.2 < (a0.1.length : Int)) <| some (decide ((at_ a0.1 a0.2) = a1))) else some false))).bind fun (a3 : Bool) => some a3)
def aew (fu : Nat) (a0 : (Str × Int)) : Option (Str × (Str × Int)) :=
  ((ahg fu a0.1 a0.2).bind fun (y1 : Int) => (gd (0 ≤ a0.2 ∧ a0.2 ≤ y1 ∧ y1 ≤ (a0.1.length : Int)) <| some (sub a0.1 a0.2 y1, (a0.1, y1))))
def afu (fu : Nat) : Nat → (List Str) → Str → Int → Option ((List Str) × Str × Int)
  | 0, _, _, _ => none
  | a5 + 1, a1, a2, a3 => ((abn fu (a2, a3) (60 : UInt8)).bind fun (a6 : Bool) => (bif (!a6) then ((aew fu (a2, a3)).bind fun (a0 : (Str × (Str × Int))) => (if a0.1 = ([] : Str) then none else (gd ((a1.length + ([a0.1] : List Str).length) * 16 ≤ 140737488355328) <| ((adc fu a0.2).bind fun (a4 : (Str × Int)) => (afu fu a5 (a1 ++ ([a0.1] : List Str)) a4.1 a4.2))))) else some (a1, a2, a3)))
def aiv (fu : Nat) (a1 : (Str × Int)) (a2 : (Str × (Str × Str × Str × Int × (List PQ) × (List PQ)) × (List PQ))) : Option (Int × UInt8 × (Str × Int) × (Str × (Str × Str × Str × Int × (List PQ) × (List PQ)) × (List PQ))) :=
  (((afu fu fu ([] : List Str) a1.1 a1.2)).bind fun (a0 : ((List Str) × Str × Int)) => (gd (a0.1.length ≤ 1000000000 ∧ (zaB a0.1 ([32] : Str)).length ≤ 100000000000) <| some ((0 : Int), (0 : UInt8), a0.2, (zaB a0.1 ([32] : Str), a2.2.1, a2.2.2))))
def aeu (fu : Nat) (a1 : Str) (a0 : Int) (a2 : Str) : Option Int :=
  (gd (0 ≤ a0 ∧ a0 ≤ (a1.length : Int)) <| (gd ((zam (zac a0) a1).length ≤ 1000000000 ∧ a2.length ≤ 1000 ∧ a2.all (fun b => decide (b.toNat < 128)) = true) <| (if (0 : Int) ≤ (zaC (zam (zac a0) a1) a2) then (gd (abx (a0 + (zaC (zam (zac a0) a1) a2))) <| some (a0 + (zaC (zam (zac a0) a1) a2))) else some (a1.length : Int))))
def afh (fu : Nat) (s_0 : Str) : Nat → Str → Int → Option Str
  | 0, _, _ => none
  | a2 + 1, a1, a0 => (if a0 < (s_0.length : Int) then (gd (0 ≤ a0 ∧ a0 < (a1.length : Int)) <| (gd (0 ≤ a0 ∧ a0 < (a1.length : Int)) <| (((if (65 : UInt8) ≤ (at_ a1 a0) then some (decide ((at_ a1 a0) ≤ (90 : UInt8))) else some false)).bind fun (a3 : Bool) => (bif a3 then (gd (0 ≤ a0 ∧ a0 < (a1.length : Int)) <| (gd (0 ≤ a0 ∧ a0 < (a1.length : Int)) <| (gd (abx (a0 + (1 : Int))) <| (afh fu s_0 a2 (zal a1 (zac a0) ((at_ a1 a0) + (32 : UInt8))) (a0 + (1 : Int)))))) else (gd (abx (a0 + (1 : Int))) <| (afh fu s_0 a2 a1 (a0 + (1 : Int)))))))) else some a1)
def adw (fu : Nat) (s_0 : Str) : Option Str :=
  (((afh fu s_0 fu s_0 (0 : Int))).bind fun (a0 : Str) => some a0)
open Go.Lib renaming trimLeftS → zaD
def aix (fu : Nat) (a0 : UInt8) : Option Bool :=
  (((if (97 : UInt8) ≤ a0 then (if a0 ≤ (122 : UInt8) then some true else (if (65 : UInt8) ≤ a0 then some (decide (a0 ≤ (90 : UInt8))) else some false)) else (if (65 : UInt8) ≤ a0 then some (decide (a0 ≤ (90 : UInt8))) else some false))).bind fun (v8 : Bool) => some v8)
def ama (fu : Nat) (a0 : UInt8) (a2 : Int) : Option Bool :=
  ((((aix fu a0).bind fun (a1 : Bool) => (bif a1 then some () else none))).bind fun (v9 : Unit) => some true)
def ahi (fu : Nat) (a1 : (Str × Int)) (a2 : Int) (a3 : Int) : Nat → Int → Option Unit
  | 0, _ => none
  | a4 + 1, a0 => (if a0 < a2 then (gd (0 ≤ a0 ∧ a0 < (a1.1.length : Int)) <| ((ama fu (at_ a1.1 a0) a3).bind fun (a5 : Bool) => (bif a5 then (gd (abx (a0 + (1 : Int))) <| (ahi fu a1 a2 a3 a4 (a0 + (1 : Int)))) else none))) else some ())
def aiq (fu : Nat) (a0 : (Str × Int)) (a1 : Int) (a2 : Int) : Option (Int × Bool) :=
  (((ahi fu a0 a1 a2 fu a0.2)).bind fun (a3 : Unit) => some ((0 : Int), false))
def air (fu : Nat) (s_0 : Str) : Nat → (List UInt8) → Int → Option (List UInt8)
  | 0, _, _ => none
  | a2 + 1, a1, a0 => (if a0 < (s_0.length : Int) then (gd (0 ≤ a0 ∧ a0 < (s_0.length : Int)) <| (if (at_ s_0 a0) = (37 : UInt8) then none else (gd (0 ≤ a0 ∧ a0 < (s_0.length : Int)) <| (gd ((a1.length + ([at_ s_0 a0] : List UInt8).length) * 1 ≤ 140737488355328) <| (gd (abx (a0 + (1 : Int))) <| (air fu s_0 a2 (a1 ++ ([at_ s_0 a0] : List UInt8)) (a0 + (1 : Int)))))))) else some a1)
def anm (fu : Nat) (s_0 : Str) : Option (Str × Int × UInt8) :=
  (gd (0 ≤ (s_0.length : Int) ∧ (1 : Int) * (s_0.length : Int) ≤ 281474976710656) <| (((air fu s_0 fu ([] : List UInt8) (0 : Int))).bind fun (a0 : List UInt8) => some (a0, (0 : Int), (0 : UInt8))))
def amb (fu : Nat) (s_0 : Str) : Option Str :=
  ((anm fu s_0).bind fun (y1 : (Str × Int × UInt8)) => some y1.1)
def agy (fu : Nat) (a0 : UInt8) : Option Bool :=
  (((if (48 : UInt8) ≤ a0 then some (decide (a0 ≤ (57 : UInt8))) else some false)).bind fun (v5 : Bool) => some v5)
def ajf (fu : Nat) (a0 : UInt8) : Option (UInt8 × Bool) :=
  ((agy fu a0).bind fun (y1 : Bool) => (bif y1 then some (a0 - (48 : UInt8), true) else (((if (97 : UInt8) ≤ a0 then some (decide (a0 ≤ (102 : UInt8))) else some false)).bind fun (a1 : Bool) => (bif a1 then some ((a0 - (97 : UInt8)) + (10 : UInt8), true) else (((if (65 : UInt8) ≤ a0 then some (decide (a0 ≤ (70 : UInt8))) else some false)).bind fun (a2 : Bool) => (bif a2 then some ((a0 - (65 : UInt8)) + (10 : UInt8), true) else some ((0 : UInt8), false)))))))
def adi (fu : Nat) (a1 : List Str) (a2 : Int) : Nat → Int → Option (Unit ⊕ ((List Str) × Bool))
  | 0, _ => none
  | a3 + 1, a0 => (if a0 < ((el a1 a2).length : Int) then (gd (0 ≤ a0 ∧ a0 < ((el a1 a2).length : Int)) <| ((ajf fu (at_ (el a1 a2) a0)).bind fun (a4 : (UInt8 × Bool)) => (bif (!a4.2) then some (.inr (([] : List Str), false)) else (gd (abx (a0 + (1 : Int))) <| (adi fu a1 a2 a3 (a0 + (1 : Int))))))) else some (.inl ()))
def adj (fu : Nat) (s_0 : Str) : Nat → (List Str) → Int → Option ((List Str) ⊕ ((List Str) × Bool))
  | 0, _, _ => none
  | a3 + 1, a1, a0 => (if a0 < ((spl 58 s_0).length : Int) then (((gd (0 ≤ a0 ∧ a0 < (a1.length : Int)) <| (gd (0 ≤ a0 ∧ a0 < (a1.length : Int)) <| (((if ((el a1 a0).length : Int) < (1 : Int) then some true else some (decide ((4 : Int) < ((el a1 a0).length : Int))))).bind fun (a4 : Bool) => (bif a4 then some (.inr (([] : List Str), false)) else (((adi fu a1 a0 fu (0 : Int))).bind fun (a5 : (Unit ⊕ ((List Str) × Bool))) => zay (fun (a8 : Unit) => ((adw fu (el a1 a0)).bind fun (a2 : Str) => (gd (a2.length ≤ 1000000000) <| gd (([48] : Str).length ≤ 1000 ∧ ([48] : Str).all (fun b => decide (b.toNat < 128)) = true) <| (if (zaD a2 ([48] : Str)) = ([] : Str) then (gd (0 ≤ a0 ∧ a0 < (a1.length : Int)) <| (gd (0 ≤ a0 ∧ a0 < (a1.length : Int)) <| some (.inl (zal a1 (zac a0) ([48] : Str))))) else (gd (0 ≤ a0 ∧ a0 < (a1.length : Int)) <| (gd (0 ≤ a0 ∧ a0 < (a1.length : Int)) <| some (.inl (zal a1 (zac a0) (zaD a2 ([48] : Str)))))))))) (fun q => some (.inr q)) a5)))))).bind fun (a6 : ((List Str) ⊕ ((List Str) × Bool))) => zay (fun (a7 : List Str) => (gd (abx (a0 + (1 : Int))) <| (adj fu s_0 a3 a7 (a0 + (1 : Int))))) (fun q => some (.inr q)) a6) else some (.inl a1))
def afi (fu : Nat) (s_0 : Str) : Option ((List Str) × Bool) :=
  (gd (s_0.length ≤ 1000000000) <| (((adj fu s_0 fu (spl 58 s_0) (0 : Int))).bind fun (a0 : ((List Str) ⊕ ((List Str) × Bool))) => zay (fun (a1 : List Str) => some (a1, true)) (fun q => some q) a0))
open Go.Lib renaming cut → zaK, index → zaq, join → zaB
open List renaming drop → zam, take → zaz
def akt (fu : Nat) (s_0 : Str) : Option (Str × Bool) :=
  (if (39 : Int) < (s_0.length : Int) then some (([] : Str), false) else (gd (s_0.length ≤ 1000000000) <| (bif (!((zaK s_0 ([58, 58] : Str)).2.2)) then ((afi fu s_0).bind fun (y7 : ((List Str) × Bool)) => (((gd (y7.1.length ≤ 1000000000 ∧ (zaB y7.1 ([58] : Str)).length ≤ 100000000000) <| (bif y7.2 then some (decide ((y7.1.length : Int) = (8 : Int))) else some false))).bind fun (a4 : Bool) => some (zaB y7.1 ([58] : Str), a4))) else (((if ((zaK s_0 ([58, 58] : Str)).1) = ([] : Str) then some (([] : List Str), true) else ((afi fu ((zaK s_0 ([58, 58] : Str)).1)).bind fun (a2 : ((List Str) × Bool)) => some (a2.1, a2.2)))).bind fun (a0 : ((List Str) × Bool)) => (((if ((zaK s_0 ([58, 58] : Str)).2.1) = ([] : Str) then some (([] : List Str), true) else ((afi fu ((zaK s_0 ([58, 58] : Str)).2.1)).bind fun (a3 : ((List Str) × Bool)) => some (a3.1, a3.2)))).bind fun (a1 : ((List Str) × Bool)) => (((bif (!a0.2) then some true else (bif (!a1.2) then some true else (gd (abx ((a0.1.length : Int) + (a1.1.length : Int))) <| some (decide ((7 : Int) < ((a0.1.length : Int) + (a1.1.length : Int)))))))).bind fun (a5 : Bool) => (bif a5 then some (([] : Str), false) else (gd (a0.1.length ≤ 1000000000 ∧ (zaB a0.1 ([58] : Str)).length ≤ 100000000000) <| (gd ((zaB a0.1 ([58] : Str)).length + ([58, 58] : Str).length ≤ 9223372036854775807) <| (gd (a1.1.length ≤ 1000000000 ∧ (zaB a1.1 ([58] : Str)).length ≤ 100000000000) <| (gd (((zaB a0.1 ([58] : Str)) ++ ([58, 58] : Str)).length + (zaB a1.1 ([58] : Str)).length ≤ 9223372036854775807) <| some (((zaB a0.1 ([58] : Str)) ++ ([58, 58] : Str)) ++ (zaB a1.1 ([58] : Str)), true))))))))))))
def aej (fu : Nat) (s_0 : Str) (a1 : Int) : Nat → Int → Int → Option (Int ⊕ Bool)
  | 0, _, _ => none
  | a3 + 1, a2, a0 => (if a0 < ((el (spl 46 s_0) a1).length : Int) then (gd (0 ≤ a0 ∧ a0 < ((el (spl 46 s_0) a1).length : Int)) <| ((agy fu (at_ (el (spl 46 s_0) a1) a0)).bind fun (a4 : Bool) => (bif (!a4) then some (.inr false) else (gd (abx ((10 : Int) * a2)) <| (gd (0 ≤ a0 ∧ a0 < ((el (spl 46 s_0) a1).length : Int)) <| (gd (abx (((10 : Int) * a2) + (((at_ (el (spl 46 s_0) a1) a0) - (48 : UInt8)).toNat : Int))) <| (gd (abx (a0 + (1 : Int))) <| (aej fu s_0 a1 a3 (((10 : Int) * a2) + (((at_ (el (spl 46 s_0) a1) a0) - (48 : UInt8)).toNat : Int)) (a0 + (1 : Int)))))))))) else some (.inl a2))
def aek (fu : Nat) (s_0 : Str) : Nat → Int → Option (Unit ⊕ Bool)
  | 0, _ => none
  | a2 + 1, a0 => (if a0 < ((spl 46 s_0).length : Int) then (((gd (0 ≤ a0 ∧ a0 < ((spl 46 s_0).length : Int)) <| (gd (0 ≤ a0 ∧ a0 < ((spl 46 s_0).length : Int)) <| (((aej fu s_0 a0 fu (0 : Int) (0 : Int))).bind fun (a3 : (Int ⊕ Bool)) => zay (fun (a1 : Int) => (((if (el (spl 46 s_0) a0) = ([] : Str) then some true else (if (255 : Int) < a1 then some true else (gd (abx a1) <| some (!decide ((el (spl 46 s_0) a0) = (Lib.itoa a1))))))).bind fun (a4 : Bool) => (bif a4 then some (.inr false) else some (.inl ())))) (fun q => some (.inr q)) a3)))).bind fun (a5 : (Unit ⊕ Bool)) => zay (fun (a6 : Unit) => (gd (abx (a0 + (1 : Int))) <| (aek fu s_0 a2 (a0 + (1 : Int))))) (fun q => some (.inr q)) a5) else some (.inl ()))
def ajy (fu : Nat) (s_0 : Str) : Option Bool :=
  (if (15 : Int) < (s_0.length : Int) then some false else (gd (s_0.length ≤ 1000000000) <| (((aek fu s_0 fu (0 : Int))).bind fun (a0 : (Unit ⊕ Bool)) => zay (fun (a1 : Unit) => some (decide (((spl 46 s_0).length : Int) = (4 : Int)))) (fun q => some q) a0)))
def ald (fu : Nat) (s_0 : Str) (a0 : Str) (a1 : Int) : Option (Str × Str × Int) :=
  some (a0, s_0, a1)
def ale (fu : Nat) (s_0 : Str) (a0 : Str) : Option (Str × Str × Int) :=
  ((ald fu s_0 a0 (0 : Int)).bind fun (y1 : (Str × Str × Int)) => some (y1.1, y1.2.1, y1.2.2))
def acg (fu : Nat) (a1 : Str) (a2 : Bool) : Nat → Int → Bool → Option ((Nat × Bool × Bool))
  | 0, _, _ => none
  | a4 + 1, a0, a3 => (if a0 < (a1.length : Int) then (gd (0 ≤ a0 ∧ a0 < (a1.length : Int)) <| ((((aix fu (at_ a1 a0)).bind fun (a5 : Bool) => (bif (!a5) then ((agy fu (at_ a1 a0)).bind fun (a6 : Bool) => (bif (!a6) then some (!decide ((at_ a1 a0) = (45 : UInt8))) else some false)) else some false))).bind fun (a7 : Bool) => (bif a7 then some (1, a3, false) else (bif a3 then (gd (abx (a0 + (1 : Int))) <| (acg fu a1 a2 a4 (a0 + (1 : Int)) true)) else ((agy fu (at_ a1 a0)).bind fun (a8 : Bool) => (gd (abx (a0 + (1 : Int))) <| (acg fu a1 a2 a4 (a0 + (1 : Int)) (!a8)))))))) else some (0, a3, a2))
def aen (fu : Nat) (a0 : Str) (a1 : Bool) (a2 : Bool) : Option (Nat × Bool × Bool) :=
  (((if (a0.length : Int) < (1 : Int) then some true else (if (63 : Int) < (a0.length : Int) then some true else (gd (0 ≤ (0 : Int) ∧ (0 : Int) < (a0.length : Int)) <| (if (at_ a0 (0 : Int)) = (45 : UInt8) then some true else (gd (abx ((a0.length : Int) - (1 : Int))) <| (gd (0 ≤ ((a0.length : Int) - (1 : Int)) ∧ ((a0.length : Int) - (1 : Int)) < (a0.length : Int)) <| some (decide ((at_ a0 ((a0.length : Int) - (1 : Int))) = (45 : UInt8)))))))))).bind fun (a3 : Bool) => (bif a3 then some (1, a1, false) else (acg fu a0 a2 fu (0 : Int) a1)))
def aeo (fu : Nat) (a0 : Str) : Nat → Option Unit
  | 0 => none
  | a1 + 1 => (if (0 : Int) < (a0.length : Int) then none else some ())
def abf (fu : Nat) (a1 : Str) (a3 : Int) : Nat → Bool → Bool → Str → Option ((Bool × Bool × Str) ⊕ (Bool × Bool × Str × Nat))
  | 0, _, _, _ => none
  | a6 + 1, a4, a5, a0 => (gd (a0.length ≤ 1000000000) <| (if (zaq a0 a1) < (0 : Int) then some (.inl (a4, a5, a0)) else (gd (abx ((zaq a0 a1) + a3)) <| (gd (0 ≤ ((zaq a0 a1) + a3) ∧ ((zaq a0 a1) + a3) ≤ (a0.length : Int)) <| ((aen fu (zaz (zac ((zaq a0 a1) + a3)) a0) a4 a5).bind fun (a2 : (Nat × Bool × Bool)) => (if a2.1 = 0 then (gd (abx ((zaq a0 a1) + (a1.length : Int))) <| (gd (0 ≤ ((zaq a0 a1) + (a1.length : Int)) ∧ ((zaq a0 a1) + (a1.length : Int)) ≤ (a0.length : Int)) <| (abf fu a1 a3 a6 a2.2.1 a2.2.2 (zam (zac ((zaq a0 a1) + (a1.length : Int))) a0)))) else some (.inr (a2.2.1, a2.2.2, a0, a2.1))))))))
def adx (fu : Nat) (a3 : Bool) (a4 : Bool) (a5 : Str) (a2 : Str) (a6 : Int) : Option (Bool × Bool × Str × Nat) :=
  (((if (a5.length : Int) = (0 : Int) then (((aeo fu a2 fu)).bind fun (a9 : Unit) => some (.inr (a3, a4, a2, 0))) else some (.inl ()))).bind fun (a7 : (Unit ⊕ (Bool × Bool × Str × Nat))) => zay (fun (b0 : Unit) => (((abf fu a5 a6 fu a3 a4 a2)).bind fun (a8 : ((Bool × Bool × Str) ⊕ (Bool × Bool × Str × Nat))) => zay (fun (a1 : (Bool × Bool × Str)) => ((aen fu a1.2.2 a1.1 a1.2.1).bind fun (a0 : (Nat × Bool × Bool)) => (if a0.1 = 0 then some (a0.2.1, a0.2.2, a1.2.2, 0) else some (a0.2.1, a0.2.2, a1.2.2, a0.1)))) (fun q => some q) a8)) (fun q => some q) a7)
def alt (fu : Nat) (s_0 : Str) : Option Bool :=
  (((if (s_0.length : Int) < (1 : Int) then some true else some (decide ((255 : Int) < (s_0.length : Int))))).bind fun (v8 : Bool) => (bif v8 then some false else ((ale fu s_0 ([46] : Str)).bind fun (a1 : (Str × Str × Int)) => ((adx fu false false a1.1 a1.2.1 a1.2.2).bind fun (a0 : (Bool × Bool × Str × Nat)) => (if a0.2.2.2 = 0 then some a0.1 else (if a0.2.2.2 = 1 then some a0.2.1 else none))))))
def agq (fu : Nat) (s_0 : Str) : Option (Str × Bool) :=
  (((if (2 : Int) ≤ (s_0.length : Int) then (gd (0 ≤ (0 : Int) ∧ (0 : Int) < (s_0.length : Int)) <| (if (at_ s_0 (0 : Int)) = (91 : UInt8) then (gd (abx ((s_0.length : Int) - (1 : Int))) <| (gd (0 ≤ ((s_0.length : Int) - (1 : Int)) ∧ ((s_0.length : Int) - (1 : Int)) < (s_0.length : Int)) <| some (decide ((at_ s_0 ((s_0.length : Int) - (1 : Int))) = (93 : UInt8))))) else some false)) else some false)).bind fun (v9 : Bool) => (bif v9 then (gd (abx ((s_0.length : Int) - (1 : Int))) <| (gd (0 ≤ (1 : Int) ∧ (1 : Int) ≤ ((s_0.length : Int) - (1 : Int)) ∧ ((s_0.length : Int) - (1 : Int)) ≤ (s_0.length : Int)) <| ((akt fu (sub s_0 (1 : Int) ((s_0.length : Int) - (1 : Int)))).bind fun (a0 : (Str × Bool)) => (bif (!a0.2) then some (([] : Str), false) else (gd (([91] : Str).length + a0.1.length ≤ 9223372036854775807) <| (gd ((([91] : Str) ++ a0.1).length + ([93] : Str).length ≤ 9223372036854775807) <| some ((([91] : Str) ++ a0.1) ++ ([93] : Str), true))))))) else ((ajy fu s_0).bind fun (a1 : Bool) => (bif a1 then some (s_0, true) else ((alt fu s_0).bind fun (a2 : Bool) => (bif a2 then ((adw fu s_0).bind fun (a3 : Str) => some (a3, true)) else some (([] : Str), false)))))))
def akz (fu : Nat) (a0 : (Str × Int)) (a3 : (Str × Str × Str × Int × (List PQ) × (List PQ))) : Option (Int × UInt8 × (Str × Int) × (Str × Str × Str × Int × (List PQ) × (List PQ))) :=
  (((gd (0 ≤ a0.2 ∧ a0.2 ≤ (a0.1.length : Int)) <| (if (0 : Int) ≤ (ixb (· == (64 : UInt8)) (zam (zac a0.2) a0.1)) then (gd (abx (a0.2 + (ixb (· == (64 : UInt8)) (zam (zac a0.2) a0.1)))) <| ((aiq fu a0 (a0.2 + (ixb (· == (64 : UInt8)) (zam (zac a0.2) a0.1))) (0 : Int)).bind fun (a5 : (Int × Bool)) => (bif a5.2 then none else (if (ixb (· == (64 : UInt8)) (zam (zac a0.2) a0.1)) = (0 : Int) then none else (gd (0 ≤ a0.2 ∧ a0.2 ≤ (a0.2 + (ixb (· == (64 : UInt8)) (zam (zac a0.2) a0.1))) ∧ (a0.2 + (ixb (· == (64 : UInt8)) (zam (zac a0.2) a0.1))) ≤ (a0.1.length : Int)) <| ((amb fu (sub a0.1 a0.2 (a0.2 + (ixb (· == (64 : UInt8)) (zam (zac a0.2) a0.1))))).bind fun (a6 : Str) => (gd (abx ((a0.2 + (ixb (· == (64 : UInt8)) (zam (zac a0.2) a0.1))) + (1 : Int))) <| some ((a0.2 + (ixb (· == (64 : UInt8)) (zam (zac a0.2) a0.1))) + (1 : Int), a6)))))))) else some (a0.2, a3.2.1)))).bind fun (a2 : (Int × Str)) => ((aeu fu a0.1 a2.1 ([58, 59, 63] : Str)).bind fun (a1 : Int) => ((abn fu (a0.1, a2.1) (91 : UInt8)).bind fun (a7 : Bool) => (bif a7 then none else (gd (0 ≤ a2.1 ∧ a2.1 ≤ a1 ∧ a1 ≤ (a0.1.length : Int)) <| ((agq fu (sub a0.1 a2.1 a1)).bind fun (a4 : (Str × Bool)) => (bif (!a4.2) then none else ((abn fu (a0.1, a1) (58 : UInt8)).bind fun (a8 : Bool) => (bif a8 then none else ((((aex fu (a0.1, a1)).bind fun (a9 : Bool) => (bif (!a9) then ((abn fu (a0.1, a1) (59 : UInt8)).bind fun (b0 : Bool) => (bif (!b0) then none else some ())) else some ()))).bind fun (b1 : Unit) => some ((0 : Int), (0 : UInt8), (a0.1, a1), (a3.1, a2.2, a4.1, a3.2.2.2.1, a3.2.2.2.2.1, a3.2.2.2.2.2))))))))))))
def ajz (fu : Nat) (a0 : PQ) (a1 : Str) : Option Bool :=
  some (decide (a0.1 = a1))
def aax (fu : Nat) (s_0 : List PQ) (a1 : Str) : Nat → Int → Option (Unit ⊕ Int)
  | 0, _ => none
  | a2 + 1, a0 => (if a0 < (s_0.length : Int) then (gd (0 ≤ a0 ∧ a0 < (s_0.length : Int)) <| (gd (0 ≤ a0 ∧ a0 < (s_0.length : Int)) <| ((ajz fu ((el s_0 a0).1, (el s_0 a0).2.1, ((el s_0 a0).2.2)) a1).bind fun (a3 : Bool) => (bif a3 then some (.inr a0) else (gd (abx (a0 + (1 : Int))) <| (aax fu s_0 a1 a2 (a0 + (1 : Int)))))))) else some (.inl ()))
def adq (fu : Nat) (s_0 : List PQ) (a0 : Str) : Option Int :=
  (((aax fu s_0 a0 fu (0 : Int))).bind fun (a1 : (Unit ⊕ Int)) => zay (fun (a2 : Unit) => some (-1 : Int)) (fun q => some q) a1)
def adh (fu : Nat) (s_0 : List PQ) (a0 : Str) : Option Bool :=
  ((adq fu s_0 a0).bind fun (y1 : Int) => some (decide ((0 : Int) ≤ y1)))
def ain (fu : Nat) (a0 : List PQ) (a1 : Str) : Option Bool :=
  ((adh fu a0 a1).bind fun (y4 : Bool) => some y4)
def aky (fu : Nat) (a0 : List PQ) (a1 : Str) : Option UInt8 :=
  ((ain fu a0 a1).bind fun (y1 : Bool) => (bif y1 then some (7 : UInt8) else (if (16 : Int) ≤ (a0.length : Int) then some (4 : UInt8) else some (0 : UInt8))))
def ala (fu : Nat) (a0 : (Str × Int)) (a2 : List PQ) (a1 : Int) (a4 : Int) : Option ((List PQ) × Int × UInt8 × (Str × Int)) :=
  (gd (0 ≤ a0.2 ∧ a0.2 ≤ a1 ∧ a1 ≤ (a0.1.length : Int)) <| (if (0 : Int) ≤ (ixb (· == (61 : UInt8)) (sub a0.1 a0.2 a1)) then none else ((aiq fu a0 a1 a4).bind fun (y7 : (Int × Bool)) => (bif y7.2 then none else (if a1 = a0.2 then none else (gd (0 ≤ a0.2 ∧ a0.2 ≤ a1 ∧ a1 ≤ (a0.1.length : Int)) <| ((amb fu (sub a0.1 a0.2 a1)).bind fun (a5 : Str) => ((adw fu a5).bind fun (a3 : Str) => (if (0 : Int) ≤ (ixb (· == (61 : UInt8)) (sub a0.1 a0.2 a1)) then none else (if a4 = (2 : Int) then none else ((aky fu a2 a3).bind fun (a6 : UInt8) => (if a6 = (0 : UInt8) then (gd ((a2.length + ([(a3, ([] : Str), (decide ((0 : Int) ≤ (ixb (· == (61 : UInt8)) (sub a0.1 a0.2 a1)))))] : List PQ).length) * 40 ≤ 140737488355328) <| some (a2 ++ ([(a3, ([] : Str), (decide ((0 : Int) ≤ (ixb (· == (61 : UInt8)) (sub a0.1 a0.2 a1)))))] : List PQ), (0 : Int), (0 : UInt8), (a0.1, a1))) else none))))))))))))
def aje (fu : Nat) (a0 : Str) : Option Bool :=
  some (!decide (a0 = a0))
open Go.IntKind renaming wrap → zaa
open Go.Op renaming bytesLess → zaF
def aia (fu : Nat) (a0 : Str) (a1 : Str) : Option Int :=
  ((aje fu a0).bind fun (y1 : Bool) => ((aje fu a1).bind fun (y6 : Bool) => (bif y1 then (bif y6 then some (0 : Int) else some (-1 : Int)) else (bif y6 then some (1 : Int) else (bif (zaF a0 a1) then some (-1 : Int) else (bif (!(zaF a0 a1 || a0 == a1)) then some (1 : Int) else some (0 : Int)))))))
def aht (fu : Nat) (a0 : PQ) (a1 : PQ) : Option Int :=
  ((aia fu a0.1 a1.1).bind fun (y7 : Int) => some y7)
def acb (fu : Nat) (a2 : Int) : Nat → (List PQ) → Int → Option (List PQ)
  | 0, _, _ => none
  | a3 + 1, a1, a0 => (((if a2 < a0 then (gd (0 ≤ a0 ∧ a0 < (a1.length : Int)) <| (gd (0 ≤ a0 ∧ a0 < (a1.length : Int)) <| (gd (abx (a0 - (1 : Int))) <| (gd (0 ≤ (a0 - (1 : Int)) ∧ (a0 - (1 : Int)) < (a1.length : Int)) <| (gd (0 ≤ (a0 - (1 : Int)) ∧ (a0 - (1 : Int)) < (a1.length : Int)) <| ((aht fu ((el a1 a0).1, (el a1 a0).2.1, ((el a1 a0).2.2)) ((el a1 (a0 - (1 : Int))).1, (el a1 (a0 - (1 : Int))).2.1, ((el a1 (a0 - (1 : Int))).2.2))).bind fun (a4 : Int) => some (decide (a4 < (0 : Int))))))))) else some false)).bind fun (a5 : Bool) => (bif a5 then (gd (abx (a0 - (1 : Int))) <| (gd (abx (a0 - (1 : Int))) <| (gd (0 ≤ (a0 - (1 : Int)) ∧ (a0 - (1 : Int)) < (a1.length : Int)) <| (gd (0 ≤ (a0 - (1 : Int)) ∧ (a0 - (1 : Int)) < (a1.length : Int)) <| (gd (0 ≤ a0 ∧ a0 < (a1.length : Int)) <| (gd (0 ≤ a0 ∧ a0 < (a1.length : Int)) <| (gd (0 ≤ a0 ∧ a0 < (a1.length : Int)) <| (gd (0 ≤ a0 ∧ a0 < (a1.length : Int)) <| (gd (0 ≤ (a0 - (1 : Int)) ∧ (a0 - (1 : Int)) < ((zal a1 (zac a0) ((el a1 (a0 - (1 : Int))).1, (el a1 (a0 - (1 : Int))).2.1, ((el a1 (a0 - (1 : Int))).2.2))).length : Int)) <| (gd (0 ≤ (a0 - (1 : Int)) ∧ (a0 - (1 : Int)) < ((zal a1 (zac a0) ((el a1 (a0 - (1 : Int))).1, (el a1 (a0 - (1 : Int))).2.1, ((el a1 (a0 - (1 : Int))).2.2))).length : Int)) <| (gd (abx (a0 - (1 : Int))) <| (acb fu a2 a3 (zal (zal a1 (zac a0) ((el a1 (a0 - (1 : Int))).1, (el a1 (a0 - (1 : Int))).2.1, ((el a1 (a0 - (1 : Int))).2.2))) (zac (a0 - (1 : Int))) ((el a1 a0).1, (el a1 a0).2.1, ((el a1 a0).2.2))) (a0 - (1 : Int)))))))))))))) else some a1))
def acd (fu : Nat) (a1 : Int) (a2 : Int) : Nat → (List PQ) → Int → Option (List PQ)
  | 0, _, _ => none
  | a4 + 1, a3, a0 => (if a0 < a2 then (((acb fu a1 fu a3 a0)).bind fun (a5 : List PQ) => (gd (abx (a0 + (1 : Int))) <| (acd fu a1 a2 a4 a5 (a0 + (1 : Int))))) else some a3)
def acm (fu : Nat) (a1 : List PQ) (a0 : Int) (a2 : Int) : Option (List PQ) :=
  (gd (abx (a0 + (1 : Int))) <| (acd fu a0 a2 fu a1 (a0 + (1 : Int))))
def acl (fu : Nat) (a3 : Int) (a2 : Int) (a4 : Int) : Nat → (List PQ) → Int → Option (List PQ)
  | 0, _, _ => none
  | a5 + 1, a1, a0 => (if a0 < a4 then (gd (abx (a3 + a0)) <| (gd (abx (a2 + a0)) <| (gd (abx (a2 + a0)) <| (gd (0 ≤ (a2 + a0) ∧ (a2 + a0) < (a1.length : Int)) <| (gd (0 ≤ (a2 + a0) ∧ (a2 + a0) < (a1.length : Int)) <| (gd (abx (a3 + a0)) <| (gd (0 ≤ (a3 + a0) ∧ (a3 + a0) < (a1.length : Int)) <| (gd (0 ≤ (a3 + a0) ∧ (a3 + a0) < (a1.length : Int)) <| (gd (0 ≤ (a3 + a0) ∧ (a3 + a0) < (a1.length : Int)) <| (gd (0 ≤ (a3 + a0) ∧ (a3 + a0) < (a1.length : Int)) <| (gd (0 ≤ (a2 + a0) ∧ (a2 + a0) < ((zal a1 (zac (a3 + a0)) ((el a1 (a2 + a0)).1, (el a1 (a2 + a0)).2.1, ((el a1 (a2 + a0)).2.2))).length : Int)) <| (gd (0 ≤ (a2 + a0) ∧ (a2 + a0) < ((zal a1 (zac (a3 + a0)) ((el a1 (a2 + a0)).1, (el a1 (a2 + a0)).2.1, ((el a1 (a2 + a0)).2.2))).length : Int)) <| (gd (abx (a0 + (1 : Int))) <| (acl fu a3 a2 a4 a5 (zal (zal a1 (zac (a3 + a0)) ((el a1 (a2 + a0)).1, (el a1 (a2 + a0)).2.1, ((el a1 (a2 + a0)).2.2))) (zac (a2 + a0)) ((el a1 (a3 + a0)).1, (el a1 (a3 + a0)).2.1, ((el a1 (a3 + a0)).2.2))) (a0 + (1 : Int)))))))))))))))) else some a1)
def abz (fu : Nat) (a0 : List PQ) (a1 : Int) (a2 : Int) (a3 : Int) : Option (List PQ) :=
  (acl fu a1 a2 a3 fu a0 (0 : Int))
def abw (fu : Nat) (a2 : Int) : Nat → (List PQ) → Int → Int → Option ((List PQ) × Int)
  | 0, _, _, _ => none
  | a4 + 1, a3, a0, a1 => (if a0 = a1 then some (a3, a0) else (if a1 < a0 then (gd (abx (a2 - a0)) <| ((abz fu a3 (a2 - a0) a2 a1).bind fun (a5 : List PQ) => (gd (abx (a0 - a1)) <| (abw fu a2 a4 a5 (a0 - a1) a1)))) else (gd (abx (a2 - a0)) <| (gd (abx (a2 + a1)) <| (gd (abx ((a2 + a1) - a0)) <| ((abz fu a3 (a2 - a0) ((a2 + a1) - a0) a0).bind fun (a6 : List PQ) => (gd (abx (a1 - a0)) <| (abw fu a2 a4 a6 a0 (a1 - a0)))))))))
def aef (fu : Nat) (a4 : List PQ) (a2 : Int) (a0 : Int) (a3 : Int) : Option (List PQ) :=
  (gd (abx (a0 - a2)) <| (gd (abx (a3 - a0)) <| (((abw fu a0 fu a4 (a0 - a2) (a3 - a0))).bind fun (a1 : ((List PQ) × Int)) => (gd (abx (a0 - a1.2)) <| ((abz fu a1.1 (a0 - a1.2) a0 a1.2).bind fun (a5 : List PQ) => some a5)))))
def abm (fu : Nat) (a2 : List PQ) (a3 : Int) : Nat → Int → Int → Option Int
  | 0, _, _ => none
  | a4 + 1, a0, a1 => (if a0 < a1 then (gd (abx (a0 + a1)) <| (gd (0 ≤ (zaa .i64 ((zaa .u64 (a0 + a1)) / 2)) ∧ (zaa .i64 ((zaa .u64 (a0 + a1)) / 2)) < (a2.length : Int)) <| (gd (0 ≤ (zaa .i64 ((zaa .u64 (a0 + a1)) / 2)) ∧ (zaa .i64 ((zaa .u64 (a0 + a1)) / 2)) < (a2.length : Int)) <| (gd (0 ≤ a3 ∧ a3 < (a2.length : Int)) <| (gd (0 ≤ a3 ∧ a3 < (a2.length : Int)) <| ((aht fu ((el a2 (zaa .i64 ((zaa .u64 (a0 + a1)) / 2))).1, (el a2 (zaa .i64 ((zaa .u64 (a0 + a1)) / 2))).2.1, ((el a2 (zaa .i64 ((zaa .u64 (a0 + a1)) / 2))).2.2)) ((el a2 a3).1, (el a2 a3).2.1, ((el a2 a3).2.2))).bind fun (a5 : Int) => (if a5 < (0 : Int) then (gd (abx ((zaa .i64 ((zaa .u64 (a0 + a1)) / 2)) + (1 : Int))) <| (abm fu a2 a3 a4 ((zaa .i64 ((zaa .u64 (a0 + a1)) / 2)) + (1 : Int)) a1)) else (abm fu a2 a3 a4 a0 (zaa .i64 ((zaa .u64 (a0 + a1)) / 2)))))))))) else some a0)
def acq (fu : Nat) (a2 : Int) : Nat → (List PQ) → Int → Option (List PQ)
  | 0, _, _ => none
  | a3 + 1, a1, a0 => (gd (abx (a2 - (1 : Int))) <| (if a0 < (a2 - (1 : Int)) then (gd (abx (a0 + (1 : Int))) <| (gd (abx (a0 + (1 : Int))) <| (gd (0 ≤ (a0 + (1 : Int)) ∧ (a0 + (1 : Int)) < (a1.length : Int)) <| (gd (0 ≤ (a0 + (1 : Int)) ∧ (a0 + (1 : Int)) < (a1.length : Int)) <| (gd (0 ≤ a0 ∧ a0 < (a1.length : Int)) <| (gd (0 ≤ a0 ∧ a0 < (a1.length : Int)) <| (gd (0 ≤ a0 ∧ a0 < (a1.length : Int)) <| (gd (0 ≤ a0 ∧ a0 < (a1.length : Int)) <| (gd (0 ≤ (a0 + (1 : Int)) ∧ (a0 + (1 : Int)) < ((zal a1 (zac a0) ((el a1 (a0 + (1 : Int))).1, (el a1 (a0 + (1 : Int))).2.1, ((el a1 (a0 + (1 : Int))).2.2))).length : Int)) <| (gd (0 ≤ (a0 + (1 : Int)) ∧ (a0 + (1 : Int)) < ((zal a1 (zac a0) ((el a1 (a0 + (1 : Int))).1, (el a1 (a0 + (1 : Int))).2.1, ((el a1 (a0 + (1 : Int))).2.2))).length : Int)) <| (gd (abx (a0 + (1 : Int))) <| (acq fu a2 a3 (zal (zal a1 (zac a0) ((el a1 (a0 + (1 : Int))).1, (el a1 (a0 + (1 : Int))).2.1, ((el a1 (a0 + (1 : Int))).2.2))) (zac (a0 + (1 : Int))) ((el a1 a0).1, (el a1 a0).2.1, ((el a1 a0).2.2))) (a0 + (1 : Int)))))))))))))) else some a1))
def abl (fu : Nat) (a2 : List PQ) (a3 : Int) : Nat → Int → Int → Option Int
  | 0, _, _ => none
  | a4 + 1, a0, a1 => (if a0 < a1 then (gd (abx (a0 + a1)) <| (gd (0 ≤ a3 ∧ a3 < (a2.length : Int)) <| (gd (0 ≤ a3 ∧ a3 < (a2.length : Int)) <| (gd (0 ≤ (zaa .i64 ((zaa .u64 (a0 + a1)) / 2)) ∧ (zaa .i64 ((zaa .u64 (a0 + a1)) / 2)) < (a2.length : Int)) <| (gd (0 ≤ (zaa .i64 ((zaa .u64 (a0 + a1)) / 2)) ∧ (zaa .i64 ((zaa .u64 (a0 + a1)) / 2)) < (a2.length : Int)) <| ((aht fu ((el a2 a3).1, (el a2 a3).2.1, ((el a2 a3).2.2)) ((el a2 (zaa .i64 ((zaa .u64 (a0 + a1)) / 2))).1, (el a2 (zaa .i64 ((zaa .u64 (a0 + a1)) / 2))).2.1, ((el a2 (zaa .i64 ((zaa .u64 (a0 + a1)) / 2))).2.2))).bind fun (a5 : Int) => (if a5 < (0 : Int) then (abl fu a2 a3 a4 a0 (zaa .i64 ((zaa .u64 (a0 + a1)) / 2))) else (gd (abx ((zaa .i64 ((zaa .u64 (a0 + a1)) / 2)) + (1 : Int))) <| (abl fu a2 a3 a4 ((zaa .i64 ((zaa .u64 (a0 + a1)) / 2)) + (1 : Int)) a1))))))))) else some a0)
def acp (fu : Nat) (a2 : Int) : Nat → (List PQ) → Int → Option (List PQ)
  | 0, _, _ => none
  | a3 + 1, a1, a0 => (if a2 < a0 then (gd (abx (a0 - (1 : Int))) <| (gd (abx (a0 - (1 : Int))) <| (gd (0 ≤ (a0 - (1 : Int)) ∧ (a0 - (1 : Int)) < (a1.length : Int)) <| (gd (0 ≤ (a0 - (1 : Int)) ∧ (a0 - (1 : Int)) < (a1.length : Int)) <| (gd (0 ≤ a0 ∧ a0 < (a1.length : Int)) <| (gd (0 ≤ a0 ∧ a0 < (a1.length : Int)) <| (gd (0 ≤ a0 ∧ a0 < (a1.length : Int)) <| (gd (0 ≤ a0 ∧ a0 < (a1.length : Int)) <| (gd (0 ≤ (a0 - (1 : Int)) ∧ (a0 - (1 : Int)) < ((zal a1 (zac a0) ((el a1 (a0 - (1 : Int))).1, (el a1 (a0 - (1 : Int))).2.1, ((el a1 (a0 - (1 : Int))).2.2))).length : Int)) <| (gd (0 ≤ (a0 - (1 : Int)) ∧ (a0 - (1 : Int)) < ((zal a1 (zac a0) ((el a1 (a0 - (1 : Int))).1, (el a1 (a0 - (1 : Int))).2.1, ((el a1 (a0 - (1 : Int))).2.2))).length : Int)) <| (gd (abx (a0 - (1 : Int))) <| (acp fu a2 a3 (zal (zal a1 (zac a0) ((el a1 (a0 - (1 : Int))).1, (el a1 (a0 - (1 : Int))).2.1, ((el a1 (a0 - (1 : Int))).2.2))) (zac (a0 - (1 : Int))) ((el a1 a0).1, (el a1 a0).2.1, ((el a1 a0).2.2))) (a0 - (1 : Int)))))))))))))) else some a1)
def abk (fu : Nat) (a2 : List PQ) (a3 : Int) (a4 : Int) (a5 : Int) : Nat → Int → Int → Option Int
  | 0, _, _ => none
  | a6 + 1, a0, a1 => (if a0 < a1 then (gd (abx (a0 + a1)) <| (gd (abx ((((zaa .i64 ((zaa .u64 (a3 + a5)) / 2)) + a4) - (1 : Int)) - (zaa .i64 ((zaa .u64 (a0 + a1)) / 2)))) <| (gd (0 ≤ ((((zaa .i64 ((zaa .u64 (a3 + a5)) / 2)) + a4) - (1 : Int)) - (zaa .i64 ((zaa .u64 (a0 + a1)) / 2))) ∧ ((((zaa .i64 ((zaa .u64 (a3 + a5)) / 2)) + a4) - (1 : Int)) - (zaa .i64 ((zaa .u64 (a0 + a1)) / 2))) < (a2.length : Int)) <| (gd (0 ≤ ((((zaa .i64 ((zaa .u64 (a3 + a5)) / 2)) + a4) - (1 : Int)) - (zaa .i64 ((zaa .u64 (a0 + a1)) / 2))) ∧ ((((zaa .i64 ((zaa .u64 (a3 + a5)) / 2)) + a4) - (1 : Int)) - (zaa .i64 ((zaa .u64 (a0 + a1)) / 2))) < (a2.length : Int)) <| (gd (0 ≤ (zaa .i64 ((zaa .u64 (a0 + a1)) / 2)) ∧ (zaa .i64 ((zaa .u64 (a0 + a1)) / 2)) < (a2.length : Int)) <| (gd (0 ≤ (zaa .i64 ((zaa .u64 (a0 + a1)) / 2)) ∧ (zaa .i64 ((zaa .u64 (a0 + a1)) / 2)) < (a2.length : Int)) <| ((aht fu ((el a2 ((((zaa .i64 ((zaa .u64 (a3 + a5)) / 2)) + a4) - (1 : Int)) - (zaa .i64 ((zaa .u64 (a0 + a1)) / 2)))).1, (el a2 ((((zaa .i64 ((zaa .u64 (a3 + a5)) / 2)) + a4) - (1 : Int)) - (zaa .i64 ((zaa .u64 (a0 + a1)) / 2)))).2.1, ((el a2 ((((zaa .i64 ((zaa .u64 (a3 + a5)) / 2)) + a4) - (1 : Int)) - (zaa .i64 ((zaa .u64 (a0 + a1)) / 2)))).2.2)) ((el a2 (zaa .i64 ((zaa .u64 (a0 + a1)) / 2))).1, (el a2 (zaa .i64 ((zaa .u64 (a0 + a1)) / 2))).2.1, ((el a2 (zaa .i64 ((zaa .u64 (a0 + a1)) / 2))).2.2))).bind fun (a7 : Int) => (if a7 < (0 : Int) then (abk fu a2 a3 a4 a5 a6 a0 (zaa .i64 ((zaa .u64 (a0 + a1)) / 2))) else (gd (abx ((zaa .i64 ((zaa .u64 (a0 + a1)) / 2)) + (1 : Int))) <| (abk fu a2 a3 a4 a5 a6 ((zaa .i64 ((zaa .u64 (a0 + a1)) / 2)) + (1 : Int)) a1)))))))))) else some a0)
def abg : Nat → (List PQ) → Int → Int → Int → Option (List PQ)
  | 0, _, _, _, _ => none
  | fu + 1, a4, a0, a2, a1 => (((gd (abx (a2 - a0)) <| (if (a2 - a0) = (1 : Int) then (((abm fu a4 a0 fu a2 a1)).bind fun (a8 : Int) => (((acq fu a8 fu a4 a0)).bind fun (a9 : List PQ) => some (.inr a9))) else some (.inl ())))).bind fun (b0 : (Unit ⊕ (List PQ))) => zay (fun (c0 : Unit) => (((gd (abx (a1 - a2)) <| (if (a1 - a2) = (1 : Int) then (((abl fu a4 a2 fu a0 a2)).bind fun (b1 : Int) => (((acp fu b1 fu a4 a2)).bind fun (b2 : List PQ) => some (.inr b2))) else some (.inl ())))).bind fun (b3 : (Unit ⊕ (List PQ))) => zay (fun (c1 : Unit) => (gd (abx (a0 + a1)) <| (gd (abx ((zaa .i64 ((zaa .u64 (a0 + a1)) / 2)) + a2)) <| (((if (zaa .i64 ((zaa .u64 (a0 + a1)) / 2)) < a2 then (gd (abx (((zaa .i64 ((zaa .u64 (a0 + a1)) / 2)) + a2) - a1)) <| some (((zaa .i64 ((zaa .u64 (a0 + a1)) / 2)) + a2) - a1, zaa .i64 ((zaa .u64 (a0 + a1)) / 2))) else some (a0, a2))).bind fun (a5 : (Int × Int)) => (gd (abx (((zaa .i64 ((zaa .u64 (a0 + a1)) / 2)) + a2) - (1 : Int))) <| (((abk fu a4 a0 a2 a1 fu a5.1 a5.2)).bind fun (a3 : Int) => (gd (abx (((zaa .i64 ((zaa .u64 (a0 + a1)) / 2)) + a2) - a3)) <| (((((if a3 < a2 then some (decide (a2 < (((zaa .i64 ((zaa .u64 (a0 + a1)) / 2)) + a2) - a3))) else some false)).bind fun (b4 : Bool) => (bif b4 then ((aef fu a4 a3 a2 (((zaa .i64 ((zaa .u64 (a0 + a1)) / 2)) + a2) - a3)).bind fun (b5 : List PQ) => some b5) else some a4))).bind fun (a6 : List PQ) => (((((if a0 < a3 then some (decide (a3 < (zaa .i64 ((zaa .u64 (a0 + a1)) / 2)))) else some false)).bind fun (b6 : Bool) => (bif b6 then ((abg fu a6 a0 a3 (zaa .i64 ((zaa .u64 (a0 + a1)) / 2))).bind fun (b7 : List PQ) => some b7) else some a6))).bind fun (a7 : List PQ) => (((if (zaa .i64 ((zaa .u64 (a0 + a1)) / 2)) < (((zaa .i64 ((zaa .u64 (a0 + a1)) / 2)) + a2) - a3) then some (decide ((((zaa .i64 ((zaa .u64 (a0 + a1)) / 2)) + a2) - a3) < a1)) else some false)).bind fun (b8 : Bool) => (bif b8 then ((abg fu a7 (zaa .i64 ((zaa .u64 (a0 + a1)) / 2)) (((zaa .i64 ((zaa .u64 (a0 + a1)) / 2)) + a2) - a3) a1).bind fun (b9 : List PQ) => some b9) else some a7))))))))))) (fun q => some q) b3)) (fun q => some q) b0)
def acw (fu : Nat) (a1 : Int) : Nat → (List PQ) → Int → Int → Option ((List PQ) × Int)
  | 0, _, _, _ => none
  | a4 + 1, a2, a3, a0 => (if a0 ≤ a1 then ((acm fu a2 a3 a0).bind fun (a5 : List PQ) => (gd (abx (a0 + (20 : Int))) <| (acw fu a1 a4 a5 a0 (a0 + (20 : Int))))) else some (a2, a3))
def acv (fu : Nat) (a3 : Int) (a0 : Int) : Nat → (List PQ) → Int → Int → Option ((List PQ) × Int)
  | 0, _, _, _ => none
  | a5 + 1, a4, a2, a1 => (if a1 ≤ a3 then (gd (abx (a2 + a0)) <| ((abg fu a4 a2 (a2 + a0) a1).bind fun (a6 : List PQ) => (gd (abx ((2 : Int) * a0)) <| (gd (abx (a1 + ((2 : Int) * a0))) <| (acv fu a3 a0 a5 a6 a1 (a1 + ((2 : Int) * a0))))))) else some (a4, a2))
def abv (fu : Nat) (a1 : Int) : Nat → (List PQ) → Int → Option (List PQ)
  | 0, _, _ => none
  | a3 + 1, a4, a0 => (if a0 < a1 then (gd (abx ((2 : Int) * a0)) <| (((acv fu a1 a0 fu a4 (0 : Int) ((2 : Int) * a0))).bind fun (a2 : ((List PQ) × Int)) => (gd (abx (a2.2 + a0)) <| (if (a2.2 + a0) < a1 then ((abg fu a2.1 a2.2 (a2.2 + a0) a1).bind fun (a5 : List PQ) => (gd (abx (a0 * (2 : Int))) <| (abv fu a1 a3 a5 (a0 * (2 : Int))))) else (gd (abx (a0 * (2 : Int))) <| (abv fu a1 a3 a2.1 (a0 * (2 : Int)))))))) else some a4)
def aee (fu : Nat) (a2 : List PQ) (a0 : Int) : Option (List PQ) :=
  (((acw fu a0 fu a2 (0 : Int) (20 : Int))).bind fun (a1 : ((List PQ) × Int)) => ((acm fu a1.1 a1.2 a0).bind fun (a3 : List PQ) => (abv fu a0 fu a3 (20 : Int))))
def aea (fu : Nat) (a0 : List PQ) : Option (List PQ) :=
  ((aee fu a0 (a0.length : Int)).bind fun (y1 : List PQ) => some y1)
open List renaming take → zaz
def aiw (fu : Nat) (a0 : List PQ) : Option (List PQ) :=
  (gd ((0 + a0.length) * 40 ≤ 140737488355328) <| ((aea fu a0).bind fun (y8 : List PQ) => some y8))
def ako (fu : Nat) : Nat → Int → UInt8 → Str → Int → (List PQ) → Option (Int × UInt8 × Str × Int × (List PQ))
  | 0, _, _, _, _, _ => none
  | a5 + 1, a6, a3, a2, a0, a4 => (((if a3 = (0 : UInt8) then ((abn fu (a2, a0) (59 : UInt8)).bind fun (a7 : Bool) => some a7) else none)).bind fun (a8 : Bool) => (bif a8 then (gd (abx (a0 + (1 : Int))) <| ((aeu fu a2 (a0 + (1 : Int)) ([59, 63] : Str)).bind fun (a9 : Int) => ((ala fu (a2, a0 + (1 : Int)) a4 a9 (1 : Int)).bind fun (a1 : ((List PQ) × Int × UInt8 × (Str × Int))) => (ako fu a5 a1.2.1 a1.2.2.1 a1.2.2.2.1 a1.2.2.2.2 a1.1)))) else some (a6, a3, a2, a0, a4)))
def amv (fu : Nat) (a0 : (Int × UInt8 × Str × Int × (List PQ))) : Nat → Option Unit
  | 0 => none
  | a3 + 1 => (((if a0.2.1 = (0 : UInt8) then ((aex fu (a0.2.2.1, a0.2.2.2.1)).bind fun (a1 : Bool) => some (!a1)) else none)).bind fun (a2 : Bool) => (bif a2 then none else some ()))
def apy (fu : Nat) (s_0 : Str) : Option ((Str × Str × Str × Int × (List PQ) × (List PQ)) × Int × UInt8) :=
  (if (1024 : Int) < (s_0.length : Int) then none else (if (ixb (· == (58 : UInt8)) s_0) < (0 : Int) then none else (gd (abx ((ixb (· == (58 : UInt8)) s_0) + (1 : Int))) <| (gd (0 ≤ (ixb (· == (58 : UInt8)) s_0) ∧ (ixb (· == (58 : UInt8)) s_0) ≤ (s_0.length : Int)) <| ((adw fu (zaz (zac (ixb (· == (58 : UInt8)) s_0)) s_0)).bind fun (a1 : Str) => (if a1 = ([115, 105, 112] : Str) then (if a1 = ([115, 105, 112] : Str) then ((akz fu (s_0, (ixb (· == (58 : UInt8)) s_0) + (1 : Int)) (a1, ([] : Str), ([] : Str), (0 : Int), ([] : List PQ), ([] : List PQ))).bind fun (a0 : (Int × UInt8 × (Str × Int) × (Str × Str × Str × Int × (List PQ) × (List PQ)))) => (((ako fu fu a0.1 a0.2.1 a0.2.2.1.1 a0.2.2.1.2 a0.2.2.2.2.2.2.2.1)).bind fun (a2 : (Int × UInt8 × Str × Int × (List PQ))) => (((amv fu a2 fu)).bind fun (a5 : Unit) => (if a2.2.1 = (0 : UInt8) then ((aiw fu a2.2.2.2.2).bind fun (a3 : List PQ) => ((aiw fu a0.2.2.2.2.2.2.2.2).bind fun (a4 : List PQ) => some ((a0.2.2.2.1, a0.2.2.2.2.1, a0.2.2.2.2.2.1, a0.2.2.2.2.2.2.1, a3, a4), (0 : Int), (0 : UInt8)))) else none)))) else none) else none))))))
def akl (fu : Nat) (a0 : (Str × Int)) (a2 : (Str × (Str × Str × Str × Int × (List PQ) × (List PQ)) × (List PQ))) : Option (Int × UInt8 × (Str × Int) × (Str × (Str × Str × Str × Int × (List PQ) × (List PQ)) × (List PQ))) :=
  ((abn fu a0 (60 : UInt8)).bind fun (a4 : Bool) => (bif a4 then (gd (abx (a0.2 + (1 : Int))) <| ((aeu fu a0.1 (a0.2 + (1 : Int)) ([62] : Str)).bind fun (a1 : Int) => (if a1 = (a0.1.length : Int) then none else (gd (abx (a1 + (1 : Int))) <| (gd (0 ≤ (a0.2 + (1 : Int)) ∧ (a0.2 + (1 : Int)) ≤ a1 ∧ a1 ≤ (a0.1.length : Int)) <| ((apy fu (sub a0.1 (a0.2 + (1 : Int)) a1)).bind fun (a3 : ((Str × Str × Str × Int × (List PQ) × (List PQ)) × Int × UInt8)) => (if a3.2.2 = (0 : UInt8) then some ((0 : Int), (0 : UInt8), (a0.1, a1 + (1 : Int)), (a2.1, a3.1, a2.2.2)) else none))))))) else none))
def ahz (fu : Nat) (a0 : UInt8) : Option Bool :=
  (((if (32 : UInt8) ≤ a0 then some (decide (a0 ≤ (126 : UInt8))) else some false)).bind fun (v5 : Bool) => some v5)
def aha (fu : Nat) (a0 : UInt8) : Option Bool :=
  (((if a0 < (32 : UInt8) then (if a0 = (9 : UInt8) then some (decide (a0 = (127 : UInt8))) else some true) else some (decide (a0 = (127 : UInt8))))).bind fun (v6 : Bool) => some v6)
def aem (fu : Nat) (s_0 : Str) : Nat → (List UInt8) → Int → Option (((List UInt8) × Int) ⊕ (Str × Int × UInt8))
  | 0, _, _ => none
  | a2 + 1, a1, a0 => (if a0 < (s_0.length : Int) then (gd (0 ≤ a0 ∧ a0 < (s_0.length : Int)) <| (if (at_ s_0 a0) = (34 : UInt8) then some (.inl (a1, a0)) else (if (at_ s_0 a0) = (92 : UInt8) then (gd (abx (a0 + (1 : Int))) <| (if (a0 + (1 : Int)) = (s_0.length : Int) then some (.inr (([] : Str), (s_0.length : Int), (6 : UInt8))) else (gd (abx (a0 + (1 : Int))) <| (gd (0 ≤ (a0 + (1 : Int)) ∧ (a0 + (1 : Int)) < (s_0.length : Int)) <| ((ahz fu (at_ s_0 (a0 + (1 : Int)))).bind fun (a3 : Bool) => (bif (!a3) then some (.inr (([] : Str), a0, (5 : UInt8))) else (gd (abx (a0 + (1 : Int))) <| (gd (0 ≤ (a0 + (1 : Int)) ∧ (a0 + (1 : Int)) < (s_0.length : Int)) <| (gd ((a1.length + ([at_ s_0 (a0 + (1 : Int))] : List UInt8).length) * 1 ≤ 140737488355328) <| (gd (abx ((a0 + (1 : Int)) + (1 : Int))) <| (aem fu s_0 a2 (a1 ++ ([at_ s_0 (a0 + (1 : Int))] : List UInt8)) ((a0 + (1 : Int)) + (1 : Int))))))))))))) else ((aha fu (at_ s_0 a0)).bind fun (a4 : Bool) => (bif a4 then some (.inr (([] : Str), a0, (5 : UInt8))) else (gd (0 ≤ a0 ∧ a0 < (s_0.length : Int)) <| (gd ((a1.length + ([at_ s_0 a0] : List UInt8).length) * 1 ≤ 140737488355328) <| (gd (abx (a0 + (1 : Int))) <| (aem fu s_0 a2 (a1 ++ ([at_ s_0 a0] : List UInt8)) (a0 + (1 : Int))))))))))) else some (.inl (a1, a0)))
def als (fu : Nat) (s_0 : Str) (a0 : Int) : Option (Str × Int × UInt8) :=
  (((if a0 < (0 : Int) then some true else some (decide ((s_0.length : Int) < a0)))).bind fun (v5 : Bool) => (bif v5 then some (([] : Str), (0 : Int), (2 : UInt8)) else (((if a0 = (s_0.length : Int) then some true else (gd (0 ≤ a0 ∧ a0 < (s_0.length : Int)) <| some (!decide ((at_ s_0 a0) = (34 : UInt8)))))).bind fun (a2 : Bool) => (bif a2 then some (([] : Str), a0, (5 : UInt8)) else (gd (abx (a0 + (1 : Int))) <| (((aem fu s_0 fu ([] : List UInt8) (a0 + (1 : Int)))).bind fun (a3 : (((List UInt8) × Int) ⊕ (Str × Int × UInt8))) => zay (fun (a1 : ((List UInt8) × Int)) => (if (s_0.length : Int) ≤ a1.2 then some (([] : Str), (s_0.length : Int), (6 : UInt8)) else (gd (abx (a1.2 + (1 : Int))) <| some (a1.1, a1.2 + (1 : Int), (0 : UInt8))))) (fun q => some q) a3))))))
def agz (fu : Nat) (a7 : (Str × Int)) : Option (PQ × Int × UInt8 × (Str × Int)) :=
  ((aew fu a7).bind fun (y4 : (Str × (Str × Int))) => ((adw fu y4.1).bind fun (a2 : Str) => (if a2 = ([] : Str) then some ((([] : Str), ([] : Str), false), y4.2.2, (5 : UInt8), y4.2) else ((adc fu y4.2).bind fun (a3 : (Str × Int)) => ((abn fu a3 (61 : UInt8)).bind fun (a8 : Bool) => (bif (!a8) then some ((a2, ([] : Str), false), (0 : Int), (0 : UInt8), a3) else (gd (abx (a3.2 + (1 : Int))) <| ((adc fu (a3.1, a3.2 + (1 : Int))).bind fun (a0 : (Str × Int)) => ((abn fu a0 (34 : UInt8)).bind fun (a9 : Bool) => (bif a9 then ((als fu a0.1 a0.2).bind fun (a4 : (Str × Int × UInt8)) => (if a4.2.2 = (0 : UInt8) then some ((a2, a4.1, true), (0 : Int), (0 : UInt8), (a0.1, a4.2.1)) else some ((([] : Str), ([] : Str), false), a4.2.1, a4.2.2, a0))) else ((abn fu a0 (91 : UInt8)).bind fun (b0 : Bool) => (bif b0 then ((aeu fu a0.1 a0.2 ([93] : Str)).bind fun (a1 : Int) => (gd (abx (a1 + (1 : Int))) <| (gd (0 ≤ a0.2 ∧ a0.2 ≤ (min (a1 + (1 : Int)) (a0.1.length : Int)) ∧ (min (a1 + (1 : Int)) (a0.1.length : Int)) ≤ (a0.1.length : Int)) <| ((agq fu (sub a0.1 a0.2 (min (a1 + (1 : Int)) (a0.1.length : Int)))).bind fun (a6 : (Str × Bool)) => (bif (!a6.2) then some ((([] : Str), ([] : Str), false), a0.2, (5 : UInt8), a0) else (gd (abx (a1 + (1 : Int))) <| some ((a2, a6.1, true), (0 : Int), (0 : UInt8), (a0.1, a1 + (1 : Int))))))))) else ((aew fu a0).bind fun (a5 : (Str × (Str × Int))) => (if a5.1 = ([] : Str) then some ((([] : Str), ([] : Str), false), a5.2.2, (5 : UInt8), a5.2) else some ((a2, a5.1, true), (0 : Int), (0 : UInt8), a5.2)))))))))))))))
def afo (fu : Nat) : Nat → (List PQ) → Str → Int → Option ((List PQ) × Int × UInt8)
  | 0, _, _, _ => none
  | a5 + 1, a2, a6, a7 => ((adc fu (a6, a7)).bind fun (a1 : (Str × Int)) => ((aex fu a1).bind fun (a8 : Bool) => (bif a8 then some (a2, (0 : Int), (0 : UInt8)) else ((abn fu a1 (59 : UInt8)).bind fun (a9 : Bool) => (bif (!a9) then some (([] : List PQ), a1.2, (5 : UInt8)) else (gd (abx (a1.2 + (1 : Int))) <| ((adc fu (a1.1, a1.2 + (1 : Int))).bind fun (a4 : (Str × Int)) => ((agz fu a4).bind fun (a0 : (PQ × Int × UInt8 × (Str × Int))) => (((if a0.2.2.1 = (0 : UInt8) then ((aky fu a2 a0.1.1).bind fun (b0 : UInt8) => some (a4.2, b0)) else some (a0.2.1, a0.2.2.1))).bind fun (a3 : (Int × UInt8)) => (if a3.2 = (0 : UInt8) then (gd ((a2.length + ([a0.1] : List PQ).length) * 40 ≤ 140737488355328) <| (afo fu a5 (a2 ++ ([a0.1] : List PQ)) a0.2.2.2.1 a0.2.2.2.2)) else some (([] : List PQ), a3.1, a3.2)))))))))))
def ahw (fu : Nat) (s_0 : Str) : Option ((List PQ) × Int × UInt8) :=
  (afo fu fu ([] : List PQ) s_0 (0 : Int))
def alc (fu : Nat) (s_0 : Str) : Option ((Str × (Str × Str × Str × Int × (List PQ) × (List PQ)) × (List PQ)) × Int × UInt8) :=
  (if (1024 : Int) < (s_0.length : Int) then none else ((adc fu (s_0, (0 : Int))).bind fun (y8 : (Str × Int)) => ((abn fu y8 (34 : UInt8)).bind fun (a3 : Bool) => (bif a3 then none else (gd (s_0.length ≤ 1000000000) <| (bif (Lib.contains s_0 ([60] : Str)) then ((aiv fu y8 (([] : Str), (([] : Str), ([] : Str), ([] : Str), (0 : Int), ([] : List PQ), ([] : List PQ)), ([] : List PQ))).bind fun (a1 : (Int × UInt8 × (Str × Int) × (Str × (Str × Str × Str × Int × (List PQ) × (List PQ)) × (List PQ)))) => (if a1.2.1 = (0 : UInt8) then ((akl fu a1.2.2.1 a1.2.2.2).bind fun (a0 : (Int × UInt8 × (Str × Int) × (Str × (Str × Str × Str × Int × (List PQ) × (List PQ)) × (List PQ)))) => (if a0.2.1 = (0 : UInt8) then (gd (0 ≤ a0.2.2.1.2 ∧ a0.2.2.1.2 ≤ (s_0.length : Int)) <| ((ahw fu (zam (zac a0.2.2.1.2) s_0)).bind fun (a2 : ((List PQ) × Int × UInt8)) => (gd (abx (a2.2.1 + a0.2.2.1.2)) <| (if a2.2.2 = (0 : UInt8) then some ((a0.2.2.2.1, a0.2.2.2.2.1, a2.1), (0 : Int), (0 : UInt8)) else none)))) else none)) else none)) else none))))))
def aoy (fu : Nat) (a0 : Str) : Option ((Str × (Str × Str × Str × Int × (List PQ) × (List PQ)) × (List PQ)) × UInt8) :=
  ((ajd fu a0).bind fun (y4 : Str) => ((alc fu y4).bind fun (y9 : ((Str × (Str × Str × Str × Int × (List PQ) × (List PQ)) × (List PQ)) × Int × UInt8)) => some (y9.1, y9.2.2)))
def afl (fu : Nat) (s_0 : Str) : Nat → (List UInt8) → Int → Option ((List UInt8) ⊕ (Str × UInt8))
  | 0, _, _ => none
  | a3 + 1, a1, a0 => (if a0 < (s_0.length : Int) then (gd (0 ≤ a0 ∧ a0 < (s_0.length : Int)) <| ((aha fu (at_ s_0 a0)).bind fun (a4 : Bool) => (bif a4 then some (.inr (([] : Str), (5 : UInt8))) else (((((if (at_ s_0 a0) = (34 : UInt8) then some true else some (decide ((at_ s_0 a0) = (92 : UInt8))))).bind fun (a5 : Bool) => (bif a5 then (gd ((a1.length + ([(92 : UInt8)] : List UInt8).length) * 1 ≤ 140737488355328) <| some (a1 ++ ([(92 : UInt8)] : List UInt8))) else some a1))).bind fun (a2 : List UInt8) => (gd (0 ≤ a0 ∧ a0 < (s_0.length : Int)) <| (gd ((a2.length + ([at_ s_0 a0] : List UInt8).length) * 1 ≤ 140737488355328) <| (gd (abx (a0 + (1 : Int))) <| (afl fu s_0 a3 (a2 ++ ([at_ s_0 a0] : List UInt8)) (a0 + (1 : Int)))))))))) else some (.inl a1))
def alx (fu : Nat) (s_0 : Str) : Option (Str × UInt8) :=
  (gd (abx ((s_0.length : Int) + (2 : Int))) <| (gd (0 ≤ ((s_0.length : Int) + (2 : Int)) ∧ (1 : Int) * ((s_0.length : Int) + (2 : Int)) ≤ 281474976710656) <| (gd ((([] : List UInt8).length + ([(34 : UInt8)] : List UInt8).length) * 1 ≤ 140737488355328) <| (((afl fu s_0 fu (([] : List UInt8) ++ ([(34 : UInt8)] : List UInt8)) (0 : Int))).bind fun (a1 : ((List UInt8) ⊕ (Str × UInt8))) => zay (fun (a0 : List UInt8) => (gd ((a0.length + ([(34 : UInt8)] : List UInt8).length) * 1 ≤ 140737488355328) <| some (a0 ++ ([(34 : UInt8)] : List UInt8), (0 : UInt8)))) (fun q => some q) a1))))
def aoe (fu : Nat) (a0 : UInt8) : Option Bool :=
  (((if a0 < (32 : UInt8) then none else some ())).bind fun (v4 : Unit) => some (decide (a0 = (127 : UInt8))))
def akm (fu : Nat) (s_0 : Str) : Nat → Int → Option Unit
  | 0, _ => none
  | a1 + 1, a0 => (if a0 < (s_0.length : Int) then (gd (0 ≤ a0 ∧ a0 < (s_0.length : Int)) <| ((aoe fu (at_ s_0 a0)).bind fun (a2 : Bool) => (bif a2 then none else (gd (abx (a0 + (1 : Int))) <| (akm fu s_0 a1 (a0 + (1 : Int))))))) else some ())
def alu (fu : Nat) (s_0 : Str) : Option Bool :=
  (((akm fu s_0 fu (0 : Int))).bind fun (a0 : Unit) => some true)
def ajr (fu : Nat) (a1 : List PQ) (a4 : Int) : Nat → (List PQ) → Int → Option (List PQ)
  | 0, _, _ => none
  | a5 + 1, a3, a0 => (if a0 < (a1.length : Int) then (gd (0 ≤ a0 ∧ a0 < (a1.length : Int)) <| (gd (0 ≤ a0 ∧ a0 < (a1.length : Int)) <| ((adw fu ((el a1 a0).1)).bind fun (a2 : Str) => (((if a2 = ([] : Str) then none else ((alu fu a2).bind fun (a6 : Bool) => (bif (!a6) then none else ((alu fu ((el a1 a0).2.1)).bind fun (a7 : Bool) => (bif (!a7) then none else ((ain fu a3 a2).bind fun (a8 : Bool) => some a8))))))).bind fun (a9 : Bool) => (bif a9 then none else (((if a4 = (2 : Int) then none else (if a4 = (1 : Int) then some () else none))).bind fun (b0 : Unit) => (bif (!(((el a1 a0).2.2) == (!decide (((el a1 a0).2.1) = ([] : Str))))) then none else (gd ((a3.length + ([(a2, (el a1 a0).2.1, ((el a1 a0).2.2))] : List PQ).length) * 40 ≤ 140737488355328) <| (gd (abx (a0 + (1 : Int))) <| (ajr fu a1 a4 a5 (a3 ++ ([(a2, (el a1 a0).2.1, ((el a1 a0).2.2))] : List PQ)) (a0 + (1 : Int)))))))))))) else some a3)
def amq (fu : Nat) (a0 : List PQ) (a1 : Int) : Option ((List PQ) × Bool) :=
  (if (16 : Int) < (a0.length : Int) then none else (((ajr fu a0 a1 fu ([] : List PQ) (0 : Int))).bind fun (a2 : List PQ) => ((aiw fu a2).bind fun (a3 : List PQ) => some (a3, true))))
def aoz (fu : Nat) (a0 : (Str × Str × Str × Int × (List PQ) × (List PQ))) : Option ((Str × Str × Str × Int × (List PQ) × (List PQ)) × UInt8) :=
  ((adw fu a0.1).bind fun (y7 : Str) => (if y7 = ([115, 105, 112] : Str) then (if y7 = ([115, 105, 112] : Str) then ((agq fu a0.2.2.1).bind fun (a1 : (Str × Bool)) => (bif a1.2 then (if (0 : Int) ≤ a0.2.2.2.1 then (if a0.2.2.2.1 ≤ (65535 : Int) then ((alu fu a0.2.1).bind fun (a4 : Bool) => ((amq fu a0.2.2.2.2.1 (1 : Int)).bind fun (a2 : ((List PQ) × Bool)) => ((amq fu a0.2.2.2.2.2 (2 : Int)).bind fun (a3 : ((List PQ) × Bool)) => (((bif (!a4) then none else (bif (!a2.2) then none else some ()))).bind fun (a5 : Unit) => (bif (!a3.2) then none else some ((y7, a0.2.1, a1.1, a0.2.2.2.1, a2.1, a3.1), (0 : UInt8))))))) else none) else none) else none)) else none) else none))
def acf (fu : Nat) (a1 : (Unit × (List UInt8))) (a0 : Str) : Option (Int × Unit × (Unit × (List UInt8))) :=
  (gd ((a1.2.length + a0.length) * 1 ≤ 140737488355328) <| some ((a0.length : Int), (), ((), a1.2 ++ a0)))
open Go.Lib renaming join → zaB
open List renaming set → zal, take → zaz
def ajs (fu : Nat) (s_0 : Str) (a2 : Int) : Nat → (List UInt8) → Int → Option (List UInt8)
  | 0, _, _ => none
  | a3 + 1, a1, a0 => (if a0 < (s_0.length : Int) then (gd (0 ≤ a0 ∧ a0 < (s_0.length : Int)) <| ((ama fu (at_ s_0 a0) a2).bind fun (a4 : Bool) => (bif a4 then (gd (0 ≤ a0 ∧ a0 < (s_0.length : Int)) <| (gd ((a1.length + ([at_ s_0 a0] : List UInt8).length) * 1 ≤ 140737488355328) <| (gd (abx (a0 + (1 : Int))) <| (ajs fu s_0 a2 a3 (a1 ++ ([at_ s_0 a0] : List UInt8)) (a0 + (1 : Int)))))) else none))) else some a1)
def amr (fu : Nat) (s_0 : Str) (a0 : Int) : Option Str :=
  (gd (0 ≤ (s_0.length : Int) ∧ (1 : Int) * (s_0.length : Int) ≤ 281474976710656) <| (((ajs fu s_0 a0 fu ([] : List UInt8) (0 : Int))).bind fun (a1 : List UInt8) => some a1))
def akn (fu : Nat) (y4 : ((Str × Str × Str × Int × (List PQ) × (List PQ)) × UInt8)) : Nat → Int → (List UInt8) → Option (List UInt8)
  | 0, _, _ => none
  | a3 + 1, a0, a1 => (if a0 < (y4.1.2.2.2.2.1.length : Int) then (gd (0 ≤ a0 ∧ a0 < (y4.1.2.2.2.2.1.length : Int)) <| (gd (0 ≤ a0 ∧ a0 < (y4.1.2.2.2.2.1.length : Int)) <| ((amr fu ((el y4.1.2.2.2.2.1 a0).1) (1 : Int)).bind fun (a2 : Str) => (gd (([59] : Str).length + a2.length ≤ 9223372036854775807) <| ((acf fu ((), a1) (([59] : Str) ++ a2)).bind fun (a4 : (Int × Unit × (Unit × (List UInt8)))) => (bif ((el y4.1.2.2.2.2.1 a0).2.2) then none else (gd (abx (a0 + (1 : Int))) <| (akn fu y4 a3 (a0 + (1 : Int)) a4.2.2.2)))))))) else some a1)
def amu (fu : Nat) (y4 : ((Str × Str × Str × Int × (List PQ) × (List PQ)) × UInt8)) : Nat → Option Unit
  | 0 => none
  | a0 + 1 => (if (0 : Int) < (y4.1.2.2.2.2.2.length : Int) then none else some ())
def apx (fu : Nat) (a3 : (Str × Str × Str × Int × (List PQ) × (List PQ))) : Option (Str × UInt8) :=
  ((aoz fu a3).bind fun (y4 : ((Str × Str × Str × Int × (List PQ) × (List PQ)) × UInt8)) => (if y4.2 = (0 : UInt8) then (gd (y4.1.1.length + ([58] : Str).length ≤ 9223372036854775807) <| ((acf fu ((), ([] : List UInt8)) (y4.1.1 ++ ([58] : Str))).bind fun (a0 : (Int × Unit × (Unit × (List UInt8)))) => (((if y4.1.1 = ([116, 101, 108] : Str) then none else (if y4.1.2.1 = ([] : Str) then some a0.2.2.2 else ((amr fu y4.1.2.1 (0 : Int)).bind fun (a1 : Str) => (gd (a1.length + ([64] : Str).length ≤ 9223372036854775807) <| ((acf fu ((), a0.2.2.2) (a1 ++ ([64] : Str))).bind fun (a4 : (Int × Unit × (Unit × (List UInt8)))) => some a4.2.2.2)))))).bind fun (a5 : List UInt8) => ((acf fu ((), a5) y4.1.2.2.1).bind fun (a6 : (Int × Unit × (Unit × (List UInt8)))) => (if y4.1.2.2.2.1 = (0 : Int) then (((akn fu y4 fu (0 : Int) a6.2.2.2)).bind fun (a2 : List UInt8) => (((amu fu y4 fu)).bind fun (a7 : Unit) => (gd (a2.length ≤ 140737488355328) <| some (a2, (0 : UInt8))))) else none))))) else none))
def aco (fu : Nat) (a1 : List PQ) : Nat → Int → (List UInt8) → Option ((List UInt8) ⊕ (Str × UInt8))
  | 0, _, _ => none
  | a2 + 1, a0, a3 => (if a0 < (a1.length : Int) then (gd (0 ≤ a0 ∧ a0 < (a1.length : Int)) <| (gd (0 ≤ a0 ∧ a0 < (a1.length : Int)) <| ((((aie fu ((el a1 a0).1)).bind fun (a8 : Bool) => (bif (!a8) then some true else ((adw fu ((el a1 a0).1)).bind fun (a9 : Str) => (if ((el a1 a0).1) = a9 then (gd (0 ≤ a0 ∧ a0 ≤ (a1.length : Int)) <| ((ain fu (zaz (zac a0) a1) ((el a1 a0).1)).bind fun (b0 : Bool) => some b0)) else some true))))).bind fun (b1 : Bool) => (bif b1 then some (.inr (([] : Str), (2 : UInt8))) else (gd (([59] : Str).length + ((el a1 a0).1).length ≤ 9223372036854775807) <| ((acf fu ((), a3) (([59] : Str) ++ ((el a1 a0).1))).bind fun (a4 : (Int × Unit × (Unit × (List UInt8)))) => (bif (!((el a1 a0).2.2)) then (if ((el a1 a0).2.1) = ([] : Str) then (gd (abx (a0 + (1 : Int))) <| (aco fu a1 a2 (a0 + (1 : Int)) a4.2.2.2)) else some (.inr (([] : Str), (2 : UInt8)))) else ((((agq fu ((el a1 a0).2.1)).bind fun (a5 : (Str × Bool)) => ((((aie fu ((el a1 a0).2.1)).bind fun (b2 : Bool) => (bif (!b2) then (bif a5.2 then (if a5.1 = ((el a1 a0).2.1) then (gd (0 ≤ (0 : Int) ∧ (0 : Int) < (((el a1 a0).2.1).length : Int)) <| some (!decide ((at_ ((el a1 a0).2.1) (0 : Int)) = (91 : UInt8)))) else some true) else some true) else some false))).bind fun (b3 : Bool) => (bif b3 then ((alx fu ((el a1 a0).2.1)).bind fun (a6 : (Str × UInt8)) => (if a6.2 = (0 : UInt8) then some (.inl a6.1) else some (.inr (([] : Str), (2 : UInt8))))) else some (.inl ((el a1 a0).2.1)))))).bind fun (b4 : (Str ⊕ (Str × UInt8))) => zay (fun (a7 : Str) => (gd (([61] : Str).length + a7.length ≤ 9223372036854775807) <| ((acf fu ((), a4.2.2.2) (([61] : Str) ++ a7)).bind fun (b5 : (Int × Unit × (Unit × (List UInt8)))) => (gd (abx (a0 + (1 : Int))) <| (aco fu a1 a2 (a0 + (1 : Int)) b5.2.2.2))))) (fun q => some (.inr q)) b4)))))))) else some (.inl a3))
def acu (fu : Nat) (a0 : List PQ) : Option (Str × UInt8) :=
  (if (16 : Int) < (a0.length : Int) then some (([] : Str), (2 : UInt8)) else (((aco fu a0 fu (0 : Int) ([] : List UInt8))).bind fun (a2 : ((List UInt8) ⊕ (Str × UInt8))) => zay (fun (a1 : List UInt8) => (gd (a1.length ≤ 140737488355328) <| some (a1, (0 : UInt8)))) (fun q => some q) a2))
def alb (fu : Nat) (a2 : (Str × (Str × Str × Str × Int × (List PQ) × (List PQ)) × (List PQ))) : Option (Str × UInt8) :=
  ((alx fu a2.1).bind fun (y4 : (Str × UInt8)) => (if y4.2 = (0 : UInt8) then ((apx fu a2.2.1).bind fun (a0 : (Str × UInt8)) => (if a0.2 = (0 : UInt8) then ((aiw fu a2.2.2).bind fun (a3 : List PQ) => ((acu fu a3).bind fun (a1 : (Str × UInt8)) => (if a1.2 = (0 : UInt8) then (if a2.1 = ([] : Str) then (gd (([60] : Str).length + a0.1.length ≤ 9223372036854775807) <| (gd ((([60] : Str) ++ a0.1).length + ([62] : Str).length ≤ 9223372036854775807) <| (gd (((([60] : Str) ++ a0.1) ++ ([62] : Str)).length + a1.1.length ≤ 9223372036854775807) <| some (((([60] : Str) ++ a0.1) ++ ([62] : Str)) ++ a1.1, (0 : UInt8))))) else (gd (y4.1.length + ([32, 60] : Str).length ≤ 9223372036854775807) <| (gd ((y4.1 ++ ([32, 60] : Str)).length + a0.1.length ≤ 9223372036854775807) <| (gd (((y4.1 ++ ([32, 60] : Str)) ++ a0.1).length + ([62] : Str).length ≤ 9223372036854775807) <| (gd ((((y4.1 ++ ([32, 60] : Str)) ++ a0.1) ++ ([62] : Str)).length + a1.1.length ≤ 9223372036854775807) <| some ((((y4.1 ++ ([32, 60] : Str)) ++ a0.1) ++ ([62] : Str)) ++ a1.1, (0 : UInt8))))))) else none))) else none)) else none))
def arr (fu : Nat) (a0 : Str) (a1 : Str) : Option (Str × UInt8) :=
  ((apw fu a0).bind fun (a4 : Int) => (if a4 = (1 : Int) then (((if a0 = ([67, 111, 110, 116, 97, 99, 116] : Str) then ((ajd fu a1).bind fun (a5 : Str) => some (decide (a5 = ([42] : Str)))) else none)).bind fun (a6 : Bool) => (bif a6 then none else ((aoy fu a1).bind fun (a2 : ((Str × (Str × Str × Str × Int × (List PQ) × (List PQ)) × (List PQ)) × UInt8)) => (if a2.2 = (0 : UInt8) then ((alb fu a2.1).bind fun (a3 : (Str × UInt8)) => some (a3.1, a3.2)) else none)))) else none))
def aly (fu : Nat) (y1 : (Str × UInt8)) (a2 : ((List Str) × UInt8)) : Nat → (List Str) → Int → Option (List Str)
  | 0, _, _ => none
  | a4 + 1, a1, a0 => (if a0 < (a2.1.length : Int) then (gd (0 ≤ a0 ∧ a0 < (a1.length : Int)) <| (gd (0 ≤ a0 ∧ a0 < (a1.length : Int)) <| ((arr fu y1.1 (el a1 a0)).bind fun (a3 : (Str × UInt8)) => (gd (0 ≤ a0 ∧ a0 < (a1.length : Int)) <| (gd (0 ≤ a0 ∧ a0 < (a1.length : Int)) <| (if a3.2 = (0 : UInt8) then (gd (abx (a0 + (1 : Int))) <| (aly fu y1 a2 a4 (zal a1 (zac a0) a3.1) (a0 + (1 : Int)))) else none)))))) else some a1)
def art (fu : Nat) (a2 : Str) (a3 : Str) : Option (Str × UInt8) :=
  ((aol fu a2).bind fun (y1 : (Str × UInt8)) => (if y1.2 = (0 : UInt8) then ((ars fu y1.1).bind fun (y7 : Bool) => (bif (!y7) then none else ((aru fu a3).bind fun (a0 : ((List Str) × UInt8)) => (if a0.2 = (0 : UInt8) then (((aly fu y1 a0 fu a0.1 (0 : Int))).bind fun (a1 : List Str) => (gd (a1.length ≤ 1000000000 ∧ (zaB a1 ([44, 32] : Str)).length ≤ 100000000000) <| some (zaB a1 ([44, 32] : Str), (0 : UInt8)))) else none)))) else none))
def ajc (fu : Nat) (a0 : UInt8) : Option UInt8 :=
  (((if (97 : UInt8) ≤ a0 then some (decide (a0 ≤ (122 : UInt8))) else some false)).bind fun (v5 : Bool) => (bif v5 then some (a0 - (32 : UInt8)) else some a0))
def abt (fu : Nat) (s_0 : Str) : Nat → Str → Int → Option Str
  | 0, _, _ => none
  | a2 + 1, a1, a0 => (if a0 < (s_0.length : Int) then (gd (0 ≤ a0 ∧ a0 < (a1.length : Int)) <| (gd (0 ≤ a0 ∧ a0 < (a1.length : Int)) <| ((ajc fu (at_ a1 a0)).bind fun (a3 : UInt8) => (gd (0 ≤ a0 ∧ a0 < (a1.length : Int)) <| (gd (0 ≤ a0 ∧ a0 < (a1.length : Int)) <| (gd (abx (a0 + (1 : Int))) <| (abt fu s_0 a2 (zal a1 (zac a0) a3) (a0 + (1 : Int))))))))) else some a1)
def acj (fu : Nat) (s_0 : Str) : Option Str :=
  (((abt fu s_0 fu s_0 (0 : Int))).bind fun (a0 : Str) => some a0)
open Go.Lib renaming indexAny → zaC
def aks (fu : Nat) (s_0 : Str) : Option PQ :=
  (gd (s_0.length ≤ 1000000000) <| (((if (ans (· == (58 : UInt8)) s_0) < (0 : Int) then some true else (gd (0 ≤ (ans (· == (58 : UInt8)) s_0) ∧ (ans (· == (58 : UInt8)) s_0) ≤ (s_0.length : Int)) <| (gd ((zaz (zac (ans (· == (58 : UInt8)) s_0)) s_0).length ≤ 1000000000) <| (bif (Lib.contains (zaz (zac (ans (· == (58 : UInt8)) s_0)) s_0) ([91] : Str)) then (gd (0 ≤ (ans (· == (58 : UInt8)) s_0) ∧ (ans (· == (58 : UInt8)) s_0) ≤ (s_0.length : Int)) <| (gd ((zam (zac (ans (· == (58 : UInt8)) s_0)) s_0).length ≤ 1000000000) <| some (Lib.contains (zam (zac (ans (· == (58 : UInt8)) s_0)) s_0) ([93] : Str)))) else some false))))).bind fun (a0 : Bool) => (bif a0 then some (s_0, ([] : Str), false) else (gd (0 ≤ (ans (· == (58 : UInt8)) s_0) ∧ (ans (· == (58 : UInt8)) s_0) ≤ (s_0.length : Int)) <| (gd (abx ((ans (· == (58 : UInt8)) s_0) + (1 : Int))) <| (gd (0 ≤ ((ans (· == (58 : UInt8)) s_0) + (1 : Int)) ∧ ((ans (· == (58 : UInt8)) s_0) + (1 : Int)) ≤ (s_0.length : Int)) <| some (zaz (zac (ans (· == (58 : UInt8)) s_0)) s_0, zam (zac ((ans (· == (58 : UInt8)) s_0) + (1 : Int))) s_0, true)))))))
def afb (fu : Nat) (s_0 : Str) : Nat → Int → Int → Option (Int ⊕ (Int × UInt8))
  | 0, _, _ => none
  | a2 + 1, a1, a0 => (if a0 < (s_0.length : Int) then (((gd (0 ≤ a0 ∧ a0 < (s_0.length : Int)) <| (if (at_ s_0 a0) < (48 : UInt8) then some true else (gd (0 ≤ a0 ∧ a0 < (s_0.length : Int)) <| some (decide ((57 : UInt8) < (at_ s_0 a0))))))).bind fun (a3 : Bool) => (bif a3 then some (.inr ((0 : Int), (5 : UInt8))) else (gd (abx ((10 : Int) * a1)) <| (gd (0 ≤ a0 ∧ a0 < (s_0.length : Int)) <| (gd (abx (((10 : Int) * a1) + (((at_ s_0 a0) - (48 : UInt8)).toNat : Int))) <| (gd (abx (a0 + (1 : Int))) <| (afb fu s_0 a2 (((10 : Int) * a1) + (((at_ s_0 a0) - (48 : UInt8)).toNat : Int)) (a0 + (1 : Int))))))))) else some (.inl a1))
def akx (fu : Nat) (s_0 : Str) : Option (Int × UInt8) :=
  (((if (s_0.length : Int) < (1 : Int) then some true else some (decide ((10 : Int) < (s_0.length : Int))))).bind fun (v5 : Bool) => (bif v5 then some ((0 : Int), (5 : UInt8)) else (((afb fu s_0 fu (0 : Int) (0 : Int))).bind fun (a1 : (Int ⊕ (Int × UInt8))) => zay (fun (a0 : Int) => (if (2147483647 : Int) < a0 then some ((0 : Int), (3 : UInt8)) else some (a0, (0 : UInt8)))) (fun q => some q) a1)))
def agm (fu : Nat) (a1 : List PQ) (y1 : Str) : Nat → Int → Option (Unit ⊕ (Str × Bool))
  | 0, _ => none
  | a2 + 1, a0 => (if a0 < (a1.length : Int) then (gd (0 ≤ a0 ∧ a0 < (a1.length : Int)) <| (gd (0 ≤ a0 ∧ a0 < (a1.length : Int)) <| ((adw fu ((el a1 a0).1)).bind fun (a3 : Str) => (if a3 = y1 then some (.inr ((el a1 a0).2.1, true)) else (gd (abx (a0 + (1 : Int))) <| (agm fu a1 y1 a2 (a0 + (1 : Int)))))))) else some (.inl ()))
def amc (fu : Nat) (a0 : List PQ) (a1 : Str) : Option (Str × Bool) :=
  ((adw fu a1).bind fun (y1 : Str) => (((agm fu a0 y1 fu (0 : Int))).bind fun (a2 : (Unit ⊕ (Str × Bool))) => zay (fun (a3 : Unit) => some (([] : Str), false)) (fun q => some q) a2))
def amz (fu : Nat) (a8 : Str) : Option ((Str × Str × Int × Str × (List PQ)) × UInt8) :=
  ((ajd fu a8).bind fun (y4 : Str) => (((if (y4.length : Int) < (8 : Int) then some true else (gd (0 ≤ (8 : Int) ∧ (8 : Int) ≤ (y4.length : Int)) <| ((acj fu (zaz (zac (8 : Int)) y4)).bind fun (a9 : Str) => some (!decide (a9 = ([83, 73, 80, 47, 50, 46, 48, 47] : Str))))))).bind fun (b0 : Bool) => (bif b0 then some ((([] : Str), ([] : Str), (0 : Int), ([] : Str), ([] : List PQ)), (5 : UInt8)) else ((ahg fu y4 (8 : Int)).bind fun (a1 : Int) => ((aig fu y4 a1).bind fun (a0 : Int) => (((if a1 = (8 : Int) then some true else some (decide (a0 = a1)))).bind fun (b1 : Bool) => (bif b1 then some ((([] : Str), ([] : Str), (0 : Int), ([] : Str), ([] : List PQ)), (5 : UInt8)) else (gd (0 ≤ (8 : Int) ∧ (8 : Int) ≤ a1 ∧ a1 ≤ (y4.length : Int)) <| ((acj fu (sub y4 (8 : Int) a1)).bind fun (b2 : Str) => (gd (0 ≤ a0 ∧ a0 ≤ (y4.length : Int)) <| (((gd ((zam (zac a0) y4).length ≤ 1000000000 ∧ ([59, 32, 9] : Str).length ≤ 1000 ∧ ([59, 32, 9] : Str).all (fun b => decide (b.toNat < 128)) = true) <| (if (0 : Int) ≤ (zaC (zam (zac a0) y4) ([59, 32, 9] : Str)) then (gd (0 ≤ (zaC (zam (zac a0) y4) ([59, 32, 9] : Str)) ∧ (zaC (zam (zac a0) y4) ([59, 32, 9] : Str)) ≤ ((zam (zac a0) y4).length : Int)) <| (gd (0 ≤ (zaC (zam (zac a0) y4) ([59, 32, 9] : Str)) ∧ (zaC (zam (zac a0) y4) ([59, 32, 9] : Str)) ≤ ((zam (zac a0) y4).length : Int)) <| some (zaz (zac (zaC (zam (zac a0) y4) ([59, 32, 9] : Str))) (zam (zac a0) y4), zam (zac (zaC (zam (zac a0) y4) ([59, 32, 9] : Str))) (zam (zac a0) y4)))) else some (zam (zac a0) y4, ([] : Str))))).bind fun (a5 : (Str × Str)) => ((aks fu a5.1).bind fun (a4 : PQ) => ((agq fu a4.1).bind fun (a6 : (Str × Bool)) => (bif (!a6.2) then some ((([] : Str), ([] : Str), (0 : Int), ([] : Str), ([] : List PQ)), (5 : UInt8)) else (((bif a4.2.2 then ((akx fu a4.2.1).bind fun (a2 : (Int × UInt8)) => (((((if a2.2 = (0 : UInt8) then (if a2.1 < (1 : Int) then some true else some (decide ((65535 : Int) < a2.1))) else some false)).bind fun (b3 : Bool) => (bif b3 then some (3 : UInt8) else some a2.2))).bind fun (a7 : UInt8) => (if a7 = (0 : UInt8) then some (.inl a2.1) else some (.inr ((([] : Str), ([] : Str), (0 : Int), ([] : Str), ([] : List PQ)), a7))))) else some (.inl (0 : Int)))).bind fun (b4 : (Int ⊕ ((Str × Str × Int × Str × (List PQ)) × UInt8))) => zay (fun (b5 : Int) => ((ahw fu a5.2).bind fun (a3 : ((List PQ) × Int × UInt8)) => (if a3.2.2 = (0 : UInt8) then ((amc fu a3.1 ([98, 114, 97, 110, 99, 104] : Str)).bind fun (b6 : (Str × Bool)) => some ((b2, a6.1, b5, b6.1, a3.1), (0 : UInt8))) else some ((([] : Str), ([] : Str), (0 : Int), ([] : Str), ([] : List PQ)), a3.2.2)))) (fun q => some q) b4)))))))))))))))
def aoc (fu : Nat) (s_0 : Str) : Option (Int × Str × UInt8) :=
  (gd (s_0.length ≤ 1000000000 ∧ ([32, 9] : Str).length ≤ 1000 ∧ ([32, 9] : Str).all (fun b => decide (b.toNat < 128)) = true) <| (if (zaC s_0 ([32, 9] : Str)) < (0 : Int) then none else (gd (0 ≤ (zaC s_0 ([32, 9] : Str)) ∧ (zaC s_0 ([32, 9] : Str)) ≤ (s_0.length : Int)) <| ((akx fu (zaz (zac (zaC s_0 ([32, 9] : Str))) s_0)).bind fun (y8 : (Int × UInt8)) => ((aig fu s_0 (zaC s_0 ([32, 9] : Str))).bind fun (a0 : Int) => (gd (0 ≤ a0 ∧ a0 ≤ (s_0.length : Int)) <| some (y8.1, zam (zac a0) s_0, y8.2)))))))
def arv (fu : Nat) (a0 : Str) : Option (Int × Str × UInt8) :=
  ((ajd fu a0).bind fun (y1 : Str) => ((aoc fu y1).bind fun (y6 : (Int × Str × UInt8)) => (if y6.2.2 = (0 : UInt8) then ((aie fu y6.2.1).bind fun (a1 : Bool) => (bif (!a1) then none else some (y6.1, y6.2.1, (0 : UInt8)))) else none)))
def ank (fu : Nat) : Option Bool :=
  ((aol fu ([67, 65, 76, 76, 45, 105, 100] : Str)).bind fun (y1 : (Str × UInt8)) => ((art fu ([109] : Str) ([66, 111, 98, 60, 115, 105, 112, 58, 97, 64, 66, 62, 32, 44, 32, 60, 115, 105, 112, 58, 99, 59, 100, 62] : Str)).bind fun (y6 : (Str × UInt8)) => ((amz fu ([115, 105, 112, 47, 50, 46, 48, 47, 117, 100, 112, 32, 104, 58, 53, 48, 54, 48, 59, 98, 114, 97, 110, 99, 104, 61, 122, 57] : Str)).bind fun (a0 : ((Str × Str × Int × Str × (List PQ)) × UInt8)) => ((arv fu ([48, 48, 55, 32, 73, 78, 86, 73, 84, 69] : Str)).bind fun (a1 : (Int × Str × UInt8)) => (((if y1.2 = (0 : UInt8) then (if y1.1 = ([67, 97, 108, 108, 45, 73, 68] : Str) then (if y6.2 = (0 : UInt8) then (if y6.1 = ([34, 66, 111, 98, 34, 32, 60, 115, 105, 112, 58, 97, 64, 98, 62, 44, 32, 60, 115, 105, 112, 58, 99, 59, 100, 62] : Str) then (if a0.2 = (0 : UInt8) then (if a0.1.1 = ([85, 68, 80] : Str) then (if a0.1.2.1 = ([104] : Str) then (if a0.1.2.2.1 = (5060 : Int) then (if a0.1.2.2.2.1 = ([122, 57] : Str) then (if a1.1 = (7 : Int) then (if a1.2.1 = ([73, 78, 86, 73, 84, 69] : Str) then some () else none) else none) else none) else none) else none) else none) else none) else none) else none) else none) else none)).bind fun (a2 : Unit) => some (decide (a1.2.2 = (0 : UInt8))))))))
def akj (fu : Nat) (a0 : UInt8) : Option Bool :=
  (((if a0 = (32 : UInt8) then some true else some (decide (a0 = (9 : UInt8))))).bind fun (v5 : Bool) => some v5)
open List renaming drop → zam, set → zal, take → zaz
def aft (fu : Nat) (s_0 : Str) : Nat → Int → Option Int
  | 0, _ => none
  | a1 + 1, a0 => (((if a0 < (s_0.length : Int) then (gd (0 ≤ a0 ∧ a0 < (s_0.length : Int)) <| ((akj fu (at_ s_0 a0)).bind fun (a2 : Bool) => some a2)) else some false)).bind fun (a3 : Bool) => (bif a3 then (gd (abx (a0 + (1 : Int))) <| (aft fu s_0 a1 (a0 + (1 : Int)))) else some a0))
def afx (fu : Nat) (s_0 : Str) (a0 : Int) : Option Int :=
  (((aft fu s_0 fu (min (max a0 (0 : Int)) (s_0.length : Int)))).bind fun (a1 : Int) => some a1)
def ahv (fu : Nat) (s_0 : Str) (y1 : Int) : Nat → Int → Option Int
  | 0, _ => none
  | a1 + 1, a0 => (((if (0 : Int) < a0 then (gd (abx (a0 - (1 : Int))) <| (gd (0 ≤ (a0 - (1 : Int)) ∧ (a0 - (1 : Int)) < ((zam (zac y1) s_0).length : Int)) <| ((akj fu (at_ (zam (zac y1) s_0) (a0 - (1 : Int)))).bind fun (a2 : Bool) => some a2))) else some false)).bind fun (a3 : Bool) => (bif a3 then (gd (abx (a0 - (1 : Int))) <| (ahv fu s_0 y1 a1 (a0 - (1 : Int)))) else some a0))
def aos (fu : Nat) (s_0 : Str) : Option Str :=
  ((afx fu s_0 (0 : Int)).bind fun (y1 : Int) => (gd (0 ≤ y1 ∧ y1 ≤ (s_0.length : Int)) <| (((ahv fu s_0 y1 fu ((zam (zac y1) s_0).length : Int))).bind fun (a0 : Int) => (gd (0 ≤ a0 ∧ a0 ≤ ((zam (zac y1) s_0).length : Int)) <| some (zaz (zac a0) (zam (zac y1) s_0))))))
def aiz (fu : Nat) (a1 : UInt8) : Nat → Int → Option (Unit ⊕ Bool)
  | 0, _ => none
  | a2 + 1, a0 => (if a0 < (([45, 46, 33, 37, 42, 95, 43, 39, 126] : Str).length : Int) then (gd (0 ≤ a0 ∧ a0 < (([45, 46, 33, 37, 42, 95, 43, 39, 126] : Str).length : Int)) <| (if (at_ ([45, 46, 33, 37, 42, 95, 43, 39, 126] : Str) a0) = a1 then some (.inr true) else (gd (abx (a0 + (1 : Int))) <| (aiz fu a1 a2 (a0 + (1 : Int)))))) else some (.inl ()))
def ajw (fu : Nat) (a0 : UInt8) : Option Bool :=
  (((if (65 : UInt8) ≤ a0 then (if a0 ≤ (90 : UInt8) then some true else (if (97 : UInt8) ≤ a0 then (if a0 ≤ (122 : UInt8) then some true else (if (48 : UInt8) ≤ a0 then some (decide (a0 ≤ (57 : UInt8))) else some false)) else (if (48 : UInt8) ≤ a0 then some (decide (a0 ≤ (57 : UInt8))) else some false))) else (if (97 : UInt8) ≤ a0 then (if a0 ≤ (122 : UInt8) then some true else (if (48 : UInt8) ≤ a0 then some (decide (a0 ≤ (57 : UInt8))) else some false)) else (if (48 : UInt8) ≤ a0 then some (decide (a0 ≤ (57 : UInt8))) else some false)))).bind fun (a1 : Bool) => (bif a1 then some true else (((aiz fu a0 fu (0 : Int))).bind fun (a2 : (Unit ⊕ Bool)) => zay (fun (a3 : Unit) => some (decide (a0 = (96 : UInt8)))) (fun q => some q) a2)))
def afn (fu : Nat) (s_0 : Str) : Nat → Int → Option Int
  | 0, _ => none
  | a1 + 1, a0 => (((if a0 < (s_0.length : Int) then (gd (0 ≤ a0 ∧ a0 < (s_0.length : Int)) <| ((ajw fu (at_ s_0 a0)).bind fun (a2 : Bool) => some a2)) else some false)).bind fun (a3 : Bool) => (bif a3 then (gd (abx (a0 + (1 : Int))) <| (afn fu s_0 a1 (a0 + (1 : Int)))) else some a0))
def ahf (fu : Nat) (s_0 : Str) (a0 : Int) : Option Int :=
  (((afn fu s_0 fu (min (max a0 (0 : Int)) (s_0.length : Int)))).bind fun (a1 : Int) => some a1)
def agh (fu : Nat) (s_0 : Str) : Nat → Str → Int → Option Str
  | 0, _, _ => none
  | a2 + 1, a1, a0 => (if a0 < (s_0.length : Int) then (((gd (0 ≤ a0 ∧ a0 < (a1.length : Int)) <| (gd (0 ≤ a0 ∧ a0 < (a1.length : Int)) <| (if (97 : UInt8) ≤ (at_ a1 a0) then (gd (0 ≤ a0 ∧ a0 < (a1.length : Int)) <| (gd (0 ≤ a0 ∧ a0 < (a1.length : Int)) <| some (decide ((at_ a1 a0) ≤ (122 : UInt8))))) else some false)))).bind fun (a3 : Bool) => (bif a3 then (gd (0 ≤ a0 ∧ a0 < (a1.length : Int)) <| (gd (0 ≤ a0 ∧ a0 < (a1.length : Int)) <| (gd (0 ≤ a0 ∧ a0 < (a1.length : Int)) <| (gd (0 ≤ a0 ∧ a0 < (a1.length : Int)) <| (gd (abx (a0 + (1 : Int))) <| (agh fu s_0 a2 (zal a1 (zac a0) ((at_ a1 a0) - (32 : UInt8))) (a0 + (1 : Int)))))))) else (gd (abx (a0 + (1 : Int))) <| (agh fu s_0 a2 a1 (a0 + (1 : Int)))))) else some a1)
def aki (fu : Nat) (s_0 : Str) : Option Str :=
  (((agh fu s_0 fu s_0 (0 : Int))).bind fun (a0 : Str) => some a0)
def aey (fu : Nat) (s_0 : Str) (a3 : UInt8) : Nat → (List Str) → Int → Int → Option ((List Str) × Int)
  | 0, _, _, _ => none
  | a4 + 1, a2, a1, a0 => (if a0 < (s_0.length : Int) then (gd (0 ≤ a0 ∧ a0 < (s_0.length : Int)) <| (if (at_ s_0 a0) = a3 then (gd (0 ≤ a1 ∧ a1 ≤ a0 ∧ a0 ≤ (s_0.length : Int)) <| (gd ((a2.length + ([sub s_0 a1 a0] : List Str).length) * 16 ≤ 140737488355328) <| (gd (abx (a0 + (1 : Int))) <| (gd (abx (a0 + (1 : Int))) <| (aey fu s_0 a3 a4 (a2 ++ ([sub s_0 a1 a0] : List Str)) (a0 + (1 : Int)) (a0 + (1 : Int))))))) else (gd (abx (a0 + (1 : Int))) <| (aey fu s_0 a3 a4 a2 a1 (a0 + (1 : Int)))))) else some (a2, a1))
def akv (fu : Nat) (s_0 : Str) (a1 : UInt8) : Option (List Str) :=
  (((aey fu s_0 a1 fu ([] : List Str) (0 : Int) (0 : Int))).bind fun (a0 : ((List Str) × Int)) => (gd (0 ≤ a0.2 ∧ a0.2 ≤ (s_0.length : Int)) <| (gd ((a0.1.length + ([zam (zac a0.2) s_0] : List Str).length) * 16 ≤ 140737488355328) <| some (a0.1 ++ ([zam (zac a0.2) s_0] : List Str)))))
def aid (fu : Nat) (a0 : UInt8) : Option Bool :=
  (((if (48 : UInt8) ≤ a0 then some (decide (a0 ≤ (57 : UInt8))) else some false)).bind fun (v5 : Bool) => some v5)
def apv (fu : Nat) (a0 : UInt8) : Option Int :=
  ((aid fu a0).bind fun (y1 : Bool) => (bif y1 then some ((a0 - (48 : UInt8)).toNat : Int) else (((if (65 : UInt8) ≤ a0 then some (decide (a0 ≤ (70 : UInt8))) else some false)).bind fun (a1 : Bool) => (bif a1 then (gd (abx (((a0 - (65 : UInt8)).toNat : Int) + (10 : Int))) <| some (((a0 - (65 : UInt8)).toNat : Int) + (10 : Int))) else (((if (97 : UInt8) ≤ a0 then some (decide (a0 ≤ (102 : UInt8))) else some false)).bind fun (a2 : Bool) => (bif a2 then (gd (abx (((a0 - (97 : UInt8)).toNat : Int) + (10 : Int))) <| some (((a0 - (97 : UInt8)).toNat : Int) + (10 : Int))) else some (-1 : Int)))))))
def agk (fu : Nat) (s_0 : Str) : Nat → Str → Int → Option Str
  | 0, _, _ => none
  | a2 + 1, a1, a0 => (if a0 < (s_0.length : Int) then (((gd (0 ≤ a0 ∧ a0 < (a1.length : Int)) <| (gd (0 ≤ a0 ∧ a0 < (a1.length : Int)) <| (if (65 : UInt8) ≤ (at_ a1 a0) then (gd (0 ≤ a0 ∧ a0 < (a1.length : Int)) <| (gd (0 ≤ a0 ∧ a0 < (a1.length : Int)) <| some (decide ((at_ a1 a0) ≤ (90 : UInt8))))) else some false)))).bind fun (a3 : Bool) => (bif a3 then (gd (0 ≤ a0 ∧ a0 < (a1.length : Int)) <| (gd (0 ≤ a0 ∧ a0 < (a1.length : Int)) <| (gd (0 ≤ a0 ∧ a0 < (a1.length : Int)) <| (gd (0 ≤ a0 ∧ a0 < (a1.length : Int)) <| (gd (abx (a0 + (1 : Int))) <| (agk fu s_0 a2 (zal a1 (zac a0) ((at_ a1 a0) + (32 : UInt8))) (a0 + (1 : Int)))))))) else (gd (abx (a0 + (1 : Int))) <| (agk fu s_0 a2 a1 (a0 + (1 : Int)))))) else some a1)
def agx (fu : Nat) (s_0 : Str) : Option Str :=
  (((agk fu s_0 fu s_0 (0 : Int))).bind fun (a0 : Str) => some a0)
def agj (fu : Nat) (s_0 : Str) : Nat → Int → Option (Unit ⊕ (Str × Bool))
  | 0, _ => none
  | a1 + 1, a0 => (if a0 < (s_0.length : Int) then (gd (0 ≤ a0 ∧ a0 < (s_0.length : Int)) <| ((apv fu (at_ s_0 a0)).bind fun (a2 : Int) => (if a2 < (0 : Int) then some (.inr (([] : Str), false)) else (gd (abx (a0 + (1 : Int))) <| (agj fu s_0 a1 (a0 + (1 : Int))))))) else some (.inl ()))
def ahj (fu : Nat) : Nat → Str → Option Str
  | 0, _ => none
  | a1 + 1, a0 => (((if (1 : Int) < (a0.length : Int) then (gd (0 ≤ (0 : Int) ∧ (0 : Int) < (a0.length : Int)) <| some (decide ((at_ a0 (0 : Int)) = (48 : UInt8)))) else some false)).bind fun (a2 : Bool) => (bif a2 then (gd (0 ≤ (1 : Int) ∧ (1 : Int) ≤ (a0.length : Int)) <| (ahj fu a1 (zam (zac (1 : Int)) a0))) else some a0))
def ani (fu : Nat) (s_0 : Str) : Option (Str × Bool) :=
  (((if (s_0.length : Int) < (1 : Int) then some true else some (decide ((4 : Int) < (s_0.length : Int))))).bind fun (v5 : Bool) => (bif v5 then some (([] : Str), false) else (((agj fu s_0 fu (0 : Int))).bind fun (a0 : (Unit ⊕ (Str × Bool))) => zay (fun (a3 : Unit) => (((ahj fu fu s_0)).bind fun (a1 : Str) => ((agx fu a1).bind fun (a2 : Str) => some (a2, true)))) (fun q => some q) a0)))
def afq (fu : Nat) (y2 : List Str) : Nat → Str → Int → Option (Str ⊕ (Str × Int × Bool))
  | 0, _, _ => none
  | a4 + 1, a1, a0 => (if a0 < (y2.length : Int) then (gd (0 ≤ a0 ∧ a0 < (y2.length : Int)) <| (gd (0 ≤ a0 ∧ a0 < (y2.length : Int)) <| ((ani fu (el y2 a0)).bind fun (a2 : (Str × Bool)) => (bif (!a2.2) then some (.inr (([] : Str), (0 : Int), false)) else (((if (0 : Int) < a0 then (gd (a1.length + ([58] : Str).length ≤ 9223372036854775807) <| some (a1 ++ ([58] : Str))) else some a1)).bind fun (a3 : Str) => (gd (a3.length + a2.1.length ≤ 9223372036854775807) <| (gd (abx (a0 + (1 : Int))) <| (afq fu y2 a4 (a3 ++ a2.1) (a0 + (1 : Int)))))))))) else some (.inl a1))
def ajj (fu : Nat) (s_0 : Str) : Option (Str × Int × Bool) :=
  (if s_0 = ([] : Str) then some (([] : Str), (0 : Int), true) else ((akv fu s_0 (58 : UInt8)).bind fun (y2 : List Str) => (((afq fu y2 fu ([] : Str) (0 : Int))).bind fun (a0 : (Str ⊕ (Str × Int × Bool))) => zay (fun (a1 : Str) => some (a1, (y2.length : Int), true)) (fun q => some q) a0)))
def agv (fu : Nat) (s_0 : Str) : Nat → Int → Option (Unit ⊕ (Str × Bool))
  | 0, _ => none
  | a3 + 1, a0 => (gd (abx (a0 + (1 : Int))) <| (if (a0 + (1 : Int)) < (s_0.length : Int) then (((gd (0 ≤ a0 ∧ a0 < (s_0.length : Int)) <| (if (at_ s_0 a0) = (58 : UInt8) then (gd (abx (a0 + (1 : Int))) <| (gd (0 ≤ (a0 + (1 : Int)) ∧ (a0 + (1 : Int)) < (s_0.length : Int)) <| some (!decide ((at_ s_0 (a0 + (1 : Int))) = (58 : UInt8))))) else some true))).bind fun (a4 : Bool) => (bif a4 then (gd (abx (a0 + (1 : Int))) <| (agv fu s_0 a3 (a0 + (1 : Int)))) else (gd (0 ≤ a0 ∧ a0 ≤ (s_0.length : Int)) <| ((ajj fu (zaz (zac a0) s_0)).bind fun (a1 : (Str × Int × Bool)) => (gd (abx (a0 + (2 : Int))) <| (gd (0 ≤ (a0 + (2 : Int)) ∧ (a0 + (2 : Int)) ≤ (s_0.length : Int)) <| ((ajj fu (zam (zac (a0 + (2 : Int))) s_0)).bind fun (a2 : (Str × Int × Bool)) => (((bif (!a1.2.2) then some true else (bif (!a2.2.2) then some true else (gd (abx (a1.2.1 + a2.2.1)) <| some (decide ((7 : Int) < (a1.2.1 + a2.2.1))))))).bind fun (a5 : Bool) => (bif a5 then some (.inr (([] : Str), false)) else (gd (a1.1.length + ([58, 58] : Str).length ≤ 9223372036854775807) <| (gd ((a1.1 ++ ([58, 58] : Str)).length + a2.1.length ≤ 9223372036854775807) <| some (.inr ((a1.1 ++ ([58, 58] : Str)) ++ a2.1, true))))))))))))) else some (.inl ())))
def apu (fu : Nat) (s_0 : Str) : Option (Str × Bool) :=
  (((agv fu s_0 fu (0 : Int))).bind fun (a1 : (Unit ⊕ (Str × Bool))) => zay (fun (a3 : Unit) => ((ajj fu s_0).bind fun (a0 : (Str × Int × Bool)) => (((bif a0.2.2 then some (decide (a0.2.1 = (8 : Int))) else some false)).bind fun (a2 : Bool) => some (a0.1, a2)))) (fun q => some q) a1)
def amm (fu : Nat) (a0 : UInt8) : Option Bool :=
  (((if (65 : UInt8) ≤ a0 then (if a0 ≤ (90 : UInt8) then some true else (if (97 : UInt8) ≤ a0 then some (decide (a0 ≤ (122 : UInt8))) else some false)) else (if (97 : UInt8) ≤ a0 then some (decide (a0 ≤ (122 : UInt8))) else some false))).bind fun (v8 : Bool) => some v8)
def adt (fu : Nat) (s_0 : Str) : Nat → Bool → Int → Option (Bool ⊕ (Bool × Bool))
  | 0, _, _ => none
  | a1 + 1, a2, a0 => (if a0 < (s_0.length : Int) then (((gd (0 ≤ a0 ∧ a0 < (s_0.length : Int)) <| ((amm fu (at_ s_0 a0)).bind fun (a3 : Bool) => (bif (!a3) then (gd (0 ≤ a0 ∧ a0 < (s_0.length : Int)) <| ((aid fu (at_ s_0 a0)).bind fun (a4 : Bool) => (bif (!a4) then (gd (0 ≤ a0 ∧ a0 < (s_0.length : Int)) <| some (!decide ((at_ s_0 a0) = (45 : UInt8)))) else some false))) else some false)))).bind fun (a5 : Bool) => (bif a5 then some (.inr (false, false)) else (bif a2 then (gd (abx (a0 + (1 : Int))) <| (adt fu s_0 a1 true (a0 + (1 : Int)))) else (gd (0 ≤ a0 ∧ a0 < (s_0.length : Int)) <| ((aid fu (at_ s_0 a0)).bind fun (a6 : Bool) => (gd (abx (a0 + (1 : Int))) <| (adt fu s_0 a1 (!a6) (a0 + (1 : Int))))))))) else some (.inl a2))
def anh (fu : Nat) (s_0 : Str) : Option (Bool × Bool) :=
  (((if (s_0.length : Int) < (1 : Int) then some true else (if (63 : Int) < (s_0.length : Int) then some true else (gd (0 ≤ (0 : Int) ∧ (0 : Int) < (s_0.length : Int)) <| (if (at_ s_0 (0 : Int)) = (45 : UInt8) then some true else (gd (abx ((s_0.length : Int) - (1 : Int))) <| (gd (0 ≤ ((s_0.length : Int) - (1 : Int)) ∧ ((s_0.length : Int) - (1 : Int)) < (s_0.length : Int)) <| some (decide ((at_ s_0 ((s_0.length : Int) - (1 : Int))) = (45 : UInt8)))))))))).bind fun (a0 : Bool) => (bif a0 then some (false, false) else (((adt fu s_0 fu false (0 : Int))).bind fun (a1 : (Bool ⊕ (Bool × Bool))) => zay (fun (a2 : Bool) => some (true, a2)) (fun q => some q) a1)))
def aez (fu : Nat) (s_0 : Str) : Nat → Int → Int → Option (Int ⊕ Bool)
  | 0, _, _ => none
  | a2 + 1, a1, a0 => (if a0 < (s_0.length : Int) then (gd (0 ≤ a0 ∧ a0 < (s_0.length : Int)) <| ((aid fu (at_ s_0 a0)).bind fun (a3 : Bool) => (bif (!a3) then some (.inr false) else (gd (abx ((10 : Int) * a1)) <| (gd (0 ≤ a0 ∧ a0 < (s_0.length : Int)) <| (gd (abx (((10 : Int) * a1) + (((at_ s_0 a0) - (48 : UInt8)).toNat : Int))) <| (gd (abx (a0 + (1 : Int))) <| (aez fu s_0 a2 (((10 : Int) * a1) + (((at_ s_0 a0) - (48 : UInt8)).toNat : Int)) (a0 + (1 : Int)))))))))) else some (.inl a1))
def aml (fu : Nat) (s_0 : Str) : Option Bool :=
  (((if (s_0.length : Int) < (1 : Int) then some true else (if (3 : Int) < (s_0.length : Int) then some true else (if (1 : Int) < (s_0.length : Int) then (gd (0 ≤ (0 : Int) ∧ (0 : Int) < (s_0.length : Int)) <| some (decide ((at_ s_0 (0 : Int)) = (48 : UInt8)))) else some false)))).bind fun (v8 : Bool) => (bif v8 then some false else (((aez fu s_0 fu (0 : Int) (0 : Int))).bind fun (a0 : (Int ⊕ Bool)) => zay (fun (a1 : Int) => some (decide (a1 ≤ (255 : Int)))) (fun q => some q) a0)))
def agb (fu : Nat) (a1 : List Str) : Nat → Bool → Bool → Int → Option ((Bool × Bool) ⊕ (Str × Bool))
  | 0, _, _, _ => none
  | a2 + 1, a3, a4, a0 => (if a0 < (a1.length : Int) then (gd (0 ≤ a0 ∧ a0 < (a1.length : Int)) <| (gd (0 ≤ a0 ∧ a0 < (a1.length : Int)) <| ((anh fu (el a1 a0)).bind fun (a5 : (Bool × Bool)) => (bif (!a5.1) then some (.inr (([] : Str), false)) else (((bif a4 then some true else some a5.2)).bind fun (a6 : Bool) => (bif a3 then (gd (0 ≤ a0 ∧ a0 < (a1.length : Int)) <| (gd (0 ≤ a0 ∧ a0 < (a1.length : Int)) <| ((aml fu (el a1 a0)).bind fun (a7 : Bool) => (gd (abx (a0 + (1 : Int))) <| (agb fu a1 a2 a7 a6 (a0 + (1 : Int))))))) else (gd (abx (a0 + (1 : Int))) <| (agb fu a1 a2 false a6 (a0 + (1 : Int)))))))))) else some (.inl (a3, a4)))
def ake (fu : Nat) (s_0 : Str) : Option (Str × Bool) :=
  (((if (2 : Int) ≤ (s_0.length : Int) then (gd (0 ≤ (0 : Int) ∧ (0 : Int) < (s_0.length : Int)) <| (if (at_ s_0 (0 : Int)) = (91 : UInt8) then (gd (abx ((s_0.length : Int) - (1 : Int))) <| (gd (0 ≤ ((s_0.length : Int) - (1 : Int)) ∧ ((s_0.length : Int) - (1 : Int)) < (s_0.length : Int)) <| some (decide ((at_ s_0 ((s_0.length : Int) - (1 : Int))) = (93 : UInt8))))) else some false)) else some false)).bind fun (v9 : Bool) => (bif v9 then (gd (abx ((s_0.length : Int) - (1 : Int))) <| (gd (0 ≤ (1 : Int) ∧ (1 : Int) ≤ ((s_0.length : Int) - (1 : Int)) ∧ ((s_0.length : Int) - (1 : Int)) ≤ (s_0.length : Int)) <| ((apu fu (sub s_0 (1 : Int) ((s_0.length : Int) - (1 : Int)))).bind fun (a0 : (Str × Bool)) => (bif (!a0.2) then some (([] : Str), false) else (gd (([91] : Str).length + a0.1.length ≤ 9223372036854775807) <| (gd ((([91] : Str) ++ a0.1).length + ([93] : Str).length ≤ 9223372036854775807) <| some ((([91] : Str) ++ a0.1) ++ ([93] : Str), true))))))) else ((akv fu s_0 (46 : UInt8)).bind fun (a1 : List Str) => (((agb fu a1 fu (decide ((a1.length : Int) = (4 : Int))) false (0 : Int))).bind fun (a3 : ((Bool × Bool) ⊕ (Str × Bool))) => zay (fun (a2 : (Bool × Bool)) => (((if (255 : Int) < (s_0.length : Int) then some true else (bif (!a2.2) then some (!a2.1) else some false))).bind fun (a4 : Bool) => (bif a4 then some (([] : Str), false) else ((agx fu s_0).bind fun (a5 : Str) => some (a5, true))))) (fun q => some q) a3))))
def afa (fu : Nat) (s_0 : Str) : Nat → Int → Int → Option (Int ⊕ (Int × UInt8))
  | 0, _, _ => none
  | a2 + 1, a1, a0 => (if a0 < (s_0.length : Int) then (((gd (0 ≤ a0 ∧ a0 < (s_0.length : Int)) <| (if (at_ s_0 a0) < (48 : UInt8) then some true else (gd (0 ≤ a0 ∧ a0 < (s_0.length : Int)) <| (if (57 : UInt8) < (at_ s_0 a0) then some true else some (decide ((10 : Int) ≤ a0))))))).bind fun (a3 : Bool) => (bif a3 then some (.inr ((0 : Int), (5 : UInt8))) else (gd (abx ((10 : Int) * a1)) <| (gd (0 ≤ a0 ∧ a0 < (s_0.length : Int)) <| (gd (abx (((10 : Int) * a1) + (((at_ s_0 a0) - (48 : UInt8)).toNat : Int))) <| (gd (abx (a0 + (1 : Int))) <| (afa fu s_0 a2 (((10 : Int) * a1) + (((at_ s_0 a0) - (48 : UInt8)).toNat : Int)) (a0 + (1 : Int))))))))) else some (.inl a1))
def amo (fu : Nat) (s_0 : Str) : Option (Int × UInt8) :=
  (((afa fu s_0 fu (0 : Int) (0 : Int))).bind fun (a1 : (Int ⊕ (Int × UInt8))) => zay (fun (a0 : Int) => (if s_0 = ([] : Str) then some ((0 : Int), (5 : UInt8)) else (if (2147483647 : Int) < a0 then some ((0 : Int), (3 : UInt8)) else some (a0, (0 : UInt8))))) (fun q => some q) a1)
def aoq (fu : Nat) (s_0 : Str) : Option (Int × UInt8) :=
  ((amo fu s_0).bind fun (y1 : (Int × UInt8)) => (((if y1.2 = (0 : UInt8) then (if y1.1 < (1 : Int) then some true else some (decide ((65535 : Int) < y1.1))) else some false)).bind fun (a0 : Bool) => (bif a0 then some ((0 : Int), (3 : UInt8)) else some (y1.1, y1.2))))
def aph (fu : Nat) (s_0 : Str) (a0 : Int) (a1 : UInt8) : Option (Int × UInt8) :=
  (((if a0 < (0 : Int) then some true else some (decide ((s_0.length : Int) < a0)))).bind fun (v5 : Bool) => (bif v5 then some ((0 : Int), (2 : UInt8)) else (((if a0 = (s_0.length : Int) then some true else (gd (0 ≤ a0 ∧ a0 < (s_0.length : Int)) <| some (!decide ((at_ s_0 a0) = a1))))).bind fun (a2 : Bool) => (bif a2 then some (a0, (5 : UInt8)) else some ((0 : Int), (0 : UInt8))))))
def aim (fu : Nat) (a0 : UInt8) : Option Bool :=
  (((if a0 < (32 : UInt8) then (if a0 = (9 : UInt8) then some (decide (a0 = (127 : UInt8))) else some true) else some (decide (a0 = (127 : UInt8))))).bind fun (v6 : Bool) => some v6)
def aor (fu : Nat) (s_0 : Str) (a0 : Int) : Option (Int × Int × UInt8) :=
  (if (s_0.length : Int) ≤ a0 then some ((0 : Int), (s_0.length : Int), (6 : UInt8)) else (gd (0 ≤ a0 ∧ a0 < (s_0.length : Int)) <| ((aim fu (at_ s_0 a0)).bind fun (y3 : Bool) => (bif y3 then some ((0 : Int), a0, (5 : UInt8)) else (gd (0 ≤ a0 ∧ a0 < (s_0.length : Int)) <| (if (at_ s_0 a0) = (92 : UInt8) then (gd (abx (a0 + (1 : Int))) <| (if (s_0.length : Int) ≤ (a0 + (1 : Int)) then some ((0 : Int), (s_0.length : Int), (6 : UInt8)) else (((gd (abx (a0 + (1 : Int))) <| (gd (0 ≤ (a0 + (1 : Int)) ∧ (a0 + (1 : Int)) < (s_0.length : Int)) <| (if (at_ s_0 (a0 + (1 : Int))) < (32 : UInt8) then some true else (gd (abx (a0 + (1 : Int))) <| (gd (0 ≤ (a0 + (1 : Int)) ∧ (a0 + (1 : Int)) < (s_0.length : Int)) <| some (decide ((126 : UInt8) < (at_ s_0 (a0 + (1 : Int))))))))))).bind fun (a1 : Bool) => (bif a1 then some ((0 : Int), a0, (5 : UInt8)) else some ((2 : Int), (0 : Int), (0 : UInt8)))))) else some ((1 : Int), (0 : Int), (0 : UInt8))))))))
def acy (fu : Nat) (s_0 : Str) : Nat → (List UInt8) → Int → Option (Str × Int × UInt8)
  | 0, _, _ => none
  | a3 + 1, a2, a0 => ((aor fu s_0 a0).bind fun (a1 : (Int × Int × UInt8)) => (if a1.2.2 = (0 : UInt8) then (((if a1.1 = (1 : Int) then (gd (0 ≤ a0 ∧ a0 < (s_0.length : Int)) <| some (decide ((at_ s_0 a0) = (34 : UInt8)))) else some false)).bind fun (a4 : Bool) => (bif a4 then (gd (abx (a0 + (1 : Int))) <| some (a2, a0 + (1 : Int), (0 : UInt8))) else (gd (abx (a0 + a1.1)) <| (gd (abx ((a0 + a1.1) - (1 : Int))) <| (gd (0 ≤ ((a0 + a1.1) - (1 : Int)) ∧ ((a0 + a1.1) - (1 : Int)) < (s_0.length : Int)) <| (gd ((a2.length + ([at_ s_0 ((a0 + a1.1) - (1 : Int))] : List UInt8).length) * 1 ≤ 140737488355328) <| (gd (abx (a0 + a1.1)) <| (acy fu s_0 a3 (a2 ++ ([at_ s_0 ((a0 + a1.1) - (1 : Int))] : List UInt8)) (a0 + a1.1))))))))) else some (([] : Str), a1.2.1, a1.2.2)))
def alr (fu : Nat) (s_0 : Str) (a0 : Int) : Option (Str × Int × UInt8) :=
  ((aph fu s_0 a0 (34 : UInt8)).bind fun (y1 : (Int × UInt8)) => (if y1.2 = (0 : UInt8) then (gd (abx (a0 + (1 : Int))) <| (acy fu s_0 fu ([] : List UInt8) (a0 + (1 : Int)))) else some (([] : Str), y1.1, y1.2)))
def afj (fu : Nat) (s_0 : Str) : Nat → Int → Option Int
  | 0, _ => none
  | a1 + 1, a0 => (((if a0 < (s_0.length : Int) then (gd (0 ≤ a0 ∧ a0 < (s_0.length : Int)) <| some (!decide ((at_ s_0 a0) = (93 : UInt8)))) else some false)).bind fun (a2 : Bool) => (bif a2 then (gd (abx (a0 + (1 : Int))) <| (afj fu s_0 a1 (a0 + (1 : Int)))) else some a0))
def ang (fu : Nat) (s_0 : Str) (a0 : Int) : Option (Str × Int × UInt8) :=
  (((if a0 < (s_0.length : Int) then (gd (0 ≤ a0 ∧ a0 < (s_0.length : Int)) <| some (decide ((at_ s_0 a0) = (34 : UInt8)))) else some false)).bind fun (v6 : Bool) => (bif v6 then ((alr fu s_0 a0).bind fun (a3 : (Str × Int × UInt8)) => some (a3.1, a3.2.1, a3.2.2)) else (((((if a0 < (s_0.length : Int) then (gd (0 ≤ a0 ∧ a0 < (s_0.length : Int)) <| some (decide ((at_ s_0 a0) = (91 : UInt8)))) else some false)).bind fun (a5 : Bool) => (bif a5 then (((afj fu s_0 fu a0)).bind fun (a1 : Int) => (gd (abx (a1 + (1 : Int))) <| (gd (0 ≤ a0 ∧ a0 ≤ (min (a1 + (1 : Int)) (s_0.length : Int)) ∧ (min (a1 + (1 : Int)) (s_0.length : Int)) ≤ (s_0.length : Int)) <| ((ake fu (sub s_0 a0 (min (a1 + (1 : Int)) (s_0.length : Int)))).bind fun (a4 : (Str × Bool)) => (bif (!a4.2) then some (.inr (([] : Str), a0, (5 : UInt8))) else (gd (abx (a1 + (1 : Int))) <| some (.inr (a4.1, a1 + (1 : Int), (0 : UInt8))))))))) else some (.inl ())))).bind fun (a6 : (Unit ⊕ (Str × Int × UInt8))) => zay (fun (a7 : Unit) => ((ahf fu s_0 a0).bind fun (a2 : Int) => (if a2 = a0 then some (([] : Str), a0, (5 : UInt8)) else (gd (0 ≤ a0 ∧ a0 ≤ a2 ∧ a2 ≤ (s_0.length : Int)) <| some (sub s_0 a0 a2, a2, (0 : UInt8)))))) (fun q => some q) a6)))
def ahe (fu : Nat) (a1 : List PQ) (a2 : Str) : Nat → Int → Option (Unit ⊕ Int)
  | 0, _ => none
  | a3 + 1, a0 => (if a0 < (a1.length : Int) then (gd (0 ≤ a0 ∧ a0 < (a1.length : Int)) <| (gd (0 ≤ a0 ∧ a0 < (a1.length : Int)) <| ((agx fu ((el a1 a0).1)).bind fun (a4 : Str) => ((agx fu a2).bind fun (a5 : Str) => (if a4 = a5 then some (.inr a0) else (gd (abx (a0 + (1 : Int))) <| (ahe fu a1 a2 a3 (a0 + (1 : Int))))))))) else some (.inl ()))
def amy (fu : Nat) (a0 : List PQ) (a1 : Str) : Option Int :=
  (((ahe fu a0 a1 fu (0 : Int))).bind fun (a2 : (Unit ⊕ Int)) => zay (fun (a3 : Unit) => some (-1 : Int)) (fun q => some q) a2)
def aif (fu : Nat) (a0 : List PQ) (a1 : Str) : Option UInt8 :=
  ((amy fu a0 a1).bind fun (y1 : Int) => (if (0 : Int) ≤ y1 then some (7 : UInt8) else (if (16 : Int) ≤ (a0.length : Int) then some (4 : UInt8) else some (0 : UInt8))))
def afs (fu : Nat) (s_0 : Str) : Nat → (List PQ) → Int → Option ((List PQ) ⊕ ((List PQ) × Int × UInt8))
  | 0, _, _ => none
  | a9 + 1, a6, a0 => (if a0 < (s_0.length : Int) then (gd (0 ≤ a0 ∧ a0 < (s_0.length : Int)) <| (if (at_ s_0 a0) = (59 : UInt8) then (gd (abx (a0 + (1 : Int))) <| ((afx fu s_0 (a0 + (1 : Int))).bind fun (a1 : Int) => ((ahf fu s_0 a1).bind fun (a3 : Int) => (if a3 = a1 then some (.inr (([] : List PQ), a1, (5 : UInt8))) else (gd (0 ≤ a1 ∧ a1 ≤ a3 ∧ a3 ≤ (s_0.length : Int)) <| ((agx fu (sub s_0 a1 a3)).bind fun (a7 : Str) => ((afx fu s_0 a3).bind fun (a2 : Int) => (((((if a2 < (s_0.length : Int) then (gd (0 ≤ a2 ∧ a2 < (s_0.length : Int)) <| some (decide ((at_ s_0 a2) = (61 : UInt8)))) else some false)).bind fun (b0 : Bool) => (bif b0 then (gd (abx (a2 + (1 : Int))) <| ((afx fu s_0 (a2 + (1 : Int))).bind fun (b1 : Int) => ((ang fu s_0 b1).bind fun (a4 : (Str × Int × UInt8)) => (if a4.2.2 = (0 : UInt8) then ((afx fu s_0 a4.2.1).bind fun (b2 : Int) => some (.inl (b2, a4.1, true))) else some (.inr (([] : List PQ), a4.2.1, a4.2.2)))))) else some (.inl (a2, ([] : Str), false))))).bind fun (b3 : ((Int × Str × Bool) ⊕ ((List PQ) × Int × UInt8))) => zay (fun (a5 : (Int × Str × Bool)) => ((aif fu a6 a7).bind fun (a8 : UInt8) => (if a8 = (0 : UInt8) then (gd ((a6.length + ([(a7, a5.2.1, a5.2.2)] : List PQ).length) * 40 ≤ 140737488355328) <| (afs fu s_0 a9 (a6 ++ ([(a7, a5.2.1, a5.2.2)] : List PQ)) a5.1)) else some (.inr (([] : List PQ), a1, a8))))) (fun q => some (.inr q)) b3)))))))) else some (.inr (([] : List PQ), a0, (5 : UInt8))))) else some (.inl a6))
def akw (fu : Nat) (s_0 : Str) : Option ((List PQ) × Int × UInt8) :=
  ((afx fu s_0 (0 : Int)).bind fun (y1 : Int) => (((afs fu s_0 fu ([] : List PQ) y1)).bind fun (a0 : ((List PQ) ⊕ ((List PQ) × Int × UInt8))) => zay (fun (a1 : List PQ) => some (a1, (0 : Int), (0 : UInt8))) (fun q => some q) a0))
def aob (fu : Nat) (a0 : List PQ) (a1 : Str) : Option (Str × Bool) :=
  ((amy fu a0 a1).bind fun (y1 : Int) => (if y1 < (0 : Int) then some (([] : Str), false) else (gd (0 ≤ y1 ∧ y1 < (a0.length : Int)) <| (gd (0 ≤ y1 ∧ y1 < (a0.length : Int)) <| some ((el a0 y1).2.1, true)))))
def agu (fu : Nat) (y4 : Str) : Nat → Int → Option Int
  | 0, _ => none
  | a1 + 1, a0 => (((if a0 < (y4.length : Int) then (gd (0 ≤ a0 ∧ a0 < (y4.length : Int)) <| (if (at_ y4 a0) = (59 : UInt8) then some false else (gd (0 ≤ a0 ∧ a0 < (y4.length : Int)) <| ((akj fu (at_ y4 a0)).bind fun (a2 : Bool) => some (!a2))))) else some false)).bind fun (a3 : Bool) => (bif a3 then (gd (abx (a0 + (1 : Int))) <| (agu fu y4 a1 (a0 + (1 : Int)))) else some a0))
def ahn (fu : Nat) (y4 : Str) (a1 : Int) : Nat → Int → Int → Option Int
  | 0, _, _ => none
  | a2 + 1, a3, a0 => (if a0 < a1 then (((gd (0 ≤ a0 ∧ a0 < (y4.length : Int)) <| (if (at_ y4 a0) = (58 : UInt8) then some a0 else some a3))).bind fun (a4 : Int) => (gd (0 ≤ a0 ∧ a0 < (y4.length : Int)) <| (if (at_ y4 a0) = (93 : UInt8) then (gd (abx (a0 + (1 : Int))) <| (ahn fu y4 a1 a2 a1 (a0 + (1 : Int)))) else (gd (abx (a0 + (1 : Int))) <| (ahn fu y4 a1 a2 a4 (a0 + (1 : Int))))))) else some a3)
def apt (fu : Nat) (a6 : Str) : Option ((Str × Str × Int × Str × (List PQ)) × UInt8) :=
  ((aos fu a6).bind fun (y4 : Str) => ((ahf fu y4 (8 : Int)).bind fun (y9 : Int) => ((afx fu y4 y9).bind fun (a2 : Int) => (((if (y4.length : Int) < (8 : Int) then some true else (gd (0 ≤ (8 : Int) ∧ (8 : Int) ≤ (y4.length : Int)) <| ((aki fu (zaz (zac (8 : Int)) y4)).bind fun (a7 : Str) => (if a7 = ([83, 73, 80, 47, 50, 46, 48, 47] : Str) then (if y9 = (8 : Int) then some true else some (decide (a2 = y9))) else some true))))).bind fun (a8 : Bool) => (bif a8 then some ((([] : Str), ([] : Str), (0 : Int), ([] : Str), ([] : List PQ)), (5 : UInt8)) else (((agu fu y4 fu a2)).bind fun (a0 : Int) => (((ahn fu y4 a0 fu a0 a2)).bind fun (a1 : Int) => (gd (0 ≤ a2 ∧ a2 ≤ a1 ∧ a1 ≤ (y4.length : Int)) <| ((ake fu (sub y4 a2 a1)).bind fun (a5 : (Str × Bool)) => (bif (!a5.2) then some ((([] : Str), ([] : Str), (0 : Int), ([] : Str), ([] : List PQ)), (5 : UInt8)) else (gd (0 ≤ (8 : Int) ∧ (8 : Int) ≤ y9 ∧ y9 ≤ (y4.length : Int)) <| ((aki fu (sub y4 (8 : Int) y9)).bind fun (a9 : Str) => (((if a1 < a0 then (gd (abx (a1 + (1 : Int))) <| (gd (0 ≤ (a1 + (1 : Int)) ∧ (a1 + (1 : Int)) ≤ a0 ∧ a0 ≤ (y4.length : Int)) <| ((aoq fu (sub y4 (a1 + (1 : Int)) a0)).bind fun (a4 : (Int × UInt8)) => (if a4.2 = (0 : UInt8) then some (.inl a4.1) else some (.inr ((([] : Str), ([] : Str), (0 : Int), ([] : Str), ([] : List PQ)), a4.2)))))) else some (.inl (0 : Int)))).bind fun (b0 : (Int ⊕ ((Str × Str × Int × Str × (List PQ)) × UInt8))) => zay (fun (b1 : Int) => (gd (0 ≤ a0 ∧ a0 ≤ (y4.length : Int)) <| ((akw fu (zam (zac a0) y4)).bind fun (a3 : ((List PQ) × Int × UInt8)) => (if a3.2.2 = (0 : UInt8) then ((aob fu a3.1 ([98, 114, 97, 110, 99, 104] : Str)).bind fun (b2 : (Str × Bool)) => some ((a9, a5.1, b1, b2.1, a3.1), (0 : UInt8))) else some ((([] : Str), ([] : Str), (0 : Int), ([] : Str), ([] : List PQ)), a3.2.2))))) (fun q => some q) b0)))))))))))))
def ahm (fu : Nat) (s_0 : List PQ) : Option (List PQ) :=
  some s_0
def ada (fu : Nat) (a0 : PQ) (a1 : List PQ) : Option (Nat × (List PQ)) :=
  (gd ((a1.length + ([a0] : List PQ).length) * 40 ≤ 140737488355328) <| some (0, a1 ++ ([a0] : List PQ)))
def aah (fu : Nat) (a1 : List PQ) : Nat → Int → (List PQ) → Option ((List PQ) × Nat)
  | 0, _, _ => none
  | a4 + 1, a0, a3 => (if a0 < (a1.length : Int) then (gd (0 ≤ a0 ∧ a0 < (a1.length : Int)) <| (gd (0 ≤ a0 ∧ a0 < (a1.length : Int)) <| ((ada fu ((el a1 a0).1, (el a1 a0).2.1, ((el a1 a0).2.2)) a3).bind fun (a2 : (Nat × (List PQ))) => (if a2.1 = 0 then (gd (abx (a0 + (1 : Int))) <| (aah fu a1 a4 (a0 + (1 : Int)) a2.2)) else some (a2.2, a2.1))))) else some (a3, 0))
def abj (fu : Nat) (a0 : List PQ) (a1 : List PQ) : Option ((List PQ) × Nat) :=
  (aah fu a1 fu (0 : Int) a0)
def aeg (fu : Nat) (s_0 : List PQ) (a1 : List PQ) : Option (List PQ) :=
  ((abj fu s_0 a1).bind fun (a0 : ((List PQ) × Nat)) => (if a0.2 = 0 then some a0.1 else none))
def adp (fu : Nat) (a0 : List PQ) : Option (List PQ) :=
  ((aeg fu ([] : List PQ) a0).bind fun (y1 : List PQ) => some y1)
def agl (fu : Nat) (a0 : PQ) (a1 : PQ) : Option Int :=
  ((aia fu a0.1 a1.1).bind fun (y7 : Int) => some y7)
def aag (fu : Nat) (a2 : Int) : Nat → (List PQ) → Int → Option (List PQ)
  | 0, _, _ => none
  | a3 + 1, a1, a0 => (((if a2 < a0 then (gd (0 ≤ a0 ∧ a0 < (a1.length : Int)) <| (gd (0 ≤ a0 ∧ a0 < (a1.length : Int)) <| (gd (abx (a0 - (1 : Int))) <| (gd (0 ≤ (a0 - (1 : Int)) ∧ (a0 - (1 : Int)) < (a1.length : Int)) <| (gd (0 ≤ (a0 - (1 : Int)) ∧ (a0 - (1 : Int)) < (a1.length : Int)) <| ((agl fu ((el a1 a0).1, (el a1 a0).2.1, ((el a1 a0).2.2)) ((el a1 (a0 - (1 : Int))).1, (el a1 (a0 - (1 : Int))).2.1, ((el a1 (a0 - (1 : Int))).2.2))).bind fun (a4 : Int) => some (decide (a4 < (0 : Int))))))))) else some false)).bind fun (a5 : Bool) => (bif a5 then (gd (abx (a0 - (1 : Int))) <| (gd (abx (a0 - (1 : Int))) <| (gd (0 ≤ (a0 - (1 : Int)) ∧ (a0 - (1 : Int)) < (a1.length : Int)) <| (gd (0 ≤ (a0 - (1 : Int)) ∧ (a0 - (1 : Int)) < (a1.length : Int)) <| (gd (0 ≤ a0 ∧ a0 < (a1.length : Int)) <| (gd (0 ≤ a0 ∧ a0 < (a1.length : Int)) <| (gd (0 ≤ a0 ∧ a0 < (a1.length : Int)) <| (gd (0 ≤ a0 ∧ a0 < (a1.length : Int)) <| (gd (0 ≤ (a0 - (1 : Int)) ∧ (a0 - (1 : Int)) < ((zal a1 (zac a0) ((el a1 (a0 - (1 : Int))).1, (el a1 (a0 - (1 : Int))).2.1, ((el a1 (a0 - (1 : Int))).2.2))).length : Int)) <| (gd (0 ≤ (a0 - (1 : Int)) ∧ (a0 - (1 : Int)) < ((zal a1 (zac a0) ((el a1 (a0 - (1 : Int))).1, (el a1 (a0 - (1 : Int))).2.1, ((el a1 (a0 - (1 : Int))).2.2))).length : Int)) <| (gd (abx (a0 - (1 : Int))) <| (aag fu a2 a3 (zal (zal a1 (zac a0) ((el a1 (a0 - (1 : Int))).1, (el a1 (a0 - (1 : Int))).2.1, ((el a1 (a0 - (1 : Int))).2.2))) (zac (a0 - (1 : Int))) ((el a1 a0).1, (el a1 a0).2.1, ((el a1 a0).2.2))) (a0 - (1 : Int)))))))))))))) else some a1))
def aad (fu : Nat) (a1 : Int) (a2 : Int) : Nat → (List PQ) → Int → Option (List PQ)
  | 0, _, _ => none
  | a4 + 1, a3, a0 => (if a0 < a2 then (((aag fu a1 fu a3 a0)).bind fun (a5 : List PQ) => (gd (abx (a0 + (1 : Int))) <| (aad fu a1 a2 a4 a5 (a0 + (1 : Int))))) else some a3)
def aan (fu : Nat) (a1 : List PQ) (a0 : Int) (a2 : Int) : Option (List PQ) :=
  (gd (abx (a0 + (1 : Int))) <| (aad fu a0 a2 fu a1 (a0 + (1 : Int))))
def aau (fu : Nat) (a3 : Int) (a2 : Int) (a4 : Int) : Nat → (List PQ) → Int → Option (List PQ)
  | 0, _, _ => none
  | a5 + 1, a1, a0 => (if a0 < a4 then (gd (abx (a3 + a0)) <| (gd (abx (a2 + a0)) <| (gd (abx (a2 + a0)) <| (gd (0 ≤ (a2 + a0) ∧ (a2 + a0) < (a1.length : Int)) <| (gd (0 ≤ (a2 + a0) ∧ (a2 + a0) < (a1.length : Int)) <| (gd (abx (a3 + a0)) <| (gd (0 ≤ (a3 + a0) ∧ (a3 + a0) < (a1.length : Int)) <| (gd (0 ≤ (a3 + a0) ∧ (a3 + a0) < (a1.length : Int)) <| (gd (0 ≤ (a3 + a0) ∧ (a3 + a0) < (a1.length : Int)) <| (gd (0 ≤ (a3 + a0) ∧ (a3 + a0) < (a1.length : Int)) <| (gd (0 ≤ (a2 + a0) ∧ (a2 + a0) < ((zal a1 (zac (a3 + a0)) ((el a1 (a2 + a0)).1, (el a1 (a2 + a0)).2.1, ((el a1 (a2 + a0)).2.2))).length : Int)) <| (gd (0 ≤ (a2 + a0) ∧ (a2 + a0) < ((zal a1 (zac (a3 + a0)) ((el a1 (a2 + a0)).1, (el a1 (a2 + a0)).2.1, ((el a1 (a2 + a0)).2.2))).length : Int)) <| (gd (abx (a0 + (1 : Int))) <| (aau fu a3 a2 a4 a5 (zal (zal a1 (zac (a3 + a0)) ((el a1 (a2 + a0)).1, (el a1 (a2 + a0)).2.1, ((el a1 (a2 + a0)).2.2))) (zac (a2 + a0)) ((el a1 (a3 + a0)).1, (el a1 (a3 + a0)).2.1, ((el a1 (a3 + a0)).2.2))) (a0 + (1 : Int)))))))))))))))) else some a1)
def abb (fu : Nat) (a0 : List PQ) (a1 : Int) (a2 : Int) (a3 : Int) : Option (List PQ) :=
  (aau fu a1 a2 a3 fu a0 (0 : Int))
def aaz (fu : Nat) (a2 : Int) : Nat → (List PQ) → Int → Int → Option ((List PQ) × Int)
  | 0, _, _, _ => none
  | a4 + 1, a3, a0, a1 => (if a0 = a1 then some (a3, a0) else (if a1 < a0 then (gd (abx (a2 - a0)) <| ((abb fu a3 (a2 - a0) a2 a1).bind fun (a5 : List PQ) => (gd (abx (a0 - a1)) <| (aaz fu a2 a4 a5 (a0 - a1) a1)))) else (gd (abx (a2 - a0)) <| (gd (abx (a2 + a1)) <| (gd (abx ((a2 + a1) - a0)) <| ((abb fu a3 (a2 - a0) ((a2 + a1) - a0) a0).bind fun (a6 : List PQ) => (gd (abx (a1 - a0)) <| (aaz fu a2 a4 a6 a0 (a1 - a0)))))))))
def abo (fu : Nat) (a4 : List PQ) (a2 : Int) (a0 : Int) (a3 : Int) : Option (List PQ) :=
  (gd (abx (a0 - a2)) <| (gd (abx (a3 - a0)) <| (((aaz fu a0 fu a4 (a0 - a2) (a3 - a0))).bind fun (a1 : ((List PQ) × Int)) => (gd (abx (a0 - a1.2)) <| ((abb fu a1.1 (a0 - a1.2) a0 a1.2).bind fun (a5 : List PQ) => some a5)))))
def aar (fu : Nat) (a2 : List PQ) (a3 : Int) : Nat → Int → Int → Option Int
  | 0, _, _ => none
  | a4 + 1, a0, a1 => (if a0 < a1 then (gd (abx (a0 + a1)) <| (gd (0 ≤ (zaa .i64 ((zaa .u64 (a0 + a1)) / 2)) ∧ (zaa .i64 ((zaa .u64 (a0 + a1)) / 2)) < (a2.length : Int)) <| (gd (0 ≤ (zaa .i64 ((zaa .u64 (a0 + a1)) / 2)) ∧ (zaa .i64 ((zaa .u64 (a0 + a1)) / 2)) < (a2.length : Int)) <| (gd (0 ≤ a3 ∧ a3 < (a2.length : Int)) <| (gd (0 ≤ a3 ∧ a3 < (a2.length : Int)) <| ((agl fu ((el a2 (zaa .i64 ((zaa .u64 (a0 + a1)) / 2))).1, (el a2 (zaa .i64 ((zaa .u64 (a0 + a1)) / 2))).2.1, ((el a2 (zaa .i64 ((zaa .u64 (a0 + a1)) / 2))).2.2)) ((el a2 a3).1, (el a2 a3).2.1, ((el a2 a3).2.2))).bind fun (a5 : Int) => (if a5 < (0 : Int) then (gd (abx ((zaa .i64 ((zaa .u64 (a0 + a1)) / 2)) + (1 : Int))) <| (aar fu a2 a3 a4 ((zaa .i64 ((zaa .u64 (a0 + a1)) / 2)) + (1 : Int)) a1)) else (aar fu a2 a3 a4 a0 (zaa .i64 ((zaa .u64 (a0 + a1)) / 2)))))))))) else some a0)
def aaw (fu : Nat) (a2 : Int) : Nat → (List PQ) → Int → Option (List PQ)
  | 0, _, _ => none
  | a3 + 1, a1, a0 => (gd (abx (a2 - (1 : Int))) <| (if a0 < (a2 - (1 : Int)) then (gd (abx (a0 + (1 : Int))) <| (gd (abx (a0 + (1 : Int))) <| (gd (0 ≤ (a0 + (1 : Int)) ∧ (a0 + (1 : Int)) < (a1.length : Int)) <| (gd (0 ≤ (a0 + (1 : Int)) ∧ (a0 + (1 : Int)) < (a1.length : Int)) <| (gd (0 ≤ a0 ∧ a0 < (a1.length : Int)) <| (gd (0 ≤ a0 ∧ a0 < (a1.length : Int)) <| (gd (0 ≤ a0 ∧ a0 < (a1.length : Int)) <| (gd (0 ≤ a0 ∧ a0 < (a1.length : Int)) <| (gd (0 ≤ (a0 + (1 : Int)) ∧ (a0 + (1 : Int)) < ((zal a1 (zac a0) ((el a1 (a0 + (1 : Int))).1, (el a1 (a0 + (1 : Int))).2.1, ((el a1 (a0 + (1 : Int))).2.2))).length : Int)) <| (gd (0 ≤ (a0 + (1 : Int)) ∧ (a0 + (1 : Int)) < ((zal a1 (zac a0) ((el a1 (a0 + (1 : Int))).1, (el a1 (a0 + (1 : Int))).2.1, ((el a1 (a0 + (1 : Int))).2.2))).length : Int)) <| (gd (abx (a0 + (1 : Int))) <| (aaw fu a2 a3 (zal (zal a1 (zac a0) ((el a1 (a0 + (1 : Int))).1, (el a1 (a0 + (1 : Int))).2.1, ((el a1 (a0 + (1 : Int))).2.2))) (zac (a0 + (1 : Int))) ((el a1 a0).1, (el a1 a0).2.1, ((el a1 a0).2.2))) (a0 + (1 : Int)))))))))))))) else some a1))
def aaq (fu : Nat) (a2 : List PQ) (a3 : Int) : Nat → Int → Int → Option Int
  | 0, _, _ => none
  | a4 + 1, a0, a1 => (if a0 < a1 then (gd (abx (a0 + a1)) <| (gd (0 ≤ a3 ∧ a3 < (a2.length : Int)) <| (gd (0 ≤ a3 ∧ a3 < (a2.length : Int)) <| (gd (0 ≤ (zaa .i64 ((zaa .u64 (a0 + a1)) / 2)) ∧ (zaa .i64 ((zaa .u64 (a0 + a1)) / 2)) < (a2.length : Int)) <| (gd (0 ≤ (zaa .i64 ((zaa .u64 (a0 + a1)) / 2)) ∧ (zaa .i64 ((zaa .u64 (a0 + a1)) / 2)) < (a2.length : Int)) <| ((agl fu ((el a2 a3).1, (el a2 a3).2.1, ((el a2 a3).2.2)) ((el a2 (zaa .i64 ((zaa .u64 (a0 + a1)) / 2))).1, (el a2 (zaa .i64 ((zaa .u64 (a0 + a1)) / 2))).2.1, ((el a2 (zaa .i64 ((zaa .u64 (a0 + a1)) / 2))).2.2))).bind fun (a5 : Int) => (if a5 < (0 : Int) then (aaq fu a2 a3 a4 a0 (zaa .i64 ((zaa .u64 (a0 + a1)) / 2))) else (gd (abx ((zaa .i64 ((zaa .u64 (a0 + a1)) / 2)) + (1 : Int))) <| (aaq fu a2 a3 a4 ((zaa .i64 ((zaa .u64 (a0 + a1)) / 2)) + (1 : Int)) a1))))))))) else some a0)
def aav (fu : Nat) (a2 : Int) : Nat → (List PQ) → Int → Option (List PQ)
  | 0, _, _ => none
  | a3 + 1, a1, a0 => (if a2 < a0 then (gd (abx (a0 - (1 : Int))) <| (gd (abx (a0 - (1 : Int))) <| (gd (0 ≤ (a0 - (1 : Int)) ∧ (a0 - (1 : Int)) < (a1.length : Int)) <| (gd (0 ≤ (a0 - (1 : Int)) ∧ (a0 - (1 : Int)) < (a1.length : Int)) <| (gd (0 ≤ a0 ∧ a0 < (a1.length : Int)) <| (gd (0 ≤ a0 ∧ a0 < (a1.length : Int)) <| (gd (0 ≤ a0 ∧ a0 < (a1.length : Int)) <| (gd (0 ≤ a0 ∧ a0 < (a1.length : Int)) <| (gd (0 ≤ (a0 - (1 : Int)) ∧ (a0 - (1 : Int)) < ((zal a1 (zac a0) ((el a1 (a0 - (1 : Int))).1, (el a1 (a0 - (1 : Int))).2.1, ((el a1 (a0 - (1 : Int))).2.2))).length : Int)) <| (gd (0 ≤ (a0 - (1 : Int)) ∧ (a0 - (1 : Int)) < ((zal a1 (zac a0) ((el a1 (a0 - (1 : Int))).1, (el a1 (a0 - (1 : Int))).2.1, ((el a1 (a0 - (1 : Int))).2.2))).length : Int)) <| (gd (abx (a0 - (1 : Int))) <| (aav fu a2 a3 (zal (zal a1 (zac a0) ((el a1 (a0 - (1 : Int))).1, (el a1 (a0 - (1 : Int))).2.1, ((el a1 (a0 - (1 : Int))).2.2))) (zac (a0 - (1 : Int))) ((el a1 a0).1, (el a1 a0).2.1, ((el a1 a0).2.2))) (a0 - (1 : Int)))))))))))))) else some a1)
def aap (fu : Nat) (a2 : List PQ) (a3 : Int) (a4 : Int) (a5 : Int) : Nat → Int → Int → Option Int
  | 0, _, _ => none
  | a6 + 1, a0, a1 => (if a0 < a1 then (gd (abx (a0 + a1)) <| (gd (abx ((((zaa .i64 ((zaa .u64 (a3 + a5)) / 2)) + a4) - (1 : Int)) - (zaa .i64 ((zaa .u64 (a0 + a1)) / 2)))) <| (gd (0 ≤ ((((zaa .i64 ((zaa .u64 (a3 + a5)) / 2)) + a4) - (1 : Int)) - (zaa .i64 ((zaa .u64 (a0 + a1)) / 2))) ∧ ((((zaa .i64 ((zaa .u64 (a3 + a5)) / 2)) + a4) - (1 : Int)) - (zaa .i64 ((zaa .u64 (a0 + a1)) / 2))) < (a2.length : Int)) <| (gd (0 ≤ ((((zaa .i64 ((zaa .u64 (a3 + a5)) / 2)) + a4) - (1 : Int)) - (zaa .i64 ((zaa .u64 (a0 + a1)) / 2))) ∧ ((((zaa .i64 ((zaa .u64 (a3 + a5)) / 2)) + a4) - (1 : Int)) - (zaa .i64 ((zaa .u64 (a0 + a1)) / 2))) < (a2.length : Int)) <| (gd (0 ≤ (zaa .i64 ((zaa .u64 (a0 + a1)) / 2)) ∧ (zaa .i64 ((zaa .u64 (a0 + a1)) / 2)) < (a2.length : Int)) <| (gd (0 ≤ (zaa .i64 ((zaa .u64 (a0 + a1)) / 2)) ∧ (zaa .i64 ((zaa .u64 (a0 + a1)) / 2)) < (a2.length : Int)) <| ((agl fu ((el a2 ((((zaa .i64 ((zaa .u64 (a3 + a5)) / 2)) + a4) - (1 : Int)) - (zaa .i64 ((zaa .u64 (a0 + a1)) / 2)))).1, (el a2 ((((zaa .i64 ((zaa .u64 (a3 + a5)) / 2)) + a4) - (1 : Int)) - (zaa .i64 ((zaa .u64 (a0 + a1)) / 2)))).2.1, ((el a2 ((((zaa .i64 ((zaa .u64 (a3 + a5)) / 2)) + a4) - (1 : Int)) - (zaa .i64 ((zaa .u64 (a0 + a1)) / 2)))).2.2)) ((el a2 (zaa .i64 ((zaa .u64 (a0 + a1)) / 2))).1, (el a2 (zaa .i64 ((zaa .u64 (a0 + a1)) / 2))).2.1, ((el a2 (zaa .i64 ((zaa .u64 (a0 + a1)) / 2))).2.2))).bind fun (a7 : Int) => (if a7 < (0 : Int) then (aap fu a2 a3 a4 a5 a6 a0 (zaa .i64 ((zaa .u64 (a0 + a1)) / 2))) else (gd (abx ((zaa .i64 ((zaa .u64 (a0 + a1)) / 2)) + (1 : Int))) <| (aap fu a2 a3 a4 a5 a6 ((zaa .i64 ((zaa .u64 (a0 + a1)) / 2)) + (1 : Int)) a1)))))))))) else some a0)
def aao : Nat → (List PQ) → Int → Int → Int → Option (List PQ)
  | 0, _, _, _, _ => none
  | fu + 1, a4, a0, a2, a1 => (((gd (abx (a2 - a0)) <| (if (a2 - a0) = (1 : Int) then (((aar fu a4 a0 fu a2 a1)).bind fun (a8 : Int) => (((aaw fu a8 fu a4 a0)).bind fun (a9 : List PQ) => some (.inr a9))) else some (.inl ())))).bind fun (b0 : (Unit ⊕ (List PQ))) => zay (fun (c0 : Unit) => (((gd (abx (a1 - a2)) <| (if (a1 - a2) = (1 : Int) then (((aaq fu a4 a2 fu a0 a2)).bind fun (b1 : Int) => (((aav fu b1 fu a4 a2)).bind fun (b2 : List PQ) => some (.inr b2))) else some (.inl ())))).bind fun (b3 : (Unit ⊕ (List PQ))) => zay (fun (c1 : Unit) => (gd (abx (a0 + a1)) <| (gd (abx ((zaa .i64 ((zaa .u64 (a0 + a1)) / 2)) + a2)) <| (((if (zaa .i64 ((zaa .u64 (a0 + a1)) / 2)) < a2 then (gd (abx (((zaa .i64 ((zaa .u64 (a0 + a1)) / 2)) + a2) - a1)) <| some (((zaa .i64 ((zaa .u64 (a0 + a1)) / 2)) + a2) - a1, zaa .i64 ((zaa .u64 (a0 + a1)) / 2))) else some (a0, a2))).bind fun (a5 : (Int × Int)) => (gd (abx (((zaa .i64 ((zaa .u64 (a0 + a1)) / 2)) + a2) - (1 : Int))) <| (((aap fu a4 a0 a2 a1 fu a5.1 a5.2)).bind fun (a3 : Int) => (gd (abx (((zaa .i64 ((zaa .u64 (a0 + a1)) / 2)) + a2) - a3)) <| (((((if a3 < a2 then some (decide (a2 < (((zaa .i64 ((zaa .u64 (a0 + a1)) / 2)) + a2) - a3))) else some false)).bind fun (b4 : Bool) => (bif b4 then ((abo fu a4 a3 a2 (((zaa .i64 ((zaa .u64 (a0 + a1)) / 2)) + a2) - a3)).bind fun (b5 : List PQ) => some b5) else some a4))).bind fun (a6 : List PQ) => (((((if a0 < a3 then some (decide (a3 < (zaa .i64 ((zaa .u64 (a0 + a1)) / 2)))) else some false)).bind fun (b6 : Bool) => (bif b6 then ((aao fu a6 a0 a3 (zaa .i64 ((zaa .u64 (a0 + a1)) / 2))).bind fun (b7 : List PQ) => some b7) else some a6))).bind fun (a7 : List PQ) => (((if (zaa .i64 ((zaa .u64 (a0 + a1)) / 2)) < (((zaa .i64 ((zaa .u64 (a0 + a1)) / 2)) + a2) - a3) then some (decide ((((zaa .i64 ((zaa .u64 (a0 + a1)) / 2)) + a2) - a3) < a1)) else some false)).bind fun (b8 : Bool) => (bif b8 then ((aao fu a7 (zaa .i64 ((zaa .u64 (a0 + a1)) / 2)) (((zaa .i64 ((zaa .u64 (a0 + a1)) / 2)) + a2) - a3) a1).bind fun (b9 : List PQ) => some b9) else some a7))))))))))) (fun q => some q) b3)) (fun q => some q) b0)
def aai (fu : Nat) (a1 : Int) : Nat → (List PQ) → Int → Int → Option ((List PQ) × Int)
  | 0, _, _, _ => none
  | a4 + 1, a2, a3, a0 => (if a0 ≤ a1 then ((aan fu a2 a3 a0).bind fun (a5 : List PQ) => (gd (abx (a0 + (20 : Int))) <| (aai fu a1 a4 a5 a0 (a0 + (20 : Int))))) else some (a2, a3))
def aas (fu : Nat) (a3 : Int) (a0 : Int) : Nat → (List PQ) → Int → Int → Option ((List PQ) × Int)
  | 0, _, _, _ => none
  | a5 + 1, a4, a2, a1 => (if a1 ≤ a3 then (gd (abx (a2 + a0)) <| ((aao fu a4 a2 (a2 + a0) a1).bind fun (a6 : List PQ) => (gd (abx ((2 : Int) * a0)) <| (gd (abx (a1 + ((2 : Int) * a0))) <| (aas fu a3 a0 a5 a6 a1 (a1 + ((2 : Int) * a0))))))) else some (a4, a2))
def aaf (fu : Nat) (a1 : Int) : Nat → (List PQ) → Int → Option (List PQ)
  | 0, _, _ => none
  | a3 + 1, a4, a0 => (if a0 < a1 then (gd (abx ((2 : Int) * a0)) <| (((aas fu a1 a0 fu a4 (0 : Int) ((2 : Int) * a0))).bind fun (a2 : ((List PQ) × Int)) => (gd (abx (a2.2 + a0)) <| (if (a2.2 + a0) < a1 then ((aao fu a2.1 a2.2 (a2.2 + a0) a1).bind fun (a5 : List PQ) => (gd (abx (a0 * (2 : Int))) <| (aaf fu a1 a3 a5 (a0 * (2 : Int))))) else (gd (abx (a0 * (2 : Int))) <| (aaf fu a1 a3 a2.1 (a0 * (2 : Int)))))))) else some a4)
def ack (fu : Nat) (a2 : List PQ) (a0 : Int) : Option (List PQ) :=
  (((aai fu a0 fu a2 (0 : Int) (20 : Int))).bind fun (a1 : ((List PQ) × Int)) => ((aan fu a1.1 a1.2 a0).bind fun (a3 : List PQ) => (aaf fu a0 fu a3 (20 : Int))))
def aci (fu : Nat) (a0 : List PQ) : Option (List PQ) :=
  ((ack fu a0 (a0.length : Int)).bind fun (y1 : List PQ) => some y1)
def abc (fu : Nat) (a0 : List PQ) : Option (List PQ) :=
  ((adp fu a0).bind fun (y1 : List PQ) => ((aci fu y1).bind fun (y9 : List PQ) => some y9))
def aeq (fu : Nat) (a0 : List PQ) : Option (List PQ) :=
  ((ahm fu a0).bind fun (y1 : List PQ) => ((abc fu a0).bind fun (y7 : List PQ) => some y7))
def adv (fu : Nat) (a1 : (Str × Str × Int × Str × (List PQ))) : Nat → (List PQ) → Int → Option (List PQ)
  | 0, _, _ => none
  | a3 + 1, a2, a0 => (if a0 < (a1.2.2.2.2.length : Int) then (gd (0 ≤ a0 ∧ a0 < (a1.2.2.2.2.length : Int)) <| (gd (0 ≤ a0 ∧ a0 < (a1.2.2.2.2.length : Int)) <| (if ((el a1.2.2.2.2 a0).1) = ([98, 114, 97, 110, 99, 104] : Str) then (gd (abx (a0 + (1 : Int))) <| (adv fu a1 a3 a2 (a0 + (1 : Int)))) else (gd ((a2.length + ([((el a1.2.2.2.2 a0).1, (el a1.2.2.2.2 a0).2.1, ((el a1.2.2.2.2 a0).2.2))] : List PQ).length) * 40 ≤ 140737488355328) <| (gd (abx (a0 + (1 : Int))) <| (adv fu a1 a3 (a2 ++ ([((el a1.2.2.2.2 a0).1, (el a1.2.2.2.2 a0).2.1, ((el a1.2.2.2.2 a0).2.2))] : List PQ)) (a0 + (1 : Int)))))))) else some a2)
def ajx (fu : Nat) (a0 : (Str × Str × Int × Str × (List PQ))) : Option (Str × UInt8) :=
  ((agq fu a0.2.1).bind fun (y4 : (Str × Bool)) => (((bif (!y4.2) then some true else ((aie fu a0.1).bind fun (a5 : Bool) => (bif (!a5) then some true else (if a0.2.2.1 < (0 : Int) then some true else some (decide ((65535 : Int) < a0.2.2.1))))))).bind fun (a6 : Bool) => (bif a6 then some (([] : Str), (2 : UInt8)) else (((adv fu a0 fu ([] : List PQ) (0 : Int))).bind fun (a2 : List PQ) => (((if a0.2.2.2.1 = ([] : Str) then some a2 else (gd ((a2.length + ([(([98, 114, 97, 110, 99, 104] : Str), a0.2.2.2.1, true)] : List PQ).length) * 40 ≤ 140737488355328) <| some (a2 ++ ([(([98, 114, 97, 110, 99, 104] : Str), a0.2.2.2.1, true)] : List PQ))))).bind fun (a7 : List PQ) => ((aeq fu a7).bind fun (a8 : List PQ) => ((acu fu a8).bind fun (a3 : (Str × UInt8)) => (if a3.2 = (0 : UInt8) then (((if a0.2.2.1 = (0 : Int) then some y4.1 else (gd (abx a0.2.2.1) <| (gd (([58] : Str).length + (Lib.itoa a0.2.2.1).length ≤ 9223372036854775807) <| (gd (y4.1.length + (([58] : Str) ++ (Lib.itoa a0.2.2.1)).length ≤ 9223372036854775807) <| some (y4.1 ++ (([58] : Str) ++ (Lib.itoa a0.2.2.1)))))))).bind fun (a4 : Str) => ((acj fu a0.1).bind fun (a1 : Str) => (gd (([83, 73, 80, 47, 50, 46, 48, 47] : Str).length + a1.length ≤ 9223372036854775807) <| (gd ((([83, 73, 80, 47, 50, 46, 48, 47] : Str) ++ a1).length + ([32] : Str).length ≤ 9223372036854775807) <| (gd (((([83, 73, 80, 47, 50, 46, 48, 47] : Str) ++ a1) ++ ([32] : Str)).length + a4.length ≤ 9223372036854775807) <| (gd ((((([83, 73, 80, 47, 50, 46, 48, 47] : Str) ++ a1) ++ ([32] : Str)) ++ a4).length + a3.1.length ≤ 9223372036854775807) <| some ((((([83, 73, 80, 47, 50, 46, 48, 47] : Str) ++ a1) ++ ([32] : Str)) ++ a4) ++ a3.1, (0 : UInt8)))))))) else some (([] : Str), (2 : UInt8))))))))))
def aja (fu : Nat) (s_0 : Str) : Option Bool :=
  (((if s_0 = ([] : Str) then some false else ((ahf fu s_0 (0 : Int)).bind fun (a0 : Int) => some (decide (a0 = (s_0.length : Int)))))).bind fun (a1 : Bool) => some a1)
def agw (fu : Nat) (a2 : List PQ) (a3 : List PQ) (a1 : Int) : Nat → Int → Option Int
  | 0, _ => none
  | a4 + 1, a0 => (((if (0 : Int) < a0 then (gd (abx (a0 - (1 : Int))) <| (gd (0 ≤ (a0 - (1 : Int)) ∧ (a0 - (1 : Int)) < (a3.length : Int)) <| (gd (0 ≤ (a0 - (1 : Int)) ∧ (a0 - (1 : Int)) < (a3.length : Int)) <| (gd (0 ≤ a1 ∧ a1 < (a2.length : Int)) <| (gd (0 ≤ a1 ∧ a1 < (a2.length : Int)) <| some (!(zaF ((el a3 (a0 - (1 : Int))).1) ((el a2 a1).1) || ((el a3 (a0 - (1 : Int))).1) == ((el a2 a1).1)))))))) else some false)).bind fun (a5 : Bool) => (bif a5 then (gd (abx (a0 - (1 : Int))) <| (agw fu a2 a3 a1 a4 (a0 - (1 : Int)))) else some a0))
def afr (fu : Nat) (a1 : List PQ) : Nat → (List PQ) → Int → Option (List PQ)
  | 0, _, _ => none
  | a4 + 1, a2, a0 => (if a0 < (a1.length : Int) then (((((agw fu a1 a2 a0 fu (a2.length : Int))).bind fun (a3 : Int) => (gd (0 ≤ a3 ∧ a3 ≤ (a2.length : Int)) <| (gd ((([] : List PQ).length + (zaz (zac a3) a2).length) * 40 ≤ 140737488355328) <| (gd (0 ≤ a0 ∧ a0 < (a1.length : Int)) <| (gd (0 ≤ a0 ∧ a0 < (a1.length : Int)) <| (gd (((([] : List PQ) ++ (zaz (zac a3) a2)).length + ([((el a1 a0).1, (el a1 a0).2.1, ((el a1 a0).2.2))] : List PQ).length) * 40 ≤ 140737488355328) <| (gd (0 ≤ a3 ∧ a3 ≤ (a2.length : Int)) <| (gd ((((([] : List PQ) ++ (zaz (zac a3) a2)) ++ ([((el a1 a0).1, (el a1 a0).2.1, ((el a1 a0).2.2))] : List PQ)).length + (zam (zac a3) a2).length) * 40 ≤ 140737488355328) <| some (((([] : List PQ) ++ (zaz (zac a3) a2)) ++ ([((el a1 a0).1, (el a1 a0).2.1, ((el a1 a0).2.2))] : List PQ)) ++ (zam (zac a3) a2))))))))))).bind fun (a5 : List PQ) => (gd (abx (a0 + (1 : Int))) <| (afr fu a1 a4 a5 (a0 + (1 : Int))))) else some a2)
def amn (fu : Nat) (a0 : List PQ) : Option (List PQ) :=
  (((afr fu a0 fu ([] : List PQ) (0 : Int))).bind fun (a1 : List PQ) => some a1)
def agi (fu : Nat) (s_0 : Str) : Nat → Int → Option (Unit ⊕ Bool)
  | 0, _ => none
  | a1 + 1, a0 => (if a0 < (s_0.length : Int) then (gd (0 ≤ a0 ∧ a0 < (s_0.length : Int)) <| ((aim fu (at_ s_0 a0)).bind fun (a2 : Bool) => (bif a2 then some (.inr false) else (gd (abx (a0 + (1 : Int))) <| (agi fu s_0 a1 (a0 + (1 : Int))))))) else some (.inl ()))
def alw (fu : Nat) (s_0 : Str) : Option Bool :=
  (((agi fu s_0 fu (0 : Int))).bind fun (a0 : (Unit ⊕ Bool)) => zay (fun (a1 : Unit) => some true) (fun q => some q) a0)
def aij (fu : Nat) (s_0 : Str) : Option Bool :=
  ((ake fu s_0).bind fun (y1 : (Str × Bool)) => (((bif y1.2 then (if y1.1 = s_0 then (gd (0 ≤ (0 : Int) ∧ (0 : Int) < (s_0.length : Int)) <| some (decide ((at_ s_0 (0 : Int)) = (91 : UInt8)))) else some false) else some false)).bind fun (a0 : Bool) => some a0))
def afk (fu : Nat) (s_0 : Str) : Nat → (List UInt8) → Int → Option ((List UInt8) ⊕ (Str × UInt8))
  | 0, _, _ => none
  | a3 + 1, a1, a0 => (if a0 < (s_0.length : Int) then (gd (0 ≤ a0 ∧ a0 < (s_0.length : Int)) <| ((aim fu (at_ s_0 a0)).bind fun (a4 : Bool) => (bif a4 then some (.inr (([] : Str), (5 : UInt8))) else (((((gd (0 ≤ a0 ∧ a0 < (s_0.length : Int)) <| (if (at_ s_0 a0) = (34 : UInt8) then some true else (gd (0 ≤ a0 ∧ a0 < (s_0.length : Int)) <| some (decide ((at_ s_0 a0) = (92 : UInt8))))))).bind fun (a5 : Bool) => (bif a5 then (gd ((a1.length + ([(92 : UInt8)] : List UInt8).length) * 1 ≤ 140737488355328) <| some (a1 ++ ([(92 : UInt8)] : List UInt8))) else some a1))).bind fun (a2 : List UInt8) => (gd (0 ≤ a0 ∧ a0 < (s_0.length : Int)) <| (gd ((a2.length + ([at_ s_0 a0] : List UInt8).length) * 1 ≤ 140737488355328) <| (gd (abx (a0 + (1 : Int))) <| (afk fu s_0 a3 (a2 ++ ([at_ s_0 a0] : List UInt8)) (a0 + (1 : Int)))))))))) else some (.inl a1))
def anj (fu : Nat) (s_0 : Str) : Option (Str × UInt8) :=
  (((afk fu s_0 fu ([(34 : UInt8)] : List UInt8) (0 : Int))).bind fun (a1 : ((List UInt8) ⊕ (Str × UInt8))) => zay (fun (a0 : List UInt8) => (gd ((a0.length + ([(34 : UInt8)] : List UInt8).length) * 1 ≤ 140737488355328) <| some (a0 ++ ([(34 : UInt8)] : List UInt8), (0 : UInt8)))) (fun q => some q) a1)
def acr (fu : Nat) (a1 : List PQ) : Nat → Str → Int → Option (Str ⊕ (Str × UInt8))
  | 0, _, _ => none
  | a3 + 1, a2, a0 => (if a0 < (a1.length : Int) then (gd (0 ≤ a0 ∧ a0 < (a1.length : Int)) <| (gd (0 ≤ a0 ∧ a0 < (a1.length : Int)) <| ((((aja fu ((el a1 a0).1)).bind fun (a5 : Bool) => (bif (!a5) then some true else ((agx fu ((el a1 a0).1)).bind fun (a6 : Str) => (if a6 = ((el a1 a0).1) then ((alw fu ((el a1 a0).2.1)).bind fun (a7 : Bool) => (bif (!a7) then some true else (bif (!((el a1 a0).2.2)) then (if ((el a1 a0).2.1) = ([] : Str) then (gd (0 ≤ a0 ∧ a0 ≤ (a1.length : Int)) <| ((aif fu (zaz (zac a0) a1) ((el a1 a0).1)).bind fun (a8 : UInt8) => some (!decide (a8 = (0 : UInt8))))) else some true) else (gd (0 ≤ a0 ∧ a0 ≤ (a1.length : Int)) <| ((aif fu (zaz (zac a0) a1) ((el a1 a0).1)).bind fun (a9 : UInt8) => some (!decide (a9 = (0 : UInt8)))))))) else some true))))).bind fun (b0 : Bool) => (bif b0 then some (.inr (([] : Str), (2 : UInt8))) else (gd (a2.length + ([59] : Str).length ≤ 9223372036854775807) <| (gd ((a2 ++ ([59] : Str)).length + ((el a1 a0).1).length ≤ 9223372036854775807) <| (((bif ((el a1 a0).2.2) then ((aja fu ((el a1 a0).2.1)).bind fun (b1 : Bool) => (bif b1 then some true else ((aij fu ((el a1 a0).2.1)).bind fun (b2 : Bool) => some b2))) else some false)).bind fun (b3 : Bool) => (bif b3 then (gd (((a2 ++ ([59] : Str)) ++ ((el a1 a0).1)).length + ([61] : Str).length ≤ 9223372036854775807) <| (gd ((((a2 ++ ([59] : Str)) ++ ((el a1 a0).1)) ++ ([61] : Str)).length + ((el a1 a0).2.1).length ≤ 9223372036854775807) <| (gd (abx (a0 + (1 : Int))) <| (acr fu a1 a3 ((((a2 ++ ([59] : Str)) ++ ((el a1 a0).1)) ++ ([61] : Str)) ++ ((el a1 a0).2.1)) (a0 + (1 : Int)))))) else (bif ((el a1 a0).2.2) then ((anj fu ((el a1 a0).2.1)).bind fun (a4 : (Str × UInt8)) => (gd (((a2 ++ ([59] : Str)) ++ ((el a1 a0).1)).length + ([61] : Str).length ≤ 9223372036854775807) <| (gd ((((a2 ++ ([59] : Str)) ++ ((el a1 a0).1)) ++ ([61] : Str)).length + a4.1.length ≤ 9223372036854775807) <| (gd (abx (a0 + (1 : Int))) <| (acr fu a1 a3 ((((a2 ++ ([59] : Str)) ++ ((el a1 a0).1)) ++ ([61] : Str)) ++ a4.1) (a0 + (1 : Int))))))) else (gd (abx (a0 + (1 : Int))) <| (acr fu a1 a3 ((a2 ++ ([59] : Str)) ++ ((el a1 a0).1)) (a0 + (1 : Int))))))))))))) else some (.inl a2))
def ail (fu : Nat) (a0 : List PQ) : Option (Str × UInt8) :=
  (((acr fu a0 fu ([] : Str) (0 : Int))).bind fun (a1 : (Str ⊕ (Str × UInt8))) => zay (fun (a2 : Str) => some (a2, (0 : UInt8))) (fun q => some q) a1)
def aho : Nat → Int → Option Str
  | 0, _ => none
  | fu + 1, a0 => (if a0 < (10 : Int) then (gd (abx (a0 + (1 : Int))) <| (gd (0 ≤ a0 ∧ a0 ≤ (a0 + (1 : Int)) ∧ (a0 + (1 : Int)) ≤ (([48, 49, 50, 51, 52, 53, 54, 55, 56, 57] : Str).length : Int)) <| some (sub ([48, 49, 50, 51, 52, 53, 54, 55, 56, 57] : Str) a0 (a0 + (1 : Int))))) else (gd (0 ≤ a0 ∧ 0 < (10 : Int) ∧ abx (a0)) <| ((aho fu (a0 / (10 : Int))).bind fun (y5 : Str) => (gd (0 ≤ a0 ∧ 0 < (10 : Int) ∧ abx (a0)) <| (gd (0 ≤ a0 ∧ 0 < (10 : Int) ∧ abx (a0)) <| (gd (abx ((a0 % (10 : Int)) + (1 : Int))) <| (gd (0 ≤ (a0 % (10 : Int)) ∧ (a0 % (10 : Int)) ≤ ((a0 % (10 : Int)) + (1 : Int)) ∧ ((a0 % (10 : Int)) + (1 : Int)) ≤ (([48, 49, 50, 51, 52, 53, 54, 55, 56, 57] : Str).length : Int)) <| (gd (y5.length + (sub ([48, 49, 50, 51, 52, 53, 54, 55, 56, 57] : Str) (a0 % (10 : Int)) ((a0 % (10 : Int)) + (1 : Int))).length ≤ 9223372036854775807) <| some (y5 ++ (sub ([48, 49, 50, 51, 52, 53, 54, 55, 56, 57] : Str) (a0 % (10 : Int)) ((a0 % (10 : Int)) + (1 : Int))))))))))))
def aed (fu : Nat) (a1 : (Str × Str × Int × Str × (List PQ))) : Nat → (List PQ) → Int → Option (List PQ)
  | 0, _, _ => none
  | a3 + 1, a2, a0 => (if a0 < (a1.2.2.2.2.length : Int) then (gd (0 ≤ a0 ∧ a0 < (a1.2.2.2.2.length : Int)) <| (gd (0 ≤ a0 ∧ a0 < (a1.2.2.2.2.length : Int)) <| (if ((el a1.2.2.2.2 a0).1) = ([98, 114, 97, 110, 99, 104] : Str) then (gd (abx (a0 + (1 : Int))) <| (aed fu a1 a3 a2 (a0 + (1 : Int)))) else (gd (0 ≤ a0 ∧ a0 < (a1.2.2.2.2.length : Int)) <| (gd (0 ≤ a0 ∧ a0 < (a1.2.2.2.2.length : Int)) <| (gd ((a2.length + ([((el a1.2.2.2.2 a0).1, (el a1.2.2.2.2 a0).2.1, ((el a1.2.2.2.2 a0).2.2))] : List PQ).length) * 40 ≤ 140737488355328) <| (gd (abx (a0 + (1 : Int))) <| (aed fu a1 a3 (a2 ++ ([((el a1.2.2.2.2 a0).1, (el a1.2.2.2.2 a0).2.1, ((el a1.2.2.2.2 a0).2.2))] : List PQ)) (a0 + (1 : Int)))))))))) else some a2)
def akr (fu : Nat) (a0 : (Str × Str × Int × Str × (List PQ))) : Option (Str × UInt8) :=
  ((ake fu a0.2.1).bind fun (y4 : (Str × Bool)) => ((((aja fu a0.1).bind fun (a5 : Bool) => (bif (!a5) then some true else (bif (!y4.2) then some true else (if a0.2.2.1 < (0 : Int) then some true else some (decide ((65535 : Int) < a0.2.2.1))))))).bind fun (a6 : Bool) => (bif a6 then some (([] : Str), (2 : UInt8)) else (((aed fu a0 fu ([] : List PQ) (0 : Int))).bind fun (a3 : List PQ) => (((if a0.2.2.2.1 = ([] : Str) then some a3 else (gd ((a3.length + ([(([98, 114, 97, 110, 99, 104] : Str), a0.2.2.2.1, true)] : List PQ).length) * 40 ≤ 140737488355328) <| some (a3 ++ ([(([98, 114, 97, 110, 99, 104] : Str), a0.2.2.2.1, true)] : List PQ))))).bind fun (a7 : List PQ) => ((amn fu a7).bind fun (a8 : List PQ) => ((ail fu a8).bind fun (a2 : (Str × UInt8)) => (if a2.2 = (0 : UInt8) then ((aki fu a0.1).bind fun (a1 : Str) => (gd (([83, 73, 80, 47, 50, 46, 48, 47] : Str).length + a1.length ≤ 9223372036854775807) <| (gd ((([83, 73, 80, 47, 50, 46, 48, 47] : Str) ++ a1).length + ([32] : Str).length ≤ 9223372036854775807) <| (gd (((([83, 73, 80, 47, 50, 46, 48, 47] : Str) ++ a1) ++ ([32] : Str)).length + y4.1.length ≤ 9223372036854775807) <| (if (0 : Int) < a0.2.2.1 then (gd ((((([83, 73, 80, 47, 50, 46, 48, 47] : Str) ++ a1) ++ ([32] : Str)) ++ y4.1).length + ([58] : Str).length ≤ 9223372036854775807) <| ((aho fu a0.2.2.1).bind fun (a4 : Str) => (gd (((((([83, 73, 80, 47, 50, 46, 48, 47] : Str) ++ a1) ++ ([32] : Str)) ++ y4.1) ++ ([58] : Str)).length + a4.length ≤ 9223372036854775807) <| (gd ((((((([83, 73, 80, 47, 50, 46, 48, 47] : Str) ++ a1) ++ ([32] : Str)) ++ y4.1) ++ ([58] : Str)) ++ a4).length + a2.1.length ≤ 9223372036854775807) <| some ((((((([83, 73, 80, 47, 50, 46, 48, 47] : Str) ++ a1) ++ ([32] : Str)) ++ y4.1) ++ ([58] : Str)) ++ a4) ++ a2.1, (0 : UInt8)))))) else (gd ((((([83, 73, 80, 47, 50, 46, 48, 47] : Str) ++ a1) ++ ([32] : Str)) ++ y4.1).length + a2.1.length ≤ 9223372036854775807) <| some ((((([83, 73, 80, 47, 50, 46, 48, 47] : Str) ++ a1) ++ ([32] : Str)) ++ y4.1) ++ a2.1, (0 : UInt8)))))))) else some (([] : Str), (2 : UInt8))))))))))
def aec (fu : Nat) (a1 : List PQ) (a2 : List PQ) : Nat → Int → Option (Unit ⊕ Bool)
  | 0, _ => none
  | a3 + 1, a0 => (if a0 < (a1.length : Int) then (gd (0 ≤ a0 ∧ a0 < (a1.length : Int)) <| (gd (0 ≤ a0 ∧ a0 < (a1.length : Int)) <| (gd (0 ≤ a0 ∧ a0 < (a2.length : Int)) <| (gd (0 ≤ a0 ∧ a0 < (a2.length : Int)) <| (if ((el a1 a0).1, (el a1 a0).2.1, ((el a1 a0).2.2)) = ((el a2 a0).1, (el a2 a0).2.1, ((el a2 a0).2.2)) then (gd (abx (a0 + (1 : Int))) <| (aec fu a1 a2 a3 (a0 + (1 : Int)))) else some (.inr false)))))) else some (.inl ()))
def aiy (fu : Nat) (a0 : List PQ) (a1 : List PQ) : Option Bool :=
  (if (a0.length : Int) = (a1.length : Int) then (((aec fu a0 a1 fu (0 : Int))).bind fun (a2 : (Unit ⊕ Bool)) => zay (fun (a3 : Unit) => some true) (fun q => some q) a2) else some false)
def anf (fu : Nat) (a0 : (Str × Str × Int × Str × (List PQ))) (a1 : (Str × Str × Int × Str × (List PQ))) : Option Bool :=
  (((if a0.1 = a1.1 then (if a0.2.1 = a1.2.1 then (if a0.2.2.1 = a1.2.2.1 then (if a0.2.2.2.1 = a1.2.2.2.1 then ((aiy fu a0.2.2.2.2 a1.2.2.2.2).bind fun (a2 : Bool) => some a2) else some false) else some false) else some false) else some false)).bind fun (a3 : Bool) => some a3)
def alg (fu : Nat) (a1 : Str) (a0 : (Str × Str × Int × Str × (List PQ))) : Option Bool :=
  (if (40 : Int) < (a0.2.2.2.2.length : Int) then ((ank fu).bind fun (y5 : Bool) => some y5) else ((amz fu a1).bind fun (a2 : ((Str × Str × Int × Str × (List PQ)) × UInt8)) => ((apt fu a1).bind fun (a3 : ((Str × Str × Int × Str × (List PQ)) × UInt8)) => ((ajx fu a0).bind fun (a4 : (Str × UInt8)) => ((akr fu a0).bind fun (a5 : (Str × UInt8)) => ((((anf fu a2.1 a3.1).bind fun (a6 : Bool) => (bif a6 then (if a2.2 = a3.2 then (if a4.1 = a5.1 then (if a4.2 = a5.2 then ((ank fu).bind fun (a7 : Bool) => some a7) else some false) else some false) else some false) else some false))).bind fun (a8 : Bool) => some a8))))))
end Go.Wk
set_option maxRecDepth 100000
namespace Go.Wk
open Go.Px
open Int renaming toNat → zac
open List renaming length_append → zaf, length_cons → zae, length_nil → zao, length_singleton → zag, set → zal
open Option renaming bind_some → zab
def FU : Nat := 18446744073709551616
theorem ahk : FU = 18446744073709551616 := rfl
theorem at_mid (p : Str) (c : UInt8) (l : Str) : at_ (p ++ c :: l) (p.length : Int) = c := by simp [at_]
theorem set_mid (p : Str) (c x : UInt8) (l : Str) : zal (p ++ c :: l) (zac (p.length : Int)) x = (p ++ [x]) ++ l := by simp
theorem aip (p : Str) (x : UInt8) : ((p.length : Int) + 1) = ((p ++ [x]).length : Int) := by simp
theorem ahb (a : Int) (h0 : 0 ≤ a) (h : a ≤ 9223372036854775807) : abx a := ⟨by omega, by omega⟩
theorem char_token (fu : Nat) (c : UInt8) : ajb fu c = some (acz c) := by
  show ajb 0 c = _
  revert c; exact aff _ (by decide +kernel)
theorem ref_char_token : ∀ c : UInt8, ajw FU c = some (acz c) := aff _ (by decide +kernel)
theorem upperByte_eq (fu : Nat) (c : UInt8) : ajc fu c = some (aqw c) := by
  show ajc 0 c = _
  revert c; exact aff _ (by decide +kernel)
theorem tokEnd_lp {fu : Nat} (s : Str) (hs : s.length ≤ 9223372036854775807) (n : Nat) : ∀ (k fk : Nat), k + n = s.length → n < fk →
    acs fu s fk (k : Int) = some ((k + ait acz (s.drop k) : Nat) : Int) := by
  induction n with
  | zero =>
    intro k fk hk hf
    obtain ⟨fk, rfl⟩ := fkx fk
    rw [acs, if_neg omg, List.drop_eq_nil_of_le omg]
    simp [ait]
  | succ n ih =>
    intro k fk hk hf
    obtain ⟨fk, rfl⟩ := fkx fk
    rw [acs, if_pos omg, aac omg, char_token, aox s k omg]
    simp only [zab]
    cases h : acz (at_ s k)
    · simp [ait, h]
    · rw [cond_true]
      rw [aac (ahb _ omg omg)]
      have e : ((k : Int) + 1) = ((k + 1 : Nat) : Int) := rfl
      rw [e, ih (k + 1) fk omg omg]
      have e2 : ait acz (at_ s k :: s.drop (k + 1)) = 1 + ait acz (s.drop (k + 1)) := by simp [ait, h, Nat.add_comm]
      rw [e2, Nat.add_assoc]
theorem refTokEnd_lp {fu : Nat} (hc : ∀ c, ajw fu c = some (acz c)) (s : Str) (hs : s.length ≤ 9223372036854775807) (n : Nat) : ∀ (k fk : Nat), k + n = s.length → n < fk →
    afn fu s fk (k : Int) = some ((k + ait acz (s.drop k) : Nat) : Int) := by
  induction n with
  | zero =>
    intro k fk hk hf
    obtain ⟨fk, rfl⟩ := fkx fk
    rw [afn, if_neg omg, List.drop_eq_nil_of_le omg]
    simp [ait]
  | succ n ih =>
    intro k fk hk hf
    obtain ⟨fk, rfl⟩ := fkx fk
    rw [afn, if_pos omg, aac omg, hc, aox s k omg]
    simp only [zab]
    cases h : acz (at_ s k)
    · simp [ait, h]
    · rw [cond_true]
      rw [aac (ahb _ omg omg)]
      have e : ((k : Int) + 1) = ((k + 1 : Nat) : Int) := rfl
      rw [e, ih (k + 1) fk omg omg]
      have e2 : ait acz (at_ s k :: s.drop (k + 1)) = 1 + ait acz (s.drop (k + 1)) := by simp [ait, h, Nat.add_comm]
      rw [e2, Nat.add_assoc]
theorem skipTok_eq (s : Str) (hs : s.length ≤ 9223372036854775807) (i : Int) : aep FU s i = some ((ace acz s i : Nat) : Int) := by
  unfold aep ace
  have h : min (max i 0) (s.length : Int) = ((akd i s.length : Nat) : Int) := by unfold akd; omega
  have := clampN_le i s.length
  rw [h, tokEnd_lp s hs (s.length - akd i s.length) _ FU omg (by rw [ahk]; omega)]
  rfl
theorem aqf (s : Str) (hs : s.length ≤ 9223372036854775807) (i : Int) : ahf FU s i = some ((ace acz s i : Nat) : Int) := by
  unfold ahf ace
  have h : min (max i 0) (s.length : Int) = ((akd i s.length : Nat) : Int) := by unfold akd; omega
  have := clampN_le i s.length
  rw [h, refTokEnd_lp ref_char_token s hs (s.length - akd i s.length) _ FU omg (by rw [ahk]; omega)]
  rfl
theorem tok_cases (s : Str) : (if s = [] then some false else some (decide (((ace acz s 0 : Nat) : Int) = (s.length : Int)))) = some (aop s) := by
  have := tok_iff s
  by_cases h : s = []
  · subst h; rfl
  · rw [if_neg h]; congr 1
    by_cases h2 : ((ace acz s 0 : Nat) : Int) = (s.length : Int)
    · rw [decide_eq_true h2, this.1 ⟨h, h2⟩]
    · rw [decide_eq_false h2]
      cases h3 : aop s
      · rfl
      · exact absurd (this.2 h3).2 h2
theorem token_eq (s : Str) (hs : s.length ≤ 9223372036854775807) : aie FU s = some (aop s) := by
  unfold aie ahg
  rw [skipTok_eq s hs]
  simp only [zab, Option.bind_fun_some]
  exact tok_cases s
theorem refToken_eq (s : Str) (hs : s.length ≤ 9223372036854775807) : aja FU s = some (aop s) := by
  unfold aja
  rw [aqf s hs]
  simp only [zab, Option.bind_fun_some]
  exact tok_cases s
theorem mid_lt (p : Str) (c : UInt8) (l : Str) : (0 : Int) ≤ (p.length : Int) ∧ (p.length : Int) < ((p ++ c :: l).length : Int) := by
  rw [zaf, zae]; omega
theorem lowerB_up (c : UInt8) (h1 : 65 ≤ c) (h2 : c ≤ 90) : c + 32 = akq c := by simp [akq, h1, h2]
theorem aoo (c : UInt8) (h : ¬ (65 ≤ c ∧ c ≤ 90)) : akq c = c := by simp only [akq, if_neg h]
theorem refLower_lp {fu : Nat} (s : Str) (hs : s.length ≤ 9223372036854775807) (l : Str) : ∀ (p : Str) (fk : Nat), p.length + l.length = s.length → l.length < fk →
    agk fu s fk (p ++ l) (p.length : Int) = some (p ++ l.map akq) := by
  induction l with
  | nil =>
    intro p fk hk hf
    obtain ⟨fk, rfl⟩ := fkx fk
    simp only [zao] at hk
    rw [agk, if_neg omg]; rfl
  | cons c l ih0 =>
    intro p fk hk hf
    obtain ⟨fk, rfl⟩ := fkx fk
    simp only [zae] at hk hf
    have hb := mid_lt p c l
    have ih := ih0 (p ++ [akq c]) fk (by rw [zaf, zag]; omega) omg
    have ok : abx ((p.length : Int) + 1) := ahb _ omg omg
    rw [agk, if_pos omg]
    simp only [aac hb, at_mid, aac ok, set_mid]
    by_cases h1 : 65 ≤ c
    · by_cases h2 : c ≤ 90
      · simp only [if_pos h1, decide_eq_true h2, zab, cond_true, lowerB_up c h1 h2]
        rw [aip p (akq c), ih]; simp
      · simp only [if_pos h1, decide_eq_false h2, zab, cond_false]
        rw [aoo c (fun h => h2 h.2)] at ih
        rw [aip p c, show p ++ c :: l = (p ++ [c]) ++ l by simp, ih]; simp [aoo c (fun h => h2 h.2)]
    · simp only [if_neg h1, zab, cond_false]
      rw [aoo c (fun h => h1 h.1)] at ih
      rw [aip p c, show p ++ c :: l = (p ++ [c]) ++ l by simp, ih]; simp [aoo c (fun h => h1 h.1)]
theorem alp (s : Str) (hs : s.length ≤ 9223372036854775807) : agx FU s = some (acn s) := by
  unfold agx
  have := refLower_lp (fu := FU) s hs s [] FU (by simp) (by rw [ahk]; omega)
  simp only [List.nil_append, zao, Int.natCast_zero, Int.cast_ofNat_Int] at this
  rw [this]; rfl
theorem upperB_up (c : UInt8) (h1 : 97 ≤ c) (h2 : c ≤ 122) : c - 32 = aqw c := by simp [aqw, h1, h2]
theorem upperB_no (c : UInt8) (h : ¬ (97 ≤ c ∧ c ≤ 122)) : aqw c = c := by simp only [aqw, if_neg h]
open Bool renaming not_true → zar
open Go.Lib renaming trimLeftS → zaD
open List renaming drop_length → zaE, length_append → zaf, length_cons → zae, length_drop → zat, length_nil → zao, length_singleton → zag
open Nat renaming le_refl → zaL
open Sum renaming elim → zay, elim_inl → zau
theorem gok {α : Type} {p : Prop} [Decidable p] {k : Option α} (h : p := by first | omega | exact ahb _ omg omg | (simp only [zaf, zae, zao, zag]; omega)) : gd p k = k := aac h
theorem akf (k : Nat) : (k : Int) + 1 = ((k + 1 : Nat) : Int) := rfl
theorem skip_gen (p : UInt8 → Bool) (s : Str) (F : Nat → Int → Option Int)
    (h0 : ∀ fk, F (fk + 1) (s.length : Int) = some (s.length : Int))
    (h1 : ∀ fk (k : Nat), k < s.length → p (at_ s k) = false → F (fk + 1) (k : Int) = some (k : Int))
    (h2 : ∀ fk (k : Nat), k < s.length → p (at_ s k) = true → F (fk + 1) (k : Int) = F fk ((k : Int) + 1)) (n : Nat) :
    ∀ (k fk : Nat), k + n = s.length → n < fk → F fk (k : Int) = some ((k + ait p (s.drop k) : Nat) : Int) := by
  induction n with
  | zero =>
    intro k fk hk hf
    obtain ⟨fk, rfl⟩ := fkx fk
    obtain rfl : k = s.length := by omega
    rw [h0, zaE]; rfl
  | succ n ih =>
    intro k fk hk hf
    obtain ⟨fk, rfl⟩ := fkx fk
    rw [aox s k omg]
    cases h : p (at_ s k)
    · rw [h1 fk k omg h]; simp [ait, h]
    · rw [h2 fk k omg h, akf, ih (k + 1) fk omg omg]
      have e2 : ait p (at_ s k :: s.drop (k + 1)) = 1 + ait p (s.drop (k + 1)) := by simp [ait, h, Nat.add_comm]
      rw [e2, Nat.add_assoc]
theorem clamp_int (i : Int) (n : Nat) : min (max i 0) (n : Int) = ((akd i n : Nat) : Int) := by unfold akd; omega
theorem char_blank (fu : Nat) (c : UInt8) : ahs fu c = some (abd c) := by
  show ahs 0 c = _
  revert c; exact aff _ (by decide +kernel)
theorem ref_blank (fu : Nat) (c : UInt8) : akj fu c = some (abd c) := by
  show akj 0 c = _
  revert c; exact aff _ (by decide +kernel)
theorem char_control (fu : Nat) (c : UInt8) : aha fu c = some (ach c) := by
  show aha 0 c = _
  revert c; exact aff _ (by decide +kernel)
theorem ark (fu : Nat) (c : UInt8) : aim fu c = some (ach c) := by
  show aim 0 c = _
  revert c; exact aff _ (by decide +kernel)
theorem char_escaped (fu : Nat) (c : UInt8) : ahz fu c = some (aqi c) := by
  show ahz 0 c = _
  revert c; exact aff _ (by decide +kernel)
theorem blanks_eq (s : Str) (hs : s.length ≤ 4194304) (i : Int) : aig FU s i = some ((ace abd s i : Nat) : Int) := by
  unfold aig agc
  have hc := clampN_le i s.length
  rw [clamp_int, skip_gen abd s (aca FU s) ?_ ?_ ?_ (s.length - akd i s.length) _ FU omg (by rw [ahk]; omega)]
  · rfl
  · intro fk; rw [aca, if_neg omg]; rfl
  · intro fk k hk h; rw [aca, if_pos omg, gok, char_blank, h]; rfl
  · intro fk k hk h; rw [aca, if_pos omg, gok, char_blank, h, zab, zab, cond_true, gok]
theorem alq (s : Str) (hs : s.length ≤ 4194304) (i : Int) : afx FU s i = some ((ace abd s i : Nat) : Int) := by
  unfold afx
  have hc := clampN_le i s.length
  rw [clamp_int, skip_gen abd s (aft FU s) ?_ ?_ ?_ (s.length - akd i s.length) _ FU omg (by rw [ahk]; omega)]
  · rfl
  · intro fk; rw [aft, if_neg omg]; rfl
  · intro fk k hk h; rw [aft, if_pos omg, gok, ref_blank, h]; rfl
  · intro fk k hk h; rw [aft, if_pos omg, gok, ref_blank, h, zab, zab, cond_true, gok]
def rdw (p : UInt8 → Bool) (l : Str) : Str := (l.reverse.dropWhile p).reverse
theorem rdw_cons (p : UInt8 → Bool) (c : UInt8) (l : Str) : rdw p (c :: l) = if rdw p l = [] then (if p c then [] else [c]) else c :: rdw p l := by
  unfold rdw
  rw [List.reverse_cons, List.dropWhile_append]
  cases h : l.reverse.dropWhile p with
  | nil => cases hp : p c <;> simp [hp]
  | cons a t => simp
theorem rdw_snoc (p : UInt8 → Bool) (l : Str) (c : UInt8) : rdw p (l ++ [c]) = if p c then rdw p l else l ++ [c] := by
  unfold rdw
  rw [List.reverse_append, List.reverse_singleton, List.singleton_append, List.dropWhile_cons]
  split <;> simp
theorem rdw_comm (p : UInt8 → Bool) : ∀ l : Str, (rdw p l).dropWhile p = rdw p (l.dropWhile p)
  | [] => rfl
  | c :: l => by
    have ih := rdw_comm p l
    cases hp : p c
    · have e : List.dropWhile p (c :: l) = c :: l := by simp [hp]
      rw [e, rdw_cons]
      split <;> simp [hp]
    · have e : List.dropWhile p (c :: l) = l.dropWhile p := by simp [hp]
      rw [e, ← ih, rdw_cons]
      split
      · rename_i h; simp [h, hp]
      · simp [hp]
def anw (s : Str) : Str := rdw abd (s.dropWhile abd)
theorem blank_set : (fun c => ([32, 9] : Str).contains c) = abd := by
  funext c; revert c; exact aff _ (by decide +kernel)
theorem trimS_eq (s : Str) : Lib.trimS s [32, 9] = anw s := by
  unfold Lib.trimS zaD Lib.trimRightS anw
  rw [blank_set]; exact rdw_comm abd s
theorem trim_eq (s : Str) (hs : s.length ≤ 4194304) : ajd FU s = some (anw s) := by
  unfold ajd
  rw [gok, aac (by decide), trimS_eq]
theorem dropWhile_span (p : UInt8 → Bool) : ∀ l : Str, l.drop (ait p l) = l.dropWhile p
  | [] => rfl
  | c :: l => by
    have ih := dropWhile_span p l
    cases hp : p c
    · simp [ait, hp]
    · simp [ait, hp, ih]
theorem skipL_zero (p : UInt8 → Bool) (s : Str) : ace p s 0 = ait p s := by
  have h0 : akd 0 s.length = 0 := by unfold akd; omega
  unfold ace; rw [h0]; simp
theorem refTrim_lp (s : Str) (y : Int) (hs : (s.drop y.toNat).length ≤ 4194304) (n : Nat) : ∀ fk, n ≤ (s.drop y.toNat).length → n < fk →
    ∃ m : Nat, m ≤ n ∧ ahv FU s y fk (n : Int) = some (m : Int) ∧ (s.drop y.toNat).take m = rdw abd ((s.drop y.toNat).take n) := by
  induction n with
  | zero =>
    intro fk hn hf
    obtain ⟨fk, rfl⟩ := fkx fk
    exact ⟨0, zaL _, by rw [ahv, if_neg omg]; rfl, rfl⟩
  | succ n ih =>
    intro fk hn hf
    obtain ⟨fk, rfl⟩ := fkx fk
    have e : (((n + 1 : Nat) : Int) - 1) = (n : Int) := by omega
    rw [ahv, if_pos omg, e, gok, gok, ref_blank, gok, take_snoc _ n omg, rdw_snoc]
    cases h : abd (at_ (s.drop y.toNat) (n : Int))
    · exact ⟨n + 1, zaL _, rfl, by simp [take_snoc _ n (show n < (s.drop y.toNat).length by omega)]⟩
    · obtain ⟨m, h1, h2, h3⟩ := ih fk omg omg
      exact ⟨m, by omega, h2, by simpa using h3⟩
theorem refTrim_eq (s : Str) (hs : s.length ≤ 4194304) : aos FU s = some (anw s) := by
  unfold aos
  have hl := afe abd s 0
  have hd : (s.drop (((ace abd s 0 : Nat) : Int)).toNat).length ≤ 4194304 := by rw [zat]; omega
  obtain ⟨m, h1, h2, h3⟩ := refTrim_lp s _ hd _ FU (zaL _) (by rw [ahk]; omega)
  rw [alq s hs, zab, gok, h2, zab, gok]
  have e : ((m : Nat) : Int).toNat = m := by omega
  rw [e, h3, List.take_length]
  have e2 : (((ace abd s 0 : Nat) : Int)).toNat = ait abd s := by rw [skipL_zero]; omega
  rw [e2, dropWhile_span]; rfl
theorem rdw_len (p : UInt8 → Bool) (l : Str) : (rdw p l).length ≤ l.length := by
  unfold rdw; have := arm p l.reverse; simpa using this
theorem trimL_len (s : Str) : (anw s).length ≤ s.length := Nat.le_trans (rdw_len _ _) (arm _ _)
def unqL : Str → Nat → Str → Str × Int × UInt8
  | [], k, _ => ([], (k : Int), 6)
  | [c], k, acc => if c = 34 then (acc, ((k + 1 : Nat) : Int), 0) else if c = 92 then ([], ((k + 1 : Nat) : Int), 6) else if ach c then ([], (k : Int), 5) else ([], ((k + 1 : Nat) : Int), 6)
  | c :: d :: r, k, acc =>
    if c = 34 then (acc, ((k + 1 : Nat) : Int), 0)
    else if c = 92 then (if aqi d then unqL r (k + 2) (acc ++ [d]) else ([], (k : Int), 5))
    else if ach c then ([], (k : Int), 5) else unqL (d :: r) (k + 1) (acc ++ [c])
theorem unqL_cons (c : UInt8) (l : Str) (k : Nat) (acc : Str) : unqL (c :: l) k acc =
    if c = 34 then (acc, ((k + 1 : Nat) : Int), 0)
    else if c = 92 then (if l = [] then ([], ((k + 1 : Nat) : Int), 6) else if aqi (at_ l 0) then unqL (l.drop 1) (k + 2) (acc ++ [at_ l 0]) else ([], (k : Int), 5))
    else if ach c then ([], (k : Int), 5) else unqL l (k + 1) (acc ++ [c]) := by
  cases l with
  | nil => simp [unqL]
  | cons d r => simp [unqL, at_]
def unqP8 (s : Str) (i : Int) : Str × Int × UInt8 :=
  if i < 0 ∨ (s.length : Int) < i then ([], 0, 2)
  else if i = (s.length : Int) ∨ at_ s i ≠ 34 then ([], i, 5)
  else unqL (s.drop (i.toNat + 1)) (i.toNat + 1) []
theorem at_drop1 (s : Str) (k : Nat) : at_ (s.drop k) 0 = at_ s (k : Int) := by simp [at_]
theorem aqj (s : Str) (k : Nat) : s.drop k = [] ↔ s.length ≤ k := by rw [List.drop_eq_nil_iff]
def unqFin (s : Str) (j : ((Str × Int) ⊕ (Str × Int × UInt8))) : Option (Str × Int × UInt8) :=
  zay (fun (v : (Str × Int)) => (if (s.length : Int) ≤ v.2 then some (([] : Str), (s.length : Int), (6 : UInt8)) else (gd (abx (v.2 + (1 : Int))) <| some (v.1, v.2 + (1 : Int), (0 : UInt8))))) (fun q => some q) j
theorem unq_lp (s : Str) (hs : s.length ≤ 4194304) (n : Nat) : ∀ (k fk : Nat) (acc : Str), s.length - k ≤ n → n < fk → k ≤ s.length → acc.length ≤ k →
    ((aem FU s fk acc (k : Int)).bind (unqFin s)) = some (unqL (s.drop k) k acc) := by
  induction n with
  | zero =>
    intro k fk acc hn hf hk ha
    obtain ⟨fk, rfl⟩ := fkx fk
    obtain rfl : k = s.length := by omega
    rw [aem, if_neg omg, zaE, zab]
    unfold unqFin
    rw [zau, if_pos (by simp)]; rfl
  | succ n ih =>
    intro k fk acc hn hf hk ha
    obtain ⟨fk, rfl⟩ := fkx fk
    by_cases hl : k < s.length
    · rw [aox s k hl, unqL_cons, aem, if_pos omg, gok]
      by_cases h1 : at_ s (k : Int) = 34
      · rw [if_pos h1, if_pos h1, zab]
        unfold unqFin
        rw [zau, if_neg (by simp; omega), aac (ahb _ (by simp; omega) (by simp; omega))]; rfl
      · rw [if_neg h1, if_neg h1]
        by_cases h2 : at_ s (k : Int) = 92
        · rw [if_pos h2, if_pos h2, gok]
          by_cases h3 : k + 1 = s.length
          · rw [if_pos omg, if_pos ((aqj s (k + 1)).2 omg), zab]
            unfold unqFin
            rw [Sum.elim_inr, h3]
          · rw [if_neg omg, if_neg (fun h => h3 (by have := (aqj s (k + 1)).1 h; omega)), gok, gok, char_escaped, zab, at_drop1, akf]
            cases h4 : aqi (at_ s ((k + 1 : Nat) : Int))
            · rfl
            · rw [zar, cond_false, if_pos rfl, gok, gok, gok, gok, List.drop_drop, akf,
                ih (k + 1 + 1) fk _ omg omg omg (by simp; omega)]
        · rw [if_neg h2, if_neg h2, char_control, zab]
          cases h4 : ach (at_ s (k : Int))
          · rw [cond_false, if_neg (by decide), gok, gok, gok, akf, ih (k + 1) fk _ omg omg omg (by simp; omega)]
          · rfl
    · obtain rfl : k = s.length := by omega
      rw [aem, if_neg omg, zaE, zab]
      unfold unqFin
      rw [zau, if_pos (by simp)]; rfl
theorem unquote_eq (s : Str) (hs : s.length ≤ 4194304) (i : Int) : als FU s i = some (unqP8 s i) := by
  unfold als unqP8
  by_cases h1 : i < 0
  · rw [if_pos h1, if_pos (show i < 0 ∨ (s.length : Int) < i from .inl h1)]; rfl
  · rw [if_neg h1, zab]
    by_cases h2 : (s.length : Int) < i
    · rw [decide_eq_true h2, if_pos (show i < 0 ∨ (s.length : Int) < i from .inr h2)]; rfl
    · rw [decide_eq_false h2, cond_false, if_neg (show ¬ (i < 0 ∨ (s.length : Int) < i) by omega)]
      by_cases h3 : i = (s.length : Int)
      · rw [if_pos h3, if_pos (show i = (s.length : Int) ∨ at_ s i ≠ 34 from .inl h3)]; rfl
      · rw [if_neg h3, gok, zab]
        by_cases h4 : at_ s i = 34
        · rw [decide_eq_true h4, zar, cond_false, if_neg (by simp [h3, h4]), gok]
          obtain ⟨k, rfl⟩ : ∃ k : Nat, i = (k : Int) := ⟨i.toNat, by omega⟩
          exact unq_lp s hs s.length (k + 1) FU [] omg (by rw [ahk]; omega) omg (by simp)
        · rw [decide_eq_false h4, if_pos (show i = (s.length : Int) ∨ at_ s i ≠ 34 from .inr h4)]; rfl
open Go.Lib renaming join → zaB, trimLeftS → zaD
open List renaming all_cons → zaG, append_nil → zaw, drop_length → zaE, eq_nil_of_length_eq_zero → zaI, length → zaH, length_append → zaf, length_cons → zae, length_drop → zat, length_nil → zao, length_singleton → zag
open Sum renaming elim_inl → zau
theorem all_gen {β : Type} (p : UInt8 → Bool) (s : Str) (r : β) (F : Nat → Int → Option (Unit ⊕ β))
    (h0 : ∀ fk, F (fk + 1) (s.length : Int) = some (.inl ()))
    (h1 : ∀ fk (k : Nat), k < s.length → p (at_ s k) = false → F (fk + 1) (k : Int) = some (.inr r))
    (h2 : ∀ fk (k : Nat), k < s.length → p (at_ s k) = true → F (fk + 1) (k : Int) = F fk ((k : Int) + 1)) (n : Nat) :
    ∀ (k fk : Nat), k + n = s.length → n < fk → F fk (k : Int) = some (if (s.drop k).all p = true then .inl () else .inr r) := by
  induction n with
  | zero =>
    intro k fk hk hf
    obtain ⟨fk, rfl⟩ := fkx fk
    obtain rfl : k = s.length := by omega
    rw [h0, zaE]; rfl
  | succ n ih =>
    intro k fk hk hf
    obtain ⟨fk, rfl⟩ := fkx fk
    rw [aox s k omg, zaG]
    cases h : p (at_ s k)
    · rw [h1 fk k omg h]; rfl
    · rw [h2 fk k omg h, akf, ih (k + 1) fk omg omg]; simp
theorem all_gen0 {β : Type} (p : UInt8 → Bool) (s : Str) (hs : s.length ≤ 4194304) (r : β) (F : Nat → Int → Option (Unit ⊕ β))
    (h0 : ∀ fk, F (fk + 1) (s.length : Int) = some (.inl ()))
    (h1 : ∀ fk (k : Nat), k < s.length → p (at_ s k) = false → F (fk + 1) (k : Int) = some (.inr r))
    (h2 : ∀ fk (k : Nat), k < s.length → p (at_ s k) = true → F (fk + 1) (k : Int) = F fk ((k : Int) + 1)) : F FU 0 = some (if s.all p = true then .inl () else .inr r) := by
  have := all_gen p s r F h0 h1 h2 s.length 0 FU omg (by rw [ahk]; omega)
  rw [List.drop_zero] at this
  exact this
theorem adLower_lp (s : Str) (hs : s.length ≤ 4194304) (l : Str) : ∀ (p : Str) (fk : Nat), p.length + l.length = s.length → l.length < fk →
    afh FU s fk (p ++ l) (p.length : Int) = some (p ++ l.map akq) := by
  induction l with
  | nil =>
    intro p fk hk hf
    obtain ⟨fk, rfl⟩ := fkx fk
    simp only [zao] at hk
    rw [afh, if_neg omg]; rfl
  | cons c l ih0 =>
    intro p fk hk hf
    obtain ⟨fk, rfl⟩ := fkx fk
    simp only [zae] at hk hf
    have hb := mid_lt p c l
    have ih := ih0 (p ++ [akq c]) fk (by rw [zaf, zag]; omega) omg
    have ok : abx ((p.length : Int) + 1) := ahb _ omg omg
    rw [afh, if_pos omg]
    simp only [aac hb, at_mid, aac ok, set_mid]
    by_cases h1 : 65 ≤ c
    · by_cases h2 : c ≤ 90
      · simp only [if_pos h1, decide_eq_true h2, zab, cond_true, lowerB_up c h1 h2]
        rw [aip p (akq c), ih]; simp
      · simp only [if_pos h1, decide_eq_false h2, zab, cond_false]
        rw [aoo c (fun h => h2 h.2)] at ih
        rw [aip p c, show p ++ c :: l = (p ++ [c]) ++ l by simp, ih]; simp [aoo c (fun h => h2 h.2)]
    · simp only [if_neg h1, zab, cond_false]
      rw [aoo c (fun h => h1 h.1)] at ih
      rw [aip p c, show p ++ c :: l = (p ++ [c]) ++ l by simp, ih]; simp [aoo c (fun h => h1 h.1)]
theorem apm (s : Str) (hs : s.length ≤ 4194304) : adw FU s = some (acn s) := by
  unfold adw
  have := adLower_lp s hs s [] FU (by simp) (by rw [ahk]; omega)
  simp only [List.nil_append, zao, Int.natCast_zero, Int.cast_ofNat_Int] at this
  rw [this]; rfl
theorem ad_letter (c : UInt8) : aix FU c = some (letterB c) := by revert c; exact aff _ (by decide +kernel)
theorem ad_digit (c : UInt8) : agy FU c = some (adz c) := by revert c; exact aff _ (by decide +kernel)
theorem rf_letter (c : UInt8) : amm FU c = some (letterB c) := by revert c; exact aff _ (by decide +kernel)
theorem rf_digit (c : UInt8) : aid FU c = some (adz c) := by revert c; exact aff _ (by decide +kernel)
theorem ad_hex' : ∀ c : UInt8, (ajf FU c).map (·.2) = some (hexB c) := aff _ (by decide +kernel)
theorem ad_hex (c : UInt8) : ∃ v, ajf FU c = some (v, hexB c) := by
  obtain ⟨⟨v, b⟩, h1, h2⟩ := Option.map_eq_some_iff.1 (ad_hex' c)
  exact ⟨v, by rw [h1, ← h2]⟩
theorem rf_hex' : ∀ c : UInt8, (apv FU c).map (fun n => decide (n < 0)) = some (!hexB c) := aff _ (by decide +kernel)
theorem rf_hex (c : UInt8) : ∃ n, apv FU c = some n ∧ decide (n < 0) = !hexB c := by
  obtain ⟨n, h1, h2⟩ := Option.map_eq_some_iff.1 (rf_hex' c)
  exact ⟨n, h1, h2⟩
def psp (y : Str) (l : List Str) : List Str := match l with | x :: r => (y ++ x) :: r | [] => [y]
theorem psp_nil (l : List Str) (h : l ≠ []) : psp [] l = l := by cases l with | nil => exact absurd rfl h | cons _ _ => rfl
theorem arj (c : UInt8) (l : Str) : spl c (c :: l) = [] :: spl c l := by rw [spl, if_pos rfl]
theorem ari (c b : UInt8) (l : Str) (h : b ≠ c) : spl c (b :: l) = psp [b] (spl c l) := by
  rw [spl, if_neg h]
  cases spl c l <;> rfl
theorem psp_psp (y z : Str) (l : List Str) (h : l ≠ []) : psp y (psp z l) = psp (y ++ z) l := by
  cases l with | nil => exact absurd rfl h | cons _ _ => simp [psp]
theorem spl_lens (c : UInt8) : ∀ s : Str, ((spl c s).map zaH).sum + (spl c s).length = s.length + 1
  | [] => rfl
  | b :: l => by
    have ih := spl_lens c l
    by_cases h : b = c
    · subst h
      rw [arj]
      simp only [List.map_cons, List.sum_cons, zao, zae]
      omega
    · rw [ari c b l h]
      cases hx : spl c l with
      | nil => exact absurd hx (spl_ne c l)
      | cons x r =>
        rw [hx] at ih
        simp only [psp, List.map_cons, List.sum_cons, zae, zaf, zao] at ih ⊢
        omega
theorem sub_snoc (s : Str) (f k : Nat) (hf : f ≤ k) (h : k < s.length) : sub s (f : Int) ((k + 1 : Nat) : Int) = sub s (f : Int) (k : Int) ++ [at_ s (k : Int)] := by
  unfold sub
  have e1 : ((k + 1 : Nat) : Int).toNat - ((f : Nat) : Int).toNat = (k - f) + 1 := by omega
  have e2 : ((k : Nat) : Int).toNat - ((f : Nat) : Int).toNat = k - f := by omega
  have e3 : ((f : Nat) : Int).toNat = f := by omega
  rw [e1, e2, e3, take_snoc _ (k - f) (by rw [zat]; omega)]
  congr 2
  simp only [at_, List.getD_eq_getElem?_getD, List.getElem?_drop]
  congr 2
  omega
theorem sub_self' (s : Str) (k : Nat) : sub s (k : Int) (k : Int) = [] := by unfold sub; simp
theorem pieces_lp (s : Str) (c : UInt8) (hs : s.length ≤ 4194304) (n : Nat) : ∀ (k f fk : Nat) (out : List Str), k + n = s.length → n < fk → f ≤ k → out.length ≤ k →
    ∃ out' f' : _, aey FU s c fk out (f : Int) (k : Int) = some (out', ((f' : Nat) : Int)) ∧ f' ≤ s.length ∧ out'.length ≤ s.length ∧ out' ++ [s.drop f'] = out ++ psp (sub s (f : Int) (k : Int)) (spl c (s.drop k)) := by
  induction n with
  | zero =>
    intro k f fk out hk hn hf ho
    obtain ⟨fk, rfl⟩ := fkx fk
    obtain rfl : k = s.length := by omega
    refine ⟨out, f, by rw [aey, if_neg omg], by omega, by omega, ?_⟩
    rw [zaE]
    simp only [spl, psp, zaw]
    congr 2
    unfold sub
    rw [List.take_of_length_le (by rw [zat]; omega)]
    simp
  | succ n ih =>
    intro k f fk out hk hn hf ho
    obtain ⟨fk, rfl⟩ := fkx fk
    have hlt : k < s.length := by omega
    rw [aey, if_pos omg, gok, aox s k hlt]
    by_cases hc : at_ s (k : Int) = c
    · rw [if_pos hc, aac omg, aac (by simp only [zag]; omega), gok, gok, akf]
      obtain ⟨o', f', h1, h2, h3, h4⟩ := ih (k + 1) (k + 1) fk (out ++ [sub s (f : Int) (k : Int)]) omg omg omg (by simp only [zaf, zag]; omega)
      refine ⟨o', f', h1, h2, h3, ?_⟩
      rw [h4, hc, arj, sub_self', psp_nil _ (spl_ne c _)]
      simp [psp]
    · rw [if_neg hc, gok, akf]
      obtain ⟨o', f', h1, h2, h3, h4⟩ := ih (k + 1) f fk out omg omg omg omg
      refine ⟨o', f', h1, h2, h3, ?_⟩
      rw [h4, ari c _ _ hc, psp_psp _ _ _ (spl_ne c _), sub_snoc s f k hf hlt]
theorem pieces_eq (s : Str) (c : UInt8) (hs : s.length ≤ 4194304) : akv FU s c = some (spl c s) := by
  obtain ⟨o', f', h1, h2, h3, h4⟩ := pieces_lp s c hs s.length 0 0 FU [] omg (by rw [ahk]; omega) omg (by simp)
  unfold akv
  have h1' : aey FU s c FU [] (0 : Int) (0 : Int) = some (o', ((f' : Nat) : Int)) := h1
  rw [h1', zab, aac (by simp only; omega), aac (by simp only [zag]; omega)]
  have e : ((f' : Nat) : Int).toNat = f' := by omega
  simp only [e]
  rw [h4, List.drop_zero, List.nil_append]
  have e2 : sub s ((0 : Nat) : Int) ((0 : Nat) : Int) = [] := sub_self' s 0
  rw [e2, psp_nil _ (spl_ne c s)]
def stripZ : Str → Str
  | [] => []
  | [c] => [c]
  | c :: d :: l => if c = 48 then stripZ (d :: l) else c :: d :: l
theorem low48 : ∀ c : UInt8, (akq c == 48) = (c == 48) := aff _ (by decide +kernel)
theorem trim48 (c : UInt8) (l : Str) : zaD (acn (c :: l)) [48] = if c = 48 then zaD (acn l) [48] else acn (c :: l) := by
  unfold zaD acn
  rw [List.map_cons, List.dropWhile_cons]
  have h : ([48] : Str).contains (akq c) = (c == 48) := by rw [← low48 c]; simp [List.contains_cons]; rfl
  rw [h]
  by_cases hc : c = 48
  · rw [if_pos hc, if_pos (by simpa using hc)]
  · rw [if_neg hc, if_neg (by simpa using hc)]
theorem strip_grpN : ∀ g : Str, g ≠ [] → acn (stripZ g) = grpN g
  | [], h => absurd rfl h
  | [c], _ => by
    have e : grpN [c] = if zaD (acn [c]) [48] = [] then [48] else zaD (acn [c]) [48] := rfl
    rw [e, trim48]
    by_cases hc : c = 48
    · subst hc; rfl
    · rw [if_neg hc, if_neg (by simp [acn])]; rfl
  | c :: d :: l, _ => by
    have ih := strip_grpN (d :: l) (by simp)
    have e : grpN (c :: d :: l) = if zaD (acn (c :: d :: l)) [48] = [] then [48] else zaD (acn (c :: d :: l)) [48] := rfl
    rw [e, trim48, stripZ]
    by_cases hc : c = 48
    · simp only [if_pos hc]; rw [ih]; rfl
    · simp only [if_neg hc]; rw [if_neg (by simp [acn])]
theorem group_lp1 (n : Nat) : ∀ (g : Str) (fk : Nat), g.length ≤ n → n < fk → ahj FU fk g = some (stripZ g) := by
  induction n with
  | zero =>
    intro g fk hg hf
    obtain ⟨fk, rfl⟩ := fkx fk
    obtain rfl : g = [] := zaI omg
    rw [ahj, if_neg (by simp)]; rfl
  | succ n ih =>
    intro g fk hg hf
    obtain ⟨fk, rfl⟩ := fkx fk
    rw [ahj]
    match g, hg with
    | [], _ => rw [if_neg (by simp)]; rfl
    | [c], _ => rw [if_neg (by simp)]; rfl
    | c :: d :: l, hg =>
      have hl : (1 : Int) < ((c :: d :: l).length : Int) := by simp only [zae]; omega
      rw [if_pos hl, aac omg, zab, stripZ]
      have ha : at_ (c :: d :: l) (0 : Int) = c := rfl
      rw [ha]
      by_cases hc : c = 48
      · rw [decide_eq_true hc, cond_true, aac omg, if_pos hc]
        exact ih (d :: l) fk (by simp only [zae] at hg ⊢; omega) omg
      · rw [decide_eq_false hc, cond_false, if_neg hc]
theorem strip_len : ∀ g : Str, (stripZ g).length ≤ g.length
  | [] => zaL _
  | [c] => zaL _
  | c :: d :: l => by
    rw [stripZ]
    split
    · have := strip_len (d :: l); simp only [zae] at this ⊢; omega
    · exact zaL _
theorem group_eq (g : Str) (hg : g.length ≤ 4194304) : ani FU g = some (if anb g then (grpN g, true) else ([], false)) := by
  unfold ani
  by_cases h1 : (g.length : Int) < 1
  · rw [if_pos h1, grpOk_no1 g (.inl h1)]; rfl
  · rw [if_neg h1, zab]
    by_cases h2 : 4 < (g.length : Int)
    · rw [decide_eq_true h2, grpOk_no1 g (.inr h2)]; rfl
    · rw [decide_eq_false h2, cond_false]
      have hlp := all_gen0 hexB g hg (([] : Str), false) (agj FU g)
        (fun fk => by rw [agj, if_neg omg])
        (fun fk k hk h => by
          obtain ⟨n, h3, h4⟩ := rf_hex (at_ g k)
          rw [h] at h4
          rw [agj, if_pos omg, gok, h3, zab, if_pos (of_decide_eq_true h4)])
        (fun fk k hk h => by
          obtain ⟨n, h3, h4⟩ := rf_hex (at_ g k)
          rw [h] at h4
          rw [agj, if_pos omg, gok, h3, zab, if_neg (of_decide_eq_false h4), gok])
      rw [hlp, zab]
      cases hx : g.all hexB with
      | false => rw [grpOk_no2 g hx]; rfl
      | true =>
        rw [grpOk_yes g h1 h2 hx, if_pos rfl, zau, group_lp1 g.length g FU (zaL _) (by rw [ahk]; omega), zab,
          alp _ (by have := strip_len g; omega), strip_grpN g (by intro e; subst e; simp at h1)]
        rfl
theorem join_snoc (p : List Str) (x : Str) : zaB (p ++ [x]) [58] = (if p = [] then [] else zaB p [58] ++ [58]) ++ x := by
  induction p with
  | nil => simp [zaB, List.intercalate]
  | cons a p ih =>
    rw [if_neg (by simp)]
    cases p with
    | nil => simp [zaB, List.intercalate, List.intersperse]
    | cons b p =>
      have e : ∀ (u : Str) (v : Str) (l : List Str), zaB (u :: v :: l) [58] = u ++ (58 :: zaB (v :: l) [58]) := fun u v l => by
        simp [zaB, List.intercalate, List.intersperse]
      rw [List.cons_append, List.cons_append, e, ← List.cons_append, ih, if_neg (by simp), e]
      simp
theorem groups_lp (X : List Str) (hX : X.length ≤ 4194305) (hx : ∀ x ∈ X, x.length ≤ 4194304) (q : List Str) : ∀ (p : List Str) (fk : Nat), X = p ++ q → q.length < fk → p.all anb = true →
    afq FU X fk (zaB (p.map grpN) [58]) (p.length : Int) = some (if X.all anb = true then .inl (zaB (X.map grpN) [58]) else .inr ([], 0, false)) := by
  induction q with
  | nil =>
    intro p fk h hf hp
    obtain ⟨fk, rfl⟩ := fkx fk
    rw [zaw] at h
    subst h
    rw [afq, if_neg omg, if_pos hp]
  | cons a q ih =>
    intro p fk h hf hp
    obtain ⟨fk, rfl⟩ := fkx fk
    have hl := congrArg zaH h
    simp only [zaf, zae] at hl hf
    have hb : (0 : Int) ≤ (p.length : Int) ∧ (p.length : Int) < (X.length : Int) := by omega
    have he : el X (p.length : Int) = a := by rw [h]; simp [el]
    have ha : a.length ≤ 4194304 := hx a (by rw [h]; simp)
    rw [afq, if_pos hb.2, aac hb, aac hb, he, group_eq a ha, zab]
    cases hg : anb a with
    | false =>
      have : X.all anb = false := by rw [h, List.all_append, zaG, hg]; simp
      rw [this]; rfl
    | true =>
      have hn := grpN_len a hg
      have hj := join_len [58] 4 (p.map grpN) (fun x hx' => by
        obtain ⟨y, hy, rfl⟩ := List.mem_map.1 hx'
        exact grpN_len y (List.all_eq_true.1 hp y hy))
      simp only [List.length_map, zag] at hj
      have := ih (p ++ [a]) fk (by rw [h]; simp) omg (by rw [List.all_append, hp]; simpa using hg)
      rw [List.map_append, List.map_singleton, join_snoc] at this
      rw [show ((p ++ [a]).length : Int) = (p.length : Int) + 1 by simp] at this
      simp only [if_true, zar, cond_false]
      cases p with
      | nil =>
        simp only [List.map_nil, zao, if_true, List.nil_append] at this ⊢
        rw [if_neg (by simp), zab, aac (by simp only [zaB]; simp; omega), gok]
        exact this
      | cons b p =>
        rw [if_neg (by simp)] at this
        simp only [zae] at hj hl hb
        rw [if_pos (by simp only [zae]; omega), aac (by simp only [zag]; omega), zab, aac (by simp only [zaf, zag]; omega), aac (ahb _ omg (by simp only [zae]; omega))]
        exact this
theorem rfGroups_eq (s : Str) (hs : s.length ≤ 4194304) : ajj FU s = some (zaB (aji s).1 [58], ((aji s).1.length : Int), (aji s).2) := by
  unfold ajj
  by_cases h : s = []
  · rw [if_pos h, grpL0_nil s h]; rfl
  · have hb := arh 58 s
    have := groups_lp (spl 58 s) omg (fun x hx => Nat.le_trans (hb.2 x hx) hs) (spl 58 s) [] FU (by simp) (by rw [ahk]; omega) rfl
    have this' : afq FU (spl 58 s) FU [] (0 : Int) = _ := this
    rw [if_neg h, aqz s h, pieces_eq s 58 hs, zab, this', zab]
    cases ha : (spl 58 s).all anb with
    | false => rw [grpList_no s ha]; rfl
    | true => rw [grpList_yes s ha, if_pos rfl, zau, List.length_map]
open Bool renaming false_or → zaJ, not_false → zaA, not_true → zar, true_and → zas
open Go.Lib renaming cut → zaK, index → zaq, join → zaB, trimLeftS → zaD
open List renaming drop_length → zaE, length_append → zaf, length_cons → zae, length_drop → zat, length_nil → zao, length_singleton → zag, length_take → zah, set → zal
theorem cnd2 {α β : Type} (v : α) (b : Bool) (A B : β) : (bif !(v, b).2 then A else B) = bif !b then A else B := rfl
theorem glist_lp1 (l : List Str) (x : Int) (hg : (el l x).length ≤ 4194304) : adi FU l x FU 0 = some (if (el l x).all hexB = true then .inl () else .inr ([], false)) := by
  refine all_gen0 hexB (el l x) hg (([] : List Str), false) (adi FU l x) ?_ ?_ ?_
  · intro fk; rw [adi, if_neg omg]
  · intro fk k hk h
    obtain ⟨v, h3⟩ := ad_hex (at_ (el l x) k)
    rw [h] at h3
    rw [adi, if_pos omg, gok, h3]
    simp only [zab, zaA, cond_true]
  · intro fk k hk h
    obtain ⟨v, h3⟩ := ad_hex (at_ (el l x) k)
    rw [h] at h3
    rw [adi, if_pos omg, gok, h3, zab, cnd2, zar, cond_false, gok]
theorem glist_lp (s : Str) (hs : s.length ≤ 4194304) (n : Nat) : ∀ (k fk : Nat), k + n = (spl 58 s).length → n < fk → ((spl 58 s).take k).all anb = true →
    adj FU s fk (aqh (spl 58 s) k) (k : Int) = some (if (spl 58 s).all anb = true then .inl ((spl 58 s).map grpN) else .inr ([], false)) := by
  have hb := arh 58 s
  induction n with
  | zero =>
    intro k fk hk hf hp
    obtain ⟨fk, rfl⟩ := fkx fk
    obtain rfl : k = (spl 58 s).length := by omega
    rw [List.take_length] at hp
    rw [adj, if_neg omg, if_pos hp, grpMix_all]
  | succ n ih =>
    intro k fk hk hf hp
    obtain ⟨fk, rfl⟩ := fkx fk
    have hlt : k < (spl 58 s).length := by omega
    have hml := grpMix_len (spl 58 s) k omg
    have hin : (0 : Int) ≤ (k : Int) ∧ (k : Int) < ((aqh (spl 58 s) k).length : Int) := by omega
    have he := grp_el (spl 58 s) k hlt
    have hel : (el (spl 58 s) (k : Int)).length ≤ 4194304 := Nat.le_trans (hb.2 _ (el_mem' _ k hlt)) hs
    have fail : anb (el (spl 58 s) (k : Int)) = false → (spl 58 s).all anb = false := fun h => all_false_at' anb _ k hlt h
    rw [adj, if_pos omg, aac hin, aac hin, he]
    by_cases h1 : ((el (spl 58 s) (k : Int)).length : Int) < 1
    · rw [if_pos h1, fail (grpOk_no1 _ (.inl h1))]; rfl
    · rw [if_neg h1, zab]
      by_cases h2 : 4 < ((el (spl 58 s) (k : Int)).length : Int)
      · rw [decide_eq_true h2, fail (grpOk_no1 _ (.inr h2))]; rfl
      · rw [decide_eq_false h2, cond_false, glist_lp1 _ _ (by rw [he]; exact hel), he, zab]
        cases hx : (el (spl 58 s) (k : Int)).all hexB with
        | false => rw [fail (grpOk_no2 _ hx)]; rfl
        | true =>
          have hok := grpOk_yes _ h1 h2 hx
          rw [if_pos rfl, zau, apm _ hel, zab, aac (by simp [acn]; omega), aac (by decide)]
          have step : ∀ v, v = grpN (el (spl 58 s) (k : Int)) → adj FU s fk (zal (aqh (spl 58 s) k) (zac (k : Int)) v) ((k : Int) + 1) = some (if (spl 58 s).all anb = true then .inl ((spl 58 s).map grpN) else .inr ([], false)) := fun v hv => by
            rw [← grp_step (spl 58 s) k v hlt hv, akf]
            exact ih (k + 1) fk omg omg (all_take_snoc' anb _ k hlt hp hok)
          have ok : abx ((k : Int) + 1) := ahb _ omg omg
          by_cases hz : zaD (acn (el (spl 58 s) (k : Int))) [48] = []
          · rw [if_pos hz, aac hin, aac hin, zab, zau, aac ok, step [48] (grpN_zero _ hz)]
          · rw [if_neg hz, aac hin, aac hin, zab, zau, aac ok, step (zaD (acn (el (spl 58 s) (k : Int))) [48]) (grpN_else _ hz)]
theorem glist_eq (s : Str) (hs : s.length ≤ 4194304) : afi FU s = some (aiu s) := by
  have hb := arh 58 s
  have := glist_lp s hs (spl 58 s).length 0 FU omg (by rw [ahk]; omega) rfl
  rw [grpMix_zero] at this
  have this' : adj FU s FU (spl 58 s) (0 : Int) = _ := this
  unfold afi
  rw [aac omg, this', zab]
  cases ha : (spl 58 s).all anb with
  | false => rw [grpList_no s ha]; rfl
  | true => rw [grpList_yes s ha]; rfl
theorem glist0 (x : Str) (hx : x.length ≤ 4194304) : (if x = ([] : Str) then some (([] : List Str), true) else ((afi FU x).bind fun (y49 : ((List Str) × Bool)) => some (y49.1, y49.2))) = some (aji x) := by
  by_cases h : x = []
  · rw [if_pos h, grpL0_nil x h]
  · rw [if_neg h, aqz x h, glist_eq x hx]; rfl
theorem grpL0_bd (x : Str) : (aji x).1.length ≤ x.length + 1 ∧ ∀ y ∈ (aji x).1, y.length ≤ 4 := by
  unfold aji
  split
  · simp
  · exact grpList_bd x
theorem joinL0 (x : Str) (h : x.length ≤ 4194304) : (zaB (aji x).1 [58]).length ≤ 24000000 := by
  have h1 := grpL0_bd x
  have h2 := join_len [58] 4 (aji x).1 h1.2
  simp only [zag] at h2
  omega
theorem adGroups_eq (s : Str) : akt FU s = some (grpsP s) := by
  unfold akt grpsP
  by_cases h39 : 39 < s.length
  · rw [if_pos omg, if_pos h39]
  · rw [if_neg omg, if_neg h39, aac omg]
    have hc := cut_len s [58, 58]
    cases hd : (zaK s [58, 58]).2.2 with
    | false =>
      have h1 := grpList_bd s
      rw [zaA, cond_true, if_pos rfl, glist_eq s omg, zab, aac ⟨by omega, join_grp s omg⟩]
      cases h2 : (aiu s).2 <;> rfl
    | true =>
      rw [zar, cond_false, glist0 _ omg, zab, glist0 _ omg, zab, if_neg (show ¬ (true = false) by decide)]
      have b1 := grpL0_bd (zaK s [58, 58]).1
      have b2 := grpL0_bd (zaK s [58, 58]).2.1
      have j1 := joinL0 (zaK s [58, 58]).1 omg
      have j2 := joinL0 (zaK s [58, 58]).2.1 omg
      cases h1 : (aji (zaK s [58, 58]).1).2
      · simp
      · cases h2 : (aji (zaK s [58, 58]).2.1).2
        · simp
        · rw [zar, cond_false, cond_false, gok, zab, Bool.or_false, zaJ]
          by_cases h7 : 7 < ((aji (zaK s [58, 58]).1).1.length : Int) + ((aji (zaK s [58, 58]).2.1).1.length : Int)
          · rw [decide_eq_true h7, if_pos rfl]; rfl
          · rw [decide_eq_false h7, if_neg (by decide), cond_false, aac ⟨by omega, by omega⟩, aac (by simp only [zae, zao]; omega), aac ⟨by omega, by omega⟩, aac (by simp only [zaf, zae, zao]; omega)]
def sixP (a b : Str) : Str × Bool := if (!(aji a).2 || !(aji b).2 || decide (7 < ((aji a).1.length : Int) + ((aji b).1.length : Int))) = true then ([], false) else (zaB (aji a).1 [58] ++ [58, 58] ++ zaB (aji b).1 [58], true)
theorem index_ge (p : Str) : ∀ l : Str, -1 ≤ zaq l p
  | [] => by unfold zaq; split <;> omega
  | b :: l => by
    have := index_ge p l
    rw [zaq]
    split
    · omega
    · split
      · omega
      · omega
theorem index_cons (p : Str) (b : UInt8) (l : Str) : zaq (b :: l) p = if p.isPrefixOf (b :: l) = true then 0 else if zaq l p = -1 then -1 else zaq l p + 1 := by
  rw [zaq]
  split
  · rfl
  · by_cases h : zaq l p = -1
    · rw [if_pos h, if_pos (by simpa using h)]
    · rw [if_neg h, if_neg (by simpa using h)]
theorem pfx2 (s : Str) (k : Nat) (h : k < s.length) : ([58, 58] : Str).isPrefixOf (at_ s (k : Int) :: s.drop (k + 1)) = (decide (k + 1 < s.length) && (at_ s (k : Int) == 58) && (at_ s ((k + 1 : Nat) : Int) == 58)) := by
  by_cases h2 : k + 1 < s.length
  · rw [aox s (k + 1) h2, decide_eq_true h2]
    simp only [List.isPrefixOf, zas, Bool.and_true]
    rw [Bool.beq_comm, Bool.beq_comm (a := (58 : UInt8))]
  · rw [List.drop_eq_nil_of_le omg, decide_eq_false h2]
    simp [List.isPrefixOf]
theorem six_lp (s : Str) (hs : s.length ≤ 4194304) (n : Nat) : ∀ (k fk : Nat), k + n = s.length → n < fk →
    agv FU s fk (k : Int) = some (if zaq (s.drop k) [58, 58] = -1 then .inl () else .inr (sixP (s.take (k + (zaq (s.drop k) [58, 58]).toNat)) (s.drop (k + (zaq (s.drop k) [58, 58]).toNat + 2)))) := by
  induction n with
  | zero =>
    intro k fk hk hf
    obtain ⟨fk, rfl⟩ := fkx fk
    obtain rfl : k = s.length := by omega
    rw [agv, gok, if_neg omg, zaE]
    rfl
  | succ n ih =>
    intro k fk hk hf
    obtain ⟨fk, rfl⟩ := fkx fk
    have hlt : k < s.length := by omega
    rw [agv, gok, aox s k hlt, index_cons, pfx2 s k hlt]
    have step : agv FU s fk ((k : Int) + 1) = some (if (if zaq (s.drop (k + 1)) [58, 58] = -1 then (-1 : Int) else zaq (s.drop (k + 1)) [58, 58] + 1) = -1 then .inl () else .inr (sixP (s.take (k + (if zaq (s.drop (k + 1)) [58, 58] = -1 then (-1 : Int) else zaq (s.drop (k + 1)) [58, 58] + 1).toNat)) (s.drop (k + (if zaq (s.drop (k + 1)) [58, 58] = -1 then (-1 : Int) else zaq (s.drop (k + 1)) [58, 58] + 1).toNat + 2)))) := by
      rw [akf, ih (k + 1) fk omg omg]
      have hg := index_ge [58, 58] (s.drop (k + 1))
      by_cases hm : zaq (s.drop (k + 1)) [58, 58] = -1
      · rw [if_pos hm, if_pos hm]; rfl
      · rw [if_neg hm, if_neg hm, if_neg omg]
        have e : k + 1 + (zaq (s.drop (k + 1)) [58, 58]).toNat = k + (zaq (s.drop (k + 1)) [58, 58] + 1).toNat := by omega
        rw [e]
    by_cases h2 : k + 1 < s.length
    · rw [if_pos omg, gok, decide_eq_true h2, zas]
      by_cases h3 : at_ s (k : Int) = 58
      · rw [if_pos h3, gok, aac omg, zab, akf]
        have e3 : (at_ s (k : Int) == 58) = true := by simpa using h3
        rw [e3, zas]
        by_cases h4 : at_ s ((k + 1 : Nat) : Int) = 58
        · have e4 : (at_ s ((k + 1 : Nat) : Int) == 58) = true := by simpa using h4
          have et : ((k : Nat) : Int).toNat = k := by omega
          have et2 : ((k : Int) + 2).toNat = k + 2 := by omega
          rw [decide_eq_true h4, zar, cond_false, e4, if_pos rfl, aac omg, et, rfGroups_eq _ (by rw [zah]; omega), zab, gok, aac omg, et2, rfGroups_eq _ (by rw [zat]; omega), zab]
          simp only [Int.toNat_zero, Nat.add_zero, if_neg (show ¬ ((0 : Int) = -1) by decide)]
          unfold sixP
          have j1 := joinL0 (s.take k) (by rw [zah]; omega)
          have j2 := joinL0 (s.drop (k + 2)) (by rw [zat]; omega)
          have b1 := (grpL0_bd (s.take k)).1
          have b2 := (grpL0_bd (s.drop (k + 2))).1
          rw [zah] at b1
          rw [zat] at b2
          cases h5 : (aji (s.take k)).2
          · simp
          · cases h6 : (aji (s.drop (k + 2))).2
            · simp
            · simp only [zar, cond_false, zaJ]
              rw [gok, zab]
              by_cases h7 : 7 < ((aji (s.take k)).1.length : Int) + ((aji (s.drop (k + 2))).1.length : Int)
              · rw [decide_eq_true h7, cond_true, if_pos rfl]
              · rw [decide_eq_false h7, cond_false, if_neg (by decide), aac (by simp only [zae, zao]; omega), aac (by simp only [zaf, zae, zao]; omega)]
        · have e4 : (at_ s ((k + 1 : Nat) : Int) == 58) = false := by simpa using h4
          rw [decide_eq_false h4, zaA, cond_true, e4, if_neg (show ¬ (false = true) by decide), gok, ← akf, step]
      · have e3 : (at_ s (k : Int) == 58) = false := by simpa using h3
        rw [if_neg h3, zab, cond_true, e3, Bool.false_and, if_neg (show ¬ (false = true) by decide), gok, step]
    · rw [if_neg omg, decide_eq_false h2, Bool.false_and, Bool.false_and, if_neg (show ¬ (false = true) by decide)]
      have : zaq (s.drop (k + 1)) [58, 58] = -1 := by rw [List.drop_eq_nil_of_le omg]; rfl
      rw [if_pos this]; rfl
theorem cut_eq (s p : Str) : zaK s p = if zaq s p = -1 then (s, [], false) else (s.take (zaq s p).toNat, s.drop ((zaq s p).toNat + p.length), true) := by
  unfold zaK
  have := index_ge p s
  by_cases h : zaq s p = -1
  · rw [if_pos h, if_neg omg]
  · rw [if_neg h, if_pos omg]
def sixQ (s : Str) : Str × Bool := if (zaK s [58, 58]).2.2 = false then (zaB (aji s).1 [58], (aji s).2 && decide (((aji s).1.length : Int) = 8)) else sixP (zaK s [58, 58]).1 (zaK s [58, 58]).2.1
theorem six_eq (s : Str) (hs : s.length ≤ 4194304) : apu FU s = some (sixQ s) := by
  have := six_lp s hs s.length 0 FU omg (by rw [ahk]; omega)
  rw [List.drop_zero, Nat.zero_add] at this
  have this' : agv FU s FU (0 : Int) = _ := this
  unfold apu sixQ
  rw [this', zab, cut_eq]
  by_cases h : zaq s [58, 58] = -1
  · rw [if_pos h, if_pos h, zau, rfGroups_eq s hs, zab, if_pos rfl]
    cases hb : (aji s).2 <;> rfl
  · rw [if_neg h, if_neg h, if_neg (by simp)]; rfl
open Go.Lib renaming index → zaq
open List renaming all_cons → zaG, append_nil → zaw, drop_length → zaE, eq_nil_of_length_eq_zero → zaI, length → zaH, length_append → zaf, length_cons → zae, length_drop → zat, length_singleton → zag, length_take → zah
theorem dig_sub (c : UInt8) (h : adz c = true) : (c - 48).toNat = c.toNat - 48 ∧ c.toNat ≤ 57 ∧ 48 ≤ c.toNat := by
  have hc := (digitB_iff c).1 h
  have h48 : (48 : UInt8) ≤ c := by rw [UInt8.le_iff_toNat_le]; show 48 ≤ c.toNat; omega
  exact ⟨by rw [UInt8.toNat_sub_of_le _ _ h48]; rfl, by omega, by omega⟩
theorem nums_lp1 (s : Str) (x : Int) (hg : (el (spl 46 s) x).length ≤ 15) (l : Str) : ∀ (p : Str) (fk : Nat), el (spl 46 s) x = p ++ l → l.length < fk → p.all adz = true →
    aej FU s x fk (agd p : Int) (p.length : Int) = some (if l.all adz = true then .inl (agd (el (spl 46 s) x) : Int) else .inr false) := by
  induction l with
  | nil =>
    intro p fk h hf hp
    obtain ⟨fk, rfl⟩ := fkx fk
    rw [zaw] at h
    rw [aej, if_neg (by rw [h]; omega), h]; rfl
  | cons c l ih =>
    intro p fk h hf hp
    obtain ⟨fk, rfl⟩ := fkx fk
    have hl := congrArg zaH h
    simp only [zaf, zae] at hl hf
    have hb : (0 : Int) ≤ (p.length : Int) ∧ (p.length : Int) < ((el (spl 46 s) x).length : Int) := by omega
    have ha : at_ (el (spl 46 s) x) (p.length : Int) = c := by rw [h, at_mid]
    have hv := decVal_lt 14 p omg hp
    rw [aej, if_pos hb.2, aac hb, ha, ad_digit, zab, zaG]
    cases hc : adz c with
    | false => rfl
    | true =>
      have hd := dig_sub c hc
      rw [zar, cond_false, hd.1, aac (ahb _ omg omg), aac hb, aac (ahb _ omg omg), aac (ahb _ omg omg), zas]
      have e : (10 : Int) * (agd p : Int) + ((c.toNat - 48 : Nat) : Int) = (agd (p ++ [c]) : Int) := by rw [aoa]; omega
      rw [e, aip p c]
      exact ih (p ++ [c]) fk (by rw [h]; simp) omg (by rw [List.all_append, hp]; simpa using hc)
theorem nums_lp (s : Str) (hs : s.length ≤ 15) (n : Nat) : ∀ (k fk : Nat), k + n = (spl 46 s).length → n < fk →
    aek FU s fk (k : Int) = some (if ((spl 46 s).drop k).all octOk = true then .inl () else .inr false) := by
  have hb := arh 46 s
  induction n with
  | zero =>
    intro k fk hk hf
    obtain ⟨fk, rfl⟩ := fkx fk
    obtain rfl : k = (spl 46 s).length := by omega
    rw [aek, if_neg omg, zaE]; rfl
  | succ n ih =>
    intro k fk hk hf
    obtain ⟨fk, rfl⟩ := fkx fk
    have hlt : k < (spl 46 s).length := by omega
    have hin : (0 : Int) ≤ (k : Int) ∧ (k : Int) < ((spl 46 s).length : Int) := by omega
    have hel : (el (spl 46 s) (k : Int)).length ≤ 15 := Nat.le_trans (hb.2 _ (el_mem' _ k hlt)) hs
    have hd : (spl 46 s).drop k = el (spl 46 s) (k : Int) :: (spl 46 s).drop (k + 1) := by rw [el_nat _ _ hlt, List.drop_eq_getElem_cons hlt]
    have h1 := nums_lp1 s (k : Int) hel (el (spl 46 s) (k : Int)) [] FU (by simp) (by rw [ahk]; omega) rfl
    have h1' : aej FU s (k : Int) FU (0 : Int) (0 : Int) = _ := h1
    rw [aek, if_pos omg, aac hin, aac hin, h1', zab, hd, zaG]
    cases hx : (el (spl 46 s) (k : Int)).all adz with
    | false => rw [octOk_no1 _ hx]; rfl
    | true =>
      have hv := decVal_lt 15 _ hel hx
      rw [if_pos rfl, zau]
      by_cases h2 : el (spl 46 s) (k : Int) = []
      · rw [if_pos h2, octOk_no2 _ (.inl (.inl h2))]; rfl
      · rw [if_neg h2]
        by_cases h3 : 255 < (agd (el (spl 46 s) (k : Int)) : Int)
        · rw [if_pos h3, octOk_no2 _ (.inl (.inr h3))]; rfl
        · rw [if_neg h3, aac (ahb _ omg omg), zab]
          by_cases h4 : el (spl 46 s) (k : Int) = Lib.itoa (agd (el (spl 46 s) (k : Int)) : Int)
          · rw [decide_eq_true h4, zar, cond_false, zab, zau, aac (ahb _ omg omg), octOk_yes _ hx h2 h3 h4, zas]
            exact ih (k + 1) fk omg omg
          · rw [decide_eq_false h4, octOk_no2 _ (.inr h4)]; rfl
theorem adNumbers_eq (s : Str) : ajy FU s = some (aqy s) := by
  unfold ajy
  by_cases h : 15 < (s.length : Int)
  · rw [if_pos h, numsP_long s h]
  · have hb := arh 46 s
    have := nums_lp s omg (spl 46 s).length 0 FU omg (by rw [ahk]; omega)
    rw [List.drop_zero] at this
    have this' : aek FU s FU (0 : Int) = _ := this
    rw [if_neg h, aac omg, this', zab]
    cases ha : (spl 46 s).all octOk with
    | false => rw [numsP_no s ha]; rfl
    | true => rw [numsP_fin s h ha]; rfl
def labB (c : UInt8) : Bool := letterB c || adz c || c == 45
def aqr (x : Str) : Bool := decide (1 ≤ x.length) && decide (x.length ≤ 63) && !(at_ x 0 == 45) && !(at_ x ((x.length : Int) - 1) == 45) && x.all labB
def labW (x : Str) : Bool := x.any (fun c => !adz c)
def badL (x : Str) : Bool := decide ((x.length : Int) < 1) || decide (63 < (x.length : Int)) || (at_ x 0 == 45) || (at_ x ((x.length : Int) - 1) == 45)
theorem lab_bad (x : Str) : aqr x = (!badL x && x.all labB) := by
  unfold aqr badL
  have e1 : decide (1 ≤ x.length) = !decide ((x.length : Int) < 1) := by rw [Bool.eq_iff_iff]; simp; omega
  have e2 : decide (x.length ≤ 63) = !decide (63 < (x.length : Int)) := by rw [Bool.eq_iff_iff]; simp; omega
  rw [e1, e2]
  simp [Bool.not_or, Bool.and_assoc]
theorem badL_eq (x : Str) (hx : x.length ≤ 4194304) : (if (x.length : Int) < (1 : Int) then some true else (if (63 : Int) < (x.length : Int) then some true else (gd (0 ≤ (0 : Int) ∧ (0 : Int) < (x.length : Int)) <| (if (at_ x (0 : Int)) = (45 : UInt8) then some true else (gd (abx ((x.length : Int) - (1 : Int))) <| (gd (0 ≤ ((x.length : Int) - (1 : Int)) ∧ ((x.length : Int) - (1 : Int)) < (x.length : Int)) <| some (decide ((at_ x ((x.length : Int) - (1 : Int))) = (45 : UInt8))))))))) = some (badL x) := by
  unfold badL
  by_cases h1 : (x.length : Int) < 1
  · rw [if_pos h1, decide_eq_true h1]; rfl
  · rw [if_neg h1, decide_eq_false h1, zaJ]
    by_cases h2 : 63 < (x.length : Int)
    · rw [if_pos h2, decide_eq_true h2]; rfl
    · rw [if_neg h2, decide_eq_false h2, zaJ, aac omg]
      by_cases h3 : at_ x 0 = 45
      · rw [if_pos h3, show (at_ x 0 == 45) = true by simpa using h3]; rfl
      · rw [if_neg h3, show (at_ x 0 == 45) = false by simpa using h3, zaJ, aac (ahb _ omg omg), aac omg]; rfl
theorem ad_nlab (c : UInt8) : ((aix FU c).bind fun (y365 : Bool) => (bif (!y365) then ((agy FU c).bind fun (y371 : Bool) => (bif (!y371) then some (!decide (c = (45 : UInt8))) else some false)) else some false)) = some (!labB c) := by
  rw [ad_letter, ad_digit]
  unfold labB
  by_cases h : c = 45
  · subst h; rfl
  · rw [show (c == 45) = false by simpa using h, decide_eq_false h]
    cases letterB c <;> cases adz c <;> rfl
theorem named_lp1 (x : Str) (hx : x.length ≤ 4194304) (r : Bool) (l : Str) : ∀ (p : Str) (fk : Nat) (w : Bool), x = p ++ l → l.length < fk →
    (l.all labB = true → acg FU x r fk (p.length : Int) w = some (0, w || labW l, r)) ∧ (l.all labB = false → ∃ b, acg FU x r fk (p.length : Int) w = some (1, b, false)) := by
  induction l with
  | nil =>
    intro p fk w h hf
    obtain ⟨fk, rfl⟩ := fkx fk
    rw [zaw] at h
    refine ⟨fun _ => ?_, fun h => by cases h⟩
    rw [acg, if_neg (by rw [h]; omega)]; simp [labW]
  | cons c l ih =>
    intro p fk w h hf
    obtain ⟨fk, rfl⟩ := fkx fk
    have hl := congrArg zaH h
    simp only [zaf, zae] at hl hf
    have hb : (0 : Int) ≤ (p.length : Int) ∧ (p.length : Int) < (x.length : Int) := by omega
    have ha : at_ x (p.length : Int) = c := by rw [h, at_mid]
    have ok : abx ((p.length : Int) + 1) := ahb _ omg omg
    have hih := ih (p ++ [c]) fk (w || !adz c) (by rw [h]; simp) omg
    rw [← aip p c] at hih
    rw [acg, if_pos hb.2, aac hb, ha, ad_nlab, zab, zaG]
    cases hc : labB c with
    | false => exact ⟨fun h => by simp at h, fun _ => ⟨w, by rw [zaA, cond_true]⟩⟩
    | true =>
      rw [zar, cond_false, zas]
      have e : (bif w then gd (abx ((p.length : Int) + 1)) (acg FU x r fk ((p.length : Int) + 1) true) else (agy FU c).bind fun (y388 : Bool) => gd (abx ((p.length : Int) + 1)) (acg FU x r fk ((p.length : Int) + 1) (!y388))) = acg FU x r fk ((p.length : Int) + 1) (w || !adz c) := by
        cases w with
        | true => rw [cond_true, aac ok, Bool.true_or]
        | false => rw [cond_false, ad_digit, zab, aac ok, zaJ]
      rw [e]
      refine ⟨fun h => ?_, fun h => hih.2 h⟩
      rw [hih.1 h]
      simp [labW, Bool.or_assoc]
theorem named_rd (x : Str) (hx : x.length ≤ 4194304) (w r : Bool) : (aqr x = true → aen FU x w r = some (0, w || labW x, r)) ∧ (aqr x = false → ∃ b, aen FU x w r = some (1, b, false)) := by
  have hlp := named_lp1 x hx r x [] FU w (by simp) (by rw [ahk]; omega)
  unfold aen
  rw [badL_eq x hx, zab, lab_bad]
  cases hb : badL x with
  | true => exact ⟨fun h => by simp at h, fun _ => ⟨w, by rw [cond_true]⟩⟩
  | false =>
    rw [cond_false, zaA, zas]
    exact hlp
theorem index1 (c : UInt8) (f : Str) : (zaq f [c] = -1 ∧ spl c f = [f]) ∨ (0 ≤ zaq f [c] ∧ zaq f [c] < (f.length : Int) ∧ spl c f = f.take (zaq f [c]).toNat :: spl c (f.drop ((zaq f [c]).toNat + 1))) := by
  induction f with
  | nil => exact .inl ⟨rfl, rfl⟩
  | cons b l ih =>
    rw [index_cons]
    have e : ([c] : Str).isPrefixOf (b :: l) = (c == b) := by simp [List.isPrefixOf]
    rw [e]
    by_cases h : b = c
    · subst h
      right
      rw [if_pos (by simp), arj]
      refine ⟨Int.le_refl _, by simp only [zae]; omega, by simp⟩
    · rw [if_neg (by simpa using fun x => h x.symm), ari c b l h]
      rcases ih with ⟨h1, h2⟩ | ⟨h1, h2, h3⟩
      · left; rw [if_pos h1, h2]; exact ⟨rfl, rfl⟩
      · right
        rw [if_neg omg, h3]
        have e1 : (zaq l [c] + 1).toNat = (zaq l [c]).toNat + 1 := by omega
        refine ⟨by omega, by simp only [zae]; omega, ?_⟩
        rw [e1]
        simp [psp]
theorem seq_lp (n : Nat) : ∀ (f : Str) (fk : Nat) (w r : Bool), f.length ≤ n → n < fk → n ≤ 4194304 →
    ∃ w' f' k, ((abf FU [46] 0 fk w r f).bind fun (j115 : ((Bool × Bool × Str) ⊕ (Bool × Bool × Str × Nat))) => zay (fun (v117 : (Bool × Bool × Str)) => ((aen FU v117.2.2 v117.1 v117.2.1).bind fun (y190 : (Nat × Bool × Bool)) => (if y190.1 = 0 then some (y190.2.1, y190.2.2, v117.2.2, 0) else some (y190.2.1, y190.2.2, v117.2.2, y190.1)))) (fun q => some q) j115) = some (w', (if (spl 46 f).all aqr = true then r else false), f', k) ∧
      (k = if (spl 46 f).all aqr = true then 0 else 1) ∧ ((spl 46 f).all aqr = true → w' = (w || (spl 46 f).any labW)) := by
  induction n with
  | zero =>
    intro f fk w r hf hn h20
    obtain ⟨fk, rfl⟩ := fkx fk
    obtain rfl : f = [] := zaI omg
    have e : zaq ([] : Str) [46] = -1 := rfl
    rw [abf, aac (by simp), e, if_pos (by decide), zab, zau]
    obtain ⟨b, hb⟩ := (named_rd [] (by simp) w r).2 rfl
    simp only
    rw [hb, zab, if_neg (by simp)]
    exact ⟨b, [], 1, rfl, rfl, fun h => absurd h (by decide)⟩
  | succ n ih =>
    intro f fk w r hf hn h20
    obtain ⟨fk, rfl⟩ := fkx fk
    rw [abf, aac omg]
    rcases index1 46 f with ⟨h1, h2⟩ | ⟨h1, h2, h3⟩
    · rw [if_pos omg, zab, zau, h2, zaG, List.all_nil, Bool.and_true]
      simp only
      have hr := named_rd f omg w r
      cases hl : aqr f with
      | true =>
        rw [hr.1 hl, zab, if_pos rfl]
        exact ⟨_, _, 0, rfl, rfl, fun _ => by simp⟩
      | false =>
        obtain ⟨b, hb⟩ := hr.2 hl
        rw [hb, zab, if_neg (by simp)]
        exact ⟨b, _, 1, rfl, rfl, fun h => by cases h⟩
    · have e0 : zaq f [46] + 0 = zaq f [46] := by omega
      have e1 : (zaq f [46] + ((([46] : Str).length : Nat) : Int)).toNat = (zaq f [46]).toNat + 1 := by simp only [zag]; omega
      rw [if_neg omg, e0, aac (ahb _ omg omg), aac omg, h3, zaG]
      have hr := named_rd (f.take (zaq f [46]).toNat) (by rw [zah]; omega) w r
      cases hl : aqr (f.take (zaq f [46]).toNat) with
      | true =>
        rw [hr.1 hl, zab, if_pos rfl, aac (ahb _ (by simp only [zag]; omega) (by simp only [zag]; omega)), aac (by simp only [zag]; omega), e1, zas]
        obtain ⟨w', f', k, g1, g2, g3⟩ := ih (f.drop ((zaq f [46]).toNat + 1)) fk (w || labW (f.take (zaq f [46]).toNat)) r (by rw [zat]; omega) omg omg
        exact ⟨w', f', k, g1, g2, fun h => by rw [g3 h, List.any_cons, Bool.or_assoc]⟩
      | false =>
        obtain ⟨b, hb⟩ := hr.2 hl
        rw [hb, zab, if_neg (by simp), zab]
        exact ⟨b, _, 1, rfl, rfl, fun h => by cases h⟩
def namedP (s : Str) : Bool := decide (1 ≤ s.length) && decide (s.length ≤ 255) && (spl 46 s).all aqr && (spl 46 s).any labW
theorem adNamed_eq (s : Str) (hs : s.length ≤ 4194304) : alt FU s = some (namedP s) := by
  unfold alt namedP
  by_cases h1 : (s.length : Int) < 1
  · rw [if_pos h1, show decide (1 ≤ s.length) = false by (rw [decide_eq_false_iff_not]; omega)]; rfl
  · rw [if_neg h1, show decide (1 ≤ s.length) = true by (rw [decide_eq_true_eq]; omega), zab, zas]
    by_cases h2 : 255 < (s.length : Int)
    · rw [decide_eq_true h2, show decide (s.length ≤ 255) = false by (rw [decide_eq_false_iff_not]; omega)]; rfl
    · rw [decide_eq_false h2, cond_false, show decide (s.length ≤ 255) = true by (rw [decide_eq_true_eq]; omega), zas]
      obtain ⟨w', f', k, g1, g2, g3⟩ := seq_lp s.length s FU false false (zaL _) (by rw [ahk]; omega) hs
      unfold ale ald
      rw [zab, zab]
      unfold adx
      rw [if_neg (by simp), zab, zau, g1, zab]
      simp only
      cases ha : (spl 46 s).all aqr with
      | true => rw [g2, ha, if_pos rfl, if_pos rfl, g3 ha]; simp
      | false => rw [ha] at g2; rw [g2]; simp
end Go.Wk
