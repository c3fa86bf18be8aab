/-
  The law HeaderViaBack holds, second form: for every Via of at most 1048576 values and letters the call returns true; no condition beyond the statement's own (part 2 of 7).
-/
import Derived.Test.YtbfppjfgcjpknaaGreatDoorHv1
import Derived.Lib.SplitLaws
import Derived.Lib.Split
import GoSem.Core.Utf8
import Derived.Laws.Bits64
set_option linter.unusedSimpArgs false
set_option linter.unusedVariables false
namespace Go.Px
open Go.Wk
def spl (c : UInt8) : List UInt8 → List (List UInt8)
  | [] => [[]]
  | b :: l => if b = c then [] :: spl c l else match spl c l with | x :: r => (b :: x) :: r | [] => [[b]]
theorem spl_ne (c : UInt8) : ∀ l, spl c l ≠ []
  | [] => by simp [spl]
  | b :: l => by unfold spl; split; simp; split <;> simp
theorem splitK_spl (c : UInt8) : ∀ (s : List UInt8) (k : Nat), s.count c ≤ k → Lib.splitK [c] 0 k s = spl c s
  | [], k, _ => by cases k <;> simp [Lib.splitK, Lib.index, spl]
  | b :: l, k, h => by
    by_cases hb : b = c
    · subst hb
      obtain ⟨k, rfl⟩ : ∃ j, k = j + 1 := ⟨k - 1, by simp at h; omega⟩
      have ih := splitK_spl b l k (by simp at h; omega)
      simp [Lib.splitK, Lib.index, spl, ih]
    · have hc : (b :: l).count c = l.count c := by simp [List.count_cons, hb]
      rw [hc] at h
      have ih := splitK_spl c l k h
      unfold spl
      rw [if_neg hb, ← ih]
      cases k with
      | zero => simp [Lib.splitK]
      | succ k =>
        have hi : Lib.index (b :: l) [c] = if Lib.index l [c] == -1 then -1 else Lib.index l [c] + 1 := by
          conv => lhs; unfold Lib.index
          rw [if_neg (by simp; exact fun h => hb h.symm)]
        have hg := Lib.index_ge l [c]
        unfold Lib.splitK
        rw [hi]
        by_cases h1 : Lib.index l [c] = -1
        · simp [h1]
        · have h2 : ¬ (Lib.index l [c] + 1) = -1 := by omega
          have h3 : (Lib.index l [c] + 1).toNat = (Lib.index l [c]).toNat + 1 := by omega
          simp [h1, h2, h3]
theorem split_spl (s : List UInt8) (c : UInt8) : (Lib.splitB ⟨#[c]⟩ 0 (Lib.countB ⟨s.toArray⟩ ⟨#[c]⟩) ⟨s.toArray⟩).map Value.string = (spl c s).map str := by
  have h := Lib.splitB_data ⟨#[c]⟩ 0 (Lib.countB ⟨s.toArray⟩ ⟨#[c]⟩) ⟨s.toArray⟩
  have e : Lib.splitK [c] 0 (Lib.countB ⟨s.toArray⟩ ⟨#[c]⟩) s = spl c s := splitK_spl c s _ (Nat.le_of_eq (Lib.count_one c s).symm)
  have h' : (Lib.splitB ⟨#[c]⟩ 0 (Lib.countB ⟨s.toArray⟩ ⟨#[c]⟩) ⟨s.toArray⟩).map (·.data.toList) = spl c s := h.trans e
  rw [← h', List.map_map]
  refine List.map_congr_left fun x _ => ?_
  rfl
theorem split_spl_len (s : List UInt8) (c : UInt8) : Lib.countB ⟨s.toArray⟩ ⟨#[c]⟩ + 1 = (spl c s).length := by
  have : ∀ s : List UInt8, s.count c + 1 = (spl c s).length := by
    intro s
    induction s with
    | nil => rfl
    | cons b l ih =>
      unfold spl
      by_cases hb : b = c
      · subst hb; simp; omega
      · rw [if_neg hb]
        have hc : (b :: l).count c = l.count c := by simp [List.count_cons, hb]
        rw [hc, ih]
        split
        · rename_i h; rw [h]; simp
        · rename_i h; exact absurd h (spl_ne c l)
  show Lib.count s [c] + 1 = _
  rw [Lib.count_one, this]
theorem spl_sum (c : UInt8) : ∀ s : List UInt8, (spl c s).length ≤ s.length + 1 ∧ ∀ x ∈ spl c s, x.length ≤ s.length
  | [] => by simp [spl]
  | b :: l => by
    have ih := spl_sum c l
    unfold spl
    split
    · simp; exact ⟨ih.1, fun x hx => by have := ih.2 x hx; omega⟩
    · split
      · rename_i x r h
        rw [h] at ih
        simp at ih ⊢
        exact ⟨by omega, by omega, fun a ha => by have := ih.2.2 a ha; omega⟩
      · simp
theorem row_strs {w : World} (a : Addr) (xs : List (List UInt8)) (h : Rd w (some a) (xs.map str)) : ∀ (j : Nat) x, (xs.map fun l => (⟨l.toArray⟩ : ByteArray))[j]? = some x → w.cell? (a.add j) = some (.string x) := by
  intro j x hx
  simp only [List.getElem?_map, Option.map_eq_some_iff] at hx
  obtain ⟨l, hl, rfl⟩ := hx
  obtain ⟨p, e, hc⟩ := h j (str l) (by simp [hl])
  cases e
  exact hc
theorem rd_spot {w : World} {p : Addr} {v : Value} (h : w.cell? p = some v) : p.spot = none := by
  unfold World.cell? at h
  split at h
  · by_cases hs : p.spot.isSome = true
    · simp [hs] at h
    · simpa using hs
  · simp at h
theorem ana (sep : List UInt8) (m : Nat) : ∀ xs : List (List UInt8), (∀ x ∈ xs, x.length ≤ m) → (Lib.join xs sep).length ≤ xs.length * (m + sep.length)
  | [], _ => by simp [Lib.join_nil]
  | x :: r, h => by
    rw [Lib.join_cons]
    have hr : (Lib.joinTail sep r).length ≤ r.length * (m + sep.length) := by
      have hr' : ∀ y ∈ r, y.length ≤ m := fun y hy => h y (List.mem_cons_of_mem _ hy)
      clear h
      induction r with
      | nil => simp [Lib.joinTail]
      | cons y r ih =>
        have := ih (fun z hz => hr' z (List.mem_cons_of_mem _ hz))
        have hy := hr' y (by simp)
        simp only [Lib.joinTail, List.map_cons, List.flatten_cons, List.length_append, List.length_cons, Nat.add_mul, Nat.one_mul] at *
        omega
    have hx := h x (by simp)
    rw [List.length_append, List.length_cons, Nat.add_mul, Nat.one_mul]
    omega
def akv (g : List UInt8) : Bool := decide (1 ≤ g.length) && decide (g.length ≤ 4) && g.all hexB
def amo (g : List UInt8) : List UInt8 := if Lib.trimLeftS (lowP g) [48] = [] then [48] else Lib.trimLeftS (lowP g) [48]
theorem grpN_len (g : List UInt8) (h : akv g = true) : (amo g).length ≤ 4 := by
  unfold akv at h
  simp only [Bool.and_eq_true, decide_eq_true_eq] at h
  unfold amo
  split
  · simp
  · have := trimLeftS_len (lowP g) [48]; simp at this; omega
def afs (s : List UInt8) : List (List UInt8) × Bool := if (spl 58 s).all akv then ((spl 58 s).map amo, true) else ([], false)
theorem ans (s : List UInt8) : (afs s).1.length ≤ s.length + 1 ∧ ∀ x ∈ (afs s).1, x.length ≤ 4 := by
  have h := spl_sum 58 s
  unfold afs
  split
  · rename_i ha
    refine ⟨by simp; exact h.1, fun x hx => ?_⟩
    simp at hx
    obtain ⟨y, hy, rfl⟩ := hx
    exact grpN_len y (List.all_eq_true.1 ha y hy)
  · simp
theorem el_app {α : Type} [Inhabited α] (a b : List α) (k : Nat) (h : a.length = k) : el (a ++ b) (k : Int) = el b 0 := by
  subst h; simp only [el, Int.toNat_natCast, List.getD_eq_getElem?_getD]; rw [List.getElem?_append_right (Nat.le_refl _)]; simp
theorem el_drop0 {α : Type} [Inhabited α] (l : List α) (k : Nat) : el (l.drop k) 0 = el l (k : Int) := by simp [el]
def anf (X : List (List UInt8)) (k : Nat) : List (List UInt8) := List.map amo (List.take k X) ++ List.drop k X
theorem grpMix_len (X : List (List UInt8)) (k : Nat) (h : k ≤ X.length) : (anf X k).length = X.length := by simp [anf]; omega
theorem grpMix_zero (X : List (List UInt8)) : anf X 0 = X := by simp [anf]
theorem grpMix_all (X : List (List UInt8)) : anf X X.length = X.map amo := by simp [anf]
theorem grp_step (X : List (List UInt8)) (k : Nat) (v : List UInt8) (h : k < X.length) (hv : v = amo (el X (k : Int))) :
    anf X (k + 1) = List.set (anf X k) (k : Int).toNat v := by
  unfold anf
  have hl : (List.map amo (List.take k X)).length = k := by simp; omega
  rw [Int.toNat_natCast, List.set_append_right _ _ (by omega), hl, Nat.sub_self, take_snoc' X k h, hv]
  rw [List.drop_eq_getElem_cons h]
  simp only [List.map_append, List.map_cons, List.map_nil, List.append_assoc, List.cons_append, List.nil_append, List.set_cons_zero]
theorem grp_el (X : List (List UInt8)) (k : Nat) (h : k < X.length) : el (anf X k) (k : Int) = el X (k : Int) := by
  unfold anf
  rw [el_app _ _ k (by simp; omega), el_drop0]
theorem grpN_zero (g : List UInt8) (h : Lib.trimLeftS (g.map afc) [48] = []) : [48] = amo g := by unfold amo; rw [if_pos h]
theorem grpN_else (g : List UInt8) (h : ¬ Lib.trimLeftS (g.map afc) [48] = []) : Lib.trimLeftS (g.map afc) [48] = amo g := by unfold amo; rw [if_neg h]
theorem grpOk_no1 (g : List UInt8) (h : (g.length : Int) < 1 ∨ 4 < (g.length : Int)) : akv g = false := by
  unfold akv
  rcases h with h | h
  · rw [show decide (1 ≤ g.length) = false by (rw [decide_eq_false_iff_not]; omega)]; rfl
  · rw [show decide (g.length ≤ 4) = false by (rw [decide_eq_false_iff_not]; omega)]; simp
theorem grpOk_no2 (g : List UInt8) (h : g.all hexB = false) : akv g = false := by unfold akv; rw [h]; simp
theorem grpOk_yes (g : List UInt8) (h1 : ¬ (g.length : Int) < 1) (h2 : ¬ 4 < (g.length : Int)) (h : g.all hexB = true) : akv g = true := by
  unfold akv; rw [h, show decide (1 ≤ g.length) = true by (rw [decide_eq_true_eq]; omega), show decide (g.length ≤ 4) = true by (rw [decide_eq_true_eq]; omega)]; rfl
theorem all_take_snoc' {α : Type} [Inhabited α] (p : α → Bool) (s : List α) (k : Nat) (h : k < s.length) (ha : (s.take k).all p = true) (hc : p (el s (k : Int)) = true) : (s.take (k + 1)).all p = true := by
  rw [take_snoc' s k h, List.all_append, ha]; simpa using hc
theorem all_false_at' {α : Type} [Inhabited α] (p : α → Bool) (s : List α) (k : Nat) (h : k < s.length) (hc : p (el s (k : Int)) = false) : s.all p = false := by
  rw [Bool.eq_false_iff]; intro ha
  have := List.all_eq_true.1 ha (el s (k : Int)) (by simp [el, h])
  rw [this] at hc; cases hc
theorem grpList_no (s : List UInt8) (h : (spl 58 s).all akv = false) : afs s = ([], false) := by unfold afs; rw [h]; rfl
theorem grpList_yes (s : List UInt8) (h : (spl 58 s).all akv = true) : afs s = ((spl 58 s).map amo, true) := by unfold afs; rw [h]; rfl
theorem join_grp (s : List UInt8) (h : s.length ≤ 1000000000) : (Lib.join (afs s).1 [58]).length ≤ 100000000000 := by
  have h1 := ans s
  have h2 := ana [58] 4 (afs s).1 h1.2
  simp at h2; omega
def ais (x : List UInt8) : List (List UInt8) × Bool := if x = [] then ([], true) else afs x
theorem grpL0_nil (x : List UInt8) (h : x = []) : ais x = ([], true) := by unfold ais; rw [if_pos h]
theorem grpL0_else (x : List UInt8) (h : ¬ x = []) : ais x = afs x := by unfold ais; rw [if_neg h]
def aku (s : List UInt8) : List UInt8 × Bool :=
  if 39 < s.length then ([], false)
  else if (Lib.cut s [58, 58]).2.2 = false then (Lib.join (afs s).1 [58], (afs s).2 && decide (((afs s).1.length : Int) = 8))
  else if (!(ais (Lib.cut s [58, 58]).1).2 || !(ais (Lib.cut s [58, 58]).2.1).2 || decide (7 < ((ais (Lib.cut s [58, 58]).1).1.length : Int) + ((ais (Lib.cut s [58, 58]).2.1).1.length : Int))) = true then ([], false)
  else (Lib.join (ais (Lib.cut s [58, 58]).1).1 [58] ++ [58, 58] ++ Lib.join (ais (Lib.cut s [58, 58]).2.1).1 [58], true)
def octOk (n : List UInt8) : Bool := n.all aek && !(n == []) && decide (agr n ≤ 255) && (n == Lib.itoa (agr n : Int))
def numsP (s : List UInt8) : Bool := decide (s.length ≤ 15) && (spl 46 s).all octOk && decide ((spl 46 s).length = 4)
theorem octOk_no1 (n : List UInt8) (h : n.all aek = false) : octOk n = false := by unfold octOk; rw [h]; rfl
theorem octOk_no2 (n : List UInt8) (h : (n = [] ∨ 255 < (agr n : Int)) ∨ ¬ n = Lib.itoa (agr n : Int)) : octOk n = false := by
  unfold octOk
  rcases h with (h | h) | h
  · subst h; rfl
  · rw [show decide (agr n ≤ 255) = false by (rw [decide_eq_false_iff_not]; omega)]; simp
  · rw [show (n == Lib.itoa (agr n : Int)) = false by simpa using h]; simp
theorem octOk_yes (n : List UInt8) (h : n.all aek = true) (h1 : ¬ n = []) (h2 : ¬ 255 < (agr n : Int)) (h3 : n = Lib.itoa (agr n : Int)) : octOk n = true := by
  unfold octOk
  rw [h, show decide (agr n ≤ 255) = true by (rw [decide_eq_true_eq]; omega), show (n == Lib.itoa (agr n : Int)) = true by rw [beq_iff_eq]; exact h3, show (n == []) = false by simpa using h1]; rfl
theorem numsP_long (s : List UInt8) (h : 15 < (s.length : Int)) : numsP s = false := by
  unfold numsP; rw [show decide (s.length ≤ 15) = false by (rw [decide_eq_false_iff_not]; omega)]; rfl
theorem numsP_no (s : List UInt8) (h : (spl 46 s).all octOk = false) : numsP s = false := by unfold numsP; rw [h]; simp
theorem numsP_fin (s : List UInt8) (h0 : ¬ 15 < (s.length : Int)) (h : (spl 46 s).all octOk = true) : numsP s = decide (((spl 46 s).length : Int) = 4) := by
  unfold numsP; rw [h, show decide (s.length ≤ 15) = true by (rw [decide_eq_true_eq]; omega)]
  rw [Bool.eq_iff_iff]; simp; omega
theorem el_mem' {α : Type} [Inhabited α] (l : List α) (k : Nat) (h : k < l.length) : el l (k : Int) ∈ l := by rw [el_nat l k h]; exact List.getElem_mem h
end Go.Px
namespace Go.Wk
open Go.Px
open Go.Value renaming slice → Vs, int → Vi, bool → Vb, pointer → Vp
def amp (x : (Str × Int)) : List Value := [(str x.1), (Vi .i64 x.2)]
theorem enc_enamekind : Enc amp 2 := ⟨fun _ => rfl, fun x v h => by
  simp only [amp, List.mem_cons, List.not_mem_nil, or_false] at h
  rcases h with h | h <;> subst h <;> rfl⟩
def aaa (x : PQ) : List Value := [(str x.1), (str x.2.1), (Vb x.2.2)]
theorem aab : Enc aaa 3 := ⟨fun _ => rfl, fun x v h => by
  simp only [aaa, List.mem_cons, List.not_mem_nil, or_false] at h
  rcases h with h | h | h <;> subst h <;> rfl⟩
def alk (x : (Int × Str)) : List Value := [(Vi .i64 x.1), (str x.2)]
theorem aoc : Enc alk 2 := ⟨fun _ => rfl, fun x v h => by
  simp only [alk, List.mem_cons, List.not_mem_nil, or_false] at h
  rcases h with h | h <;> subst h <;> rfl⟩
def aii : List Str := [[67, 97, 108, 108, 45, 73, 68], [67, 83, 101, 113], [77, 73, 77, 69, 45, 86, 101, 114, 115, 105, 111, 110], [77, 105, 110, 45, 83, 69], [82, 65, 99, 107], [82, 83, 101, 113], [87, 87, 87, 45, 65, 117, 116, 104, 101, 110, 116, 105, 99, 97, 116, 101]]
def akw : List (Str × Int) := [([70, 114, 111, 109], 1), ([84, 111], 1), ([67, 111, 110, 116, 97, 99, 116], 1), ([82, 111, 117, 116, 101], 1), ([82, 101, 99, 111, 114, 100, 45, 82, 111, 117, 116, 101], 1), ([80, 97, 116, 104], 1), ([83, 101, 114, 118, 105, 99, 101, 45, 82, 111, 117, 116, 101], 1), ([82, 101, 102, 101, 114, 45, 84, 111], 1), ([82, 101, 102, 101, 114, 114, 101, 100, 45, 66, 121], 1), ([82, 101, 112, 108, 121, 45, 84, 111], 1), ([86, 105, 97], 2), ([67, 83, 101, 113], 3), ([82, 65, 99, 107], 4), ([67, 111, 110, 116, 101, 110, 116, 45, 76, 101, 110, 103, 116, 104], 5), ([69, 120, 112, 105, 114, 101, 115], 5), ([77, 97, 120, 45, 70, 111, 114, 119, 97, 114, 100, 115], 5), ([77, 105, 110, 45, 69, 120, 112, 105, 114, 101, 115], 5), ([82, 83, 101, 113], 5), ([67, 111, 110, 116, 101, 110, 116, 45, 68, 105, 115, 112, 111, 115, 105, 116, 105, 111, 110], 6), ([67, 111, 110, 116, 101, 110, 116, 45, 84, 121, 112, 101], 6), ([69, 118, 101, 110, 116], 6), ([77, 105, 110, 45, 83, 69], 6), ([83, 101, 115, 115, 105, 111, 110, 45, 69, 120, 112, 105, 114, 101, 115], 6), ([83, 117, 98, 115, 99, 114, 105, 112, 116, 105, 111, 110, 45, 83, 116, 97, 116, 101], 6), ([65, 99, 99, 101, 112, 116], 7), ([65, 108, 108, 111, 119], 7), ([65, 108, 108, 111, 119, 45, 69, 118, 101, 110, 116, 115], 7), ([80, 114, 111, 120, 121, 45, 82, 101, 113, 117, 105, 114, 101], 7), ([82, 101, 113, 117, 105, 114, 101], 7), ([83, 117, 112, 112, 111, 114, 116, 101, 100], 7), ([85, 110, 115, 117, 112, 112, 111, 114, 116, 101, 100], 7)]
def gl_classes : List Str := [[38, 61, 43, 36, 44, 59, 63, 47], [91, 93, 47, 58, 38, 43, 36], [91, 93, 47, 63, 58, 43, 36]]
end Go.Wk
set_option maxRecDepth 20000
set_option maxHeartbeats 1000000
namespace Go.Wk
open Go.Px
open Int renaming toNat → zac
open List renaming drop → zam
open Sum renaming elim → zaz
def afj (fu : Nat) (a0 : Int) : Option Bool :=
  (((if (0 : Int) ≤ a0 then some (decide (a0 < (55296 : Int))) else some false)).bind fun (v5 : Bool) => (bif v5 then some true else (((if (57343 : Int) < a0 then some (decide (a0 ≤ (1114111 : Int))) else some false)).bind fun (a1 : Bool) => (bif a1 then some true else some false))))
def aeb (fu : Nat) (s_0 : Str) : Nat → Nat → Option (Unit ⊕ Int)
  | 0, _ => none
  | a1 + 1, a0 => (if a0 < s_0.length then (if ((Utf8.decode ⟨List.toArray s_0⟩ a0).1 : Int) = (65533 : Int) then some (.inr (a0 : Int)) else (aeb fu s_0 a1 (a0 + (Utf8.decode ⟨List.toArray s_0⟩ a0).2))) else some (.inl ()))
def agp (fu : Nat) (s_0 : Str) (a1 : Int) (a2 : Int) : Nat → Int → Option Int
  | 0, _ => none
  | a3 + 1, a0 => (if a0 < (((Utf8.encode a1).data.toList).length : Int) then (gd (acy (a2 - a0)) <| (gd (0 ≤ (a2 - a0) ∧ (a2 - a0) < (s_0.length : Int)) <| (gd (acy (((((Utf8.encode a1).data.toList).length : Int) - (1 : Int)) - a0)) <| (gd (0 ≤ (((((Utf8.encode a1).data.toList).length : Int) - (1 : Int)) - a0) ∧ (((((Utf8.encode a1).data.toList).length : Int) - (1 : Int)) - a0) < (((Utf8.encode a1).data.toList).length : Int)) <| (if (at_ s_0 (a2 - a0)) = (at_ ((Utf8.encode a1).data.toList) (((((Utf8.encode a1).data.toList).length : Int) - (1 : Int)) - a0)) then (gd (acy (a0 + (1 : Int))) <| (agp fu s_0 a1 a2 a3 (a0 + (1 : Int)))) else none))))) else (gd (acy (a2 - ((((Utf8.encode a1).data.toList).length : Int) - (1 : Int)))) <| some (a2 - ((((Utf8.encode a1).data.toList).length : Int) - (1 : Int)))))
def afu (fu : Nat) (s_0 : Str) (a0 : Int) : Nat → Option Int
  | 0 => none
  | a3 + 1 => (if ((((Utf8.encode a0).data.toList).length : Int) - (1 : Int)) < (s_0.length : Int) then (((gd (0 ≤ ((((Utf8.encode a0).data.toList).length : Int) - (1 : Int)) ∧ ((((Utf8.encode a0).data.toList).length : Int) - (1 : Int)) < (s_0.length : Int)) <| (gd (0 ≤ ((((Utf8.encode a0).data.toList).length : Int) - (1 : Int)) ∧ ((((Utf8.encode a0).data.toList).length : Int) - (1 : Int)) < (((Utf8.encode a0).data.toList).length : Int)) <| (if (at_ s_0 ((((Utf8.encode a0).data.toList).length : Int) - (1 : Int))) = (at_ ((Utf8.encode a0).data.toList) ((((Utf8.encode a0).data.toList).length : Int) - (1 : Int))) then some (.inl ((((Utf8.encode a0).data.toList).length : Int) - (1 : Int))) else (gd (acy (((((Utf8.encode a0).data.toList).length : Int) - (1 : Int)) + (1 : Int))) <| (gd (0 ≤ (((((Utf8.encode a0).data.toList).length : Int) - (1 : Int)) + (1 : Int)) ∧ (((((Utf8.encode a0).data.toList).length : Int) - (1 : Int)) + (1 : Int)) ≤ (s_0.length : Int)) <| (gd (0 ≤ ((((Utf8.encode a0).data.toList).length : Int) - (1 : Int)) ∧ ((((Utf8.encode a0).data.toList).length : Int) - (1 : Int)) < (((Utf8.encode a0).data.toList).length : Int)) <| (if (ixb (· == (at_ ((Utf8.encode a0).data.toList) ((((Utf8.encode a0).data.toList).length : Int) - (1 : Int)))) (zam (zac (((((Utf8.encode a0).data.toList).length : Int) - (1 : Int)) + (1 : Int))) s_0)) < (0 : Int) then some (.inr (-1 : Int)) else (gd (acy ((ixb (· == (at_ ((Utf8.encode a0).data.toList) ((((Utf8.encode a0).data.toList).length : Int) - (1 : Int)))) (zam (zac (((((Utf8.encode a0).data.toList).length : Int) - (1 : Int)) + (1 : Int))) s_0)) + (1 : Int))) <| (gd (acy (((((Utf8.encode a0).data.toList).length : Int) - (1 : Int)) + ((ixb (· == (at_ ((Utf8.encode a0).data.toList) ((((Utf8.encode a0).data.toList).length : Int) - (1 : Int)))) (zam (zac (((((Utf8.encode a0).data.toList).length : Int) - (1 : Int)) + (1 : Int))) s_0)) + (1 : Int)))) <| some (.inl (((((Utf8.encode a0).data.toList).length : Int) - (1 : Int)) + ((ixb (· == (at_ ((Utf8.encode a0).data.toList) ((((Utf8.encode a0).data.toList).length : Int) - (1 : Int)))) (zam (zac (((((Utf8.encode a0).data.toList).length : Int) - (1 : Int)) + (1 : Int))) s_0)) + (1 : Int)))))))))))))).bind fun (a1 : (Int ⊕ Int)) => zaz (fun (a2 : Int) => (agp fu s_0 a0 a2 fu (1 : Int))) (fun q => some q) a1) else some (-1 : Int))
def aet (fu : Nat) (s_0 : Str) (a0 : Int) : Option Int :=
  (((if (0 : Int) ≤ a0 then some (decide (a0 < (128 : Int))) else some false)).bind fun (v5 : Bool) => (bif v5 then some (ixb (· == (u8i a0)) s_0) else (if a0 = (65533 : Int) then (((aeb fu s_0 fu 0)).bind fun (a1 : (Unit ⊕ Int)) => zaz (fun (a3 : Unit) => some (-1 : Int)) (fun q => some q) a1) else ((afj fu a0).bind fun (a2 : Bool) => (bif (!a2) then some (-1 : Int) else (gd (acy ((((Utf8.encode a0).data.toList).length : Int) - (1 : Int))) <| (afu fu s_0 a0 fu)))))))
def aft (fu : Nat) (a0 : Int) : Option Bool :=
  some (decide ((8 : Int) < a0))
def adt (fu : Nat) (s_0 : Str) (a1 : Str) : Nat → Nat → Option (Unit ⊕ Int)
  | 0, _ => none
  | a2 + 1, a0 => (if a0 < s_0.length then ((aet fu a1 ((Utf8.decode ⟨List.toArray s_0⟩ a0).1 : Int)).bind fun (a3 : Int) => (if (0 : Int) ≤ a3 then some (.inr (a0 : Int)) else (adt fu s_0 a1 a2 (a0 + (Utf8.decode ⟨List.toArray s_0⟩ a0).2)))) else some (.inl ()))
def ajg (fu : Nat) (s_0 : Str) (a0 : Str) : Option Int :=
  (if a0 = ([] : Str) then some (-1 : Int) else (if (a0.length : Int) = (1 : Int) then (gd (0 ≤ (0 : Int) ∧ (0 : Int) < (a0.length : Int)) <| (((if (128 : Int) ≤ ((at_ a0 (0 : Int)).toNat : Int) then some (65533 : Int) else some ((at_ a0 (0 : Int)).toNat : Int))).bind fun (v8 : Int) => ((aet fu s_0 v8).bind fun (a1 : Int) => some a1))) else ((((aft fu (s_0.length : Int)).bind fun (a2 : Bool) => (bif a2 then none else some ()))).bind fun (a4 : Unit) => (((adt fu s_0 a0 fu 0)).bind fun (a3 : (Unit ⊕ Int)) => zaz (fun (a5 : Unit) => some (-1 : Int)) (fun q => some q) a3))))
end Go.Wk
namespace Go.Px
open Go.Wk
theorem get_at (l : List UInt8) (k : Nat) (h : k < l.length) : (⟨l.toArray⟩ : ByteArray).get! k = at_ l (k : Int) := by
  show l.toArray[k]! = _
  simp [at_, h]
theorem dec_ascii (l : List UInt8) (k : Nat) (h : k < l.length) (h1 : (at_ l (k : Int)).toNat < 128) : Utf8.decode ⟨l.toArray⟩ k = ((at_ l (k : Int)).toNat, 1) := by
  unfold Utf8.decode
  simp only [Nat.add_zero, get_at l k h]
  rw [if_pos (by omega)]
theorem dec_high (l : List UInt8) (k : Nat) (h : k < l.length) (h1 : ¬ (at_ l (k : Int)).toNat < 128) :
    128 ≤ (Utf8.decode ⟨l.toArray⟩ k).1 ∧ 1 ≤ (Utf8.decode ⟨l.toArray⟩ k).2 ∧ k + (Utf8.decode ⟨l.toArray⟩ k).2 ≤ l.length ∧
    ∀ j : Nat, k ≤ j → j < k + (Utf8.decode ⟨l.toArray⟩ k).2 → 128 ≤ (at_ l (j : Int)).toNat := by
  have hsz : (⟨l.toArray⟩ : ByteArray).size = l.length := rfl
  have hone : ∀ c : Nat, 128 ≤ c → 128 ≤ ((c, 1) : Nat × Nat).1 ∧ 1 ≤ ((c, 1) : Nat × Nat).2 ∧ k + ((c, 1) : Nat × Nat).2 ≤ l.length ∧ ∀ j : Nat, k ≤ j → j < k + ((c, 1) : Nat × Nat).2 → 128 ≤ (at_ l (j : Int)).toNat :=
    fun c hc => ⟨hc, Nat.le_refl _, by simp; omega, fun j h2 h3 => by
      have : j = k := by simp at h3; omega
      subst this; omega⟩
  have cont : ∀ i : Nat, (decide (k + i < l.length) && ((⟨l.toArray⟩ : ByteArray).get! (k + i)).toNat / 64 == 2) = true → k + i < l.length ∧ 128 ≤ (at_ l ((k + i : Nat) : Int)).toNat := by
    intro i hi
    simp only [Bool.and_eq_true, decide_eq_true_eq, beq_iff_eq] at hi
    rw [get_at l (k + i) hi.1] at hi
    omega
  have hre : 128 ≤ Utf8.runeError := by decide
  have hk0 : 128 ≤ (at_ l (k : Int)).toNat := by omega
  unfold Utf8.decode
  simp only [Nat.add_zero, get_at l k h, hsz]
  rw [if_neg (by omega)]
  split
  · rename_i h2
    simp only [Bool.and_eq_true] at h2
    have c1 := cont 1 (by simpa using h2.2)
    split
    · rename_i h3
      refine ⟨by simpa using h3, by simp, by simp; omega, fun j h4 h5 => ?_⟩
      have : j = k ∨ j = k + 1 := by simp at h5; omega
      rcases this with rfl | rfl
      · exact hk0
      · exact c1.2
    · exact hone _ hre
  split
  · rename_i h2
    simp only [Bool.and_eq_true] at h2
    have c1 := cont 1 (by simpa using h2.1.2)
    have c2 := cont 2 (by simpa using h2.2)
    split
    · rename_i h3
      simp only [Bool.and_eq_true, decide_eq_true_eq] at h3
      refine ⟨by have := h3.1; simp only [ge_iff_le] at this ⊢; omega, by simp, by simp; omega, fun j h4 h5 => ?_⟩
      have : j = k ∨ j = k + 1 ∨ j = k + 2 := by simp at h5; omega
      rcases this with rfl | rfl | rfl
      · exact hk0
      · exact c1.2
      · exact c2.2
    · exact hone _ hre
  split
  · rename_i h2
    simp only [Bool.and_eq_true] at h2
    have c1 := cont 1 (by simpa using h2.1.1.2)
    have c2 := cont 2 (by simpa using h2.1.2)
    have c3 := cont 3 (by simpa using h2.2)
    split
    · rename_i h3
      simp only [Bool.and_eq_true, decide_eq_true_eq] at h3
      refine ⟨by have := h3.1; simp only [ge_iff_le] at this ⊢; omega, by simp, by simp; omega, fun j h4 h5 => ?_⟩
      have : j = k ∨ j = k + 1 ∨ j = k + 2 ∨ j = k + 3 := by simp at h5; omega
      rcases this with rfl | rfl | rfl | rfl
      · exact hk0
      · exact c1.2
      · exact c2.2
      · exact c3.2
    · exact hone _ hre
  · exact hone _ hre
def encL (r : Int) : List UInt8 := (Utf8.encode r).data.toList
theorem encL_high (r : Int) (h : 128 ≤ r) : 2 ≤ (encL r).length ∧ (encL r).length ≤ 4 ∧ 128 ≤ (at_ (encL r) ((encL r).length - 1 : Int)).toNat := by
  have hv : ∀ n : Nat, 128 ≤ (UInt8.ofNat (128 + n % 64)).toNat := by
    intro n
    rw [UInt8.toNat_ofNat']
    omega
  unfold encL Utf8.encode
  have hc : 128 ≤ (if Utf8.valid r = true then r.toNat else Utf8.runeError) := by
    split
    · omega
    · decide
  generalize (if Utf8.valid r = true then r.toNat else Utf8.runeError) = c at hc
  simp only
  rw [if_neg (by omega)]
  split
  · exact ⟨by simp, by simp, hv c⟩
  split
  · exact ⟨by simp, by simp, hv c⟩
  · exact ⟨by simp, by simp, hv c⟩
end Go.Px
namespace Go.Wk
open Go.Px
open Int renaming toNat → zac
open List renaming set → zae
open Sum renaming elim → zaz
def ahf (fu : Nat) (a0 : UInt8) : Option Bool :=
  (((((if (97 : UInt8) ≤ a0 then some (decide (a0 ≤ (122 : UInt8))) else some false)).bind fun (a1 : Bool) => (bif a1 then (bif a1 then some (.inr true) else some (.inl ())) else (((if (65 : UInt8) ≤ a0 then some (decide (a0 ≤ (90 : UInt8))) else some false)).bind fun (a2 : Bool) => (bif a2 then (bif a2 then some (.inr true) else some (.inl ())) else (if (48 : UInt8) ≤ a0 then (if a0 ≤ (57 : UInt8) then some (.inr true) else some (.inl ())) else some (.inl ()))))))).bind fun (a3 : (Unit ⊕ Bool)) => zaz (fun (a4 : Unit) => (if a0 = (45 : UInt8) then (if a0 = (45 : UInt8) then some true else some false) else (if a0 = (46 : UInt8) then (if a0 = (46 : UInt8) then some true else some false) else (if a0 = (33 : UInt8) then (if a0 = (33 : UInt8) then some true else some false) else (if a0 = (37 : UInt8) then (if a0 = (37 : UInt8) then some true else some false) else (if a0 = (42 : UInt8) then (if a0 = (42 : UInt8) then some true else some false) else (if a0 = (95 : UInt8) then (if a0 = (95 : UInt8) then some true else some false) else (if a0 = (43 : UInt8) then (if a0 = (43 : UInt8) then some true else some false) else (if a0 = (39 : UInt8) then (if a0 = (39 : UInt8) then some true else some false) else (if a0 = (126 : UInt8) then (if a0 = (126 : UInt8) then some true else some false) else (if a0 = (96 : UInt8) then some true else some false))))))))))) (fun q => some q) a3)
def acj (fu : Nat) (s_0 : Str) : Nat → Int → Option Int
  | 0, _ => none
  | a1 + 1, a0 => (((if a0 < (s_0.length : Int) then (gd (0 ≤ a0 ∧ a0 < (s_0.length : Int)) <| ((ahf fu (at_ s_0 a0)).bind fun (a2 : Bool) => some a2)) else some false)).bind fun (a3 : Bool) => (bif a3 then (gd (acy (a0 + (1 : Int))) <| (acj fu s_0 a1 (a0 + (1 : Int)))) else some a0))
def aeg (fu : Nat) (s_0 : Str) (a0 : Int) : Option Int :=
  (((acj fu s_0 fu (min (max a0 (0 : Int)) (s_0.length : Int)))).bind fun (a1 : Int) => some a1)
def afz (fu : Nat) (s_0 : Str) (a0 : Int) : Option Int :=
  ((aeg fu s_0 a0).bind fun (y1 : Int) => some y1)
def agq (fu : Nat) (s_0 : Str) : Option Bool :=
  (((if s_0 = ([] : Str) then some false else ((afz fu s_0 (0 : Int)).bind fun (a0 : Int) => some (decide (a0 = (s_0.length : Int)))))).bind fun (a1 : Bool) => some a1)
def ajh (fu : Nat) (a0 : UInt8) : Option UInt8 :=
  (((if (65 : UInt8) ≤ a0 then some (decide (a0 ≤ (90 : UInt8))) else some false)).bind fun (v5 : Bool) => (bif v5 then some (a0 + (32 : UInt8)) else some a0))
def aln (fu : Nat) (a0 : UInt8) : Option Str :=
  (if a0 = (98 : UInt8) then none else (if a0 = (99 : UInt8) then none else (if a0 = (101 : UInt8) then none else (if a0 = (102 : UInt8) then none else (if a0 = (105 : UInt8) then none else (if a0 = (107 : UInt8) then none else (if a0 = (108 : UInt8) then none else (if a0 = (109 : UInt8) then some ([67, 111, 110, 116, 97, 99, 116] : Str) else none))))))))
def adr (fu : Nat) (s_0 : Str) : Nat → Str → Int → Option Str
  | 0, _, _ => none
  | a2 + 1, a1, a0 => (if a0 < (s_0.length : Int) then (gd (0 ≤ a0 ∧ a0 < (a1.length : Int)) <| (gd (0 ≤ a0 ∧ a0 < (a1.length : Int)) <| ((ajh fu (at_ a1 a0)).bind fun (a3 : UInt8) => (gd (0 ≤ a0 ∧ a0 < (a1.length : Int)) <| (gd (0 ≤ a0 ∧ a0 < (a1.length : Int)) <| (gd (acy (a0 + (1 : Int))) <| (adr fu s_0 a2 (zae a1 (zac a0) a3) (a0 + (1 : Int))))))))) else some a1)
def aei (fu : Nat) (s_0 : Str) : Option Str :=
  (((adr fu s_0 fu s_0 (0 : Int))).bind fun (a0 : Str) => some a0)
def aky (fu : Nat) (a0 : Str) : Nat → Option (Str × UInt8)
  | 0 => none
  | a2 + 1 => (if (0 : Int) < (7 : Int) then (gd (0 ≤ (0 : Int) ∧ (0 : Int) < (aii.length : Int)) <| ((aei fu (el aii (0 : Int))).bind fun (a1 : Str) => (if a1 = a0 then some (el aii (0 : Int), (0 : UInt8)) else none))) else none)
def alt (fu : Nat) (a0 : Str) : Option (Str × UInt8) :=
  ((((agq fu a0).bind fun (a2 : Bool) => (bif (!a2) then none else some ()))).bind fun (v9 : Unit) => (if (64 : Int) < (a0.length : Int) then none else (if (a0.length : Int) = (1 : Int) then (gd (0 ≤ (0 : Int) ∧ (0 : Int) < (a0.length : Int)) <| ((ajh fu (at_ a0 (0 : Int))).bind fun (a3 : UInt8) => ((aln fu a3).bind fun (a1 : Str) => (if a1 = ([] : Str) then none else some (a1, (0 : UInt8)))))) else ((aei fu a0).bind fun (a4 : Str) => (aky fu a4 fu)))))
open List renaming drop → zam
def aok (fu : Nat) (a0 : Str) : Option Bool :=
  (if a0 = ([67, 111, 110, 116, 97, 99, 116] : Str) then (if a0 = ([67, 111, 110, 116, 97, 99, 116] : Str) then some true else none) else none)
def agj (fu : Nat) (a0 : UInt8) : Option Bool :=
  (((if a0 = (32 : UInt8) then some true else some (decide (a0 = (9 : UInt8))))).bind fun (v5 : Bool) => some v5)
def abt (fu : Nat) (s_0 : Str) : Nat → Int → Option Int
  | 0, _ => none
  | a1 + 1, a0 => (((if a0 < (s_0.length : Int) then (gd (0 ≤ a0 ∧ a0 < (s_0.length : Int)) <| ((agj fu (at_ s_0 a0)).bind fun (a2 : Bool) => some a2)) else some false)).bind fun (a3 : Bool) => (bif a3 then (gd (acy (a0 + (1 : Int))) <| (abt fu s_0 a1 (a0 + (1 : Int)))) else some a0))
def afh (fu : Nat) (s_0 : Str) (a0 : Int) : Option Int :=
  (((abt fu s_0 fu (min (max a0 (0 : Int)) (s_0.length : Int)))).bind fun (a1 : Int) => some a1)
def ags (fu : Nat) (s_0 : Str) (a0 : Int) : Option Int :=
  ((afh fu s_0 a0).bind fun (y1 : Int) => some y1)
def ami (fu : Nat) (s_0 : Str) (a1 : Int) (a0 : Int) : Option (Int × Str) :=
  ((ags fu s_0 a1).bind fun (y4 : Int) => (gd (0 ≤ (min y4 a0) ∧ (min y4 a0) ≤ a0 ∧ a0 ≤ (s_0.length : Int)) <| (gd ((sub s_0 (min y4 a0) a0).length ≤ 1000000000) <| gd (([32, 9] : Str).length ≤ 1000 ∧ ([32, 9] : Str).all (fun b => decide (b.toNat < 128)) = true) <| some (min y4 a0, Lib.trimRightS (sub s_0 (min y4 a0) a0) ([32, 9] : Str)))))
def agu (fu : Nat) (s_0 : Str) (a2 : UInt8) : Nat → (List (Int × Str)) → Int → Int → Option ((List (Int × Str)) × Int)
  | 0, _, _, _ => none
  | a4 + 1, a1, a3, a0 => (if a0 < (s_0.length : Int) then (gd (0 ≤ a0 ∧ a0 < (s_0.length : Int)) <| (if (at_ s_0 a0) = (34 : UInt8) then none else (if (at_ s_0 a0) = (60 : UInt8) then (gd (0 ≤ a0 ∧ a0 ≤ (s_0.length : Int)) <| (if (ixb (· == (62 : UInt8)) (zam (zac a0) s_0)) < (0 : Int) then none else (gd (acy ((ixb (· == (62 : UInt8)) (zam (zac a0) s_0)) + (1 : Int))) <| (gd (acy (a0 + ((ixb (· == (62 : UInt8)) (zam (zac a0) s_0)) + (1 : Int)))) <| (agu fu s_0 a2 a4 a1 a3 (a0 + ((ixb (· == (62 : UInt8)) (zam (zac a0) s_0)) + (1 : Int)))))))) else (if (at_ s_0 a0) = (62 : UInt8) then none else (if (at_ s_0 a0) = a2 then ((ami fu s_0 a3 a0).bind fun (a5 : (Int × Str)) => (gd ((a1.length + ([a5] : List (Int × Str)).length) * 24 ≤ 140737488355328) <| (gd (acy (a0 + (1 : Int))) <| (agu fu s_0 a2 a4 (a1 ++ ([a5] : List (Int × Str))) (a0 + (1 : Int)) (a0 + (1 : Int)))))) else (gd (acy (a0 + (1 : Int))) <| (agu fu s_0 a2 a4 a1 a3 (a0 + (1 : Int))))))))) else some (a1, a3))
def aoi (fu : Nat) (s_0 : Str) (a0 : UInt8) : Option ((List (Int × Str)) × Int × UInt8) :=
  ((((agj fu a0).bind fun (a3 : Bool) => (bif a3 then none else (if a0 = (34 : UInt8) then none else (if a0 = (60 : UInt8) then none else some ()))))).bind fun (a4 : Unit) => (if a0 = (62 : UInt8) then none else (((agu fu s_0 a0 fu ([] : List (Int × Str)) (0 : Int) (0 : Int))).bind fun (a1 : ((List (Int × Str)) × Int)) => ((ami fu s_0 a1.2 (s_0.length : Int)).bind fun (a2 : (Int × Str)) => (gd ((a1.1.length + ([a2] : List (Int × Str)).length) * 24 ≤ 140737488355328) <| some (a1.1 ++ ([a2] : List (Int × Str)), (0 : Int), (0 : UInt8)))))))
def aju (fu : Nat) (y1 : ((List (Int × Str)) × Int × UInt8)) : Nat → (List Str) → Int → Option (List Str)
  | 0, _, _ => none
  | a2 + 1, a1, a0 => (if a0 < (y1.1.length : Int) then (gd (0 ≤ a0 ∧ a0 < (y1.1.length : Int)) <| (gd (0 ≤ a0 ∧ a0 < (y1.1.length : Int)) <| (if ((el y1.1 a0).2) = ([] : Str) then none else (gd ((a1.length + ([(el y1.1 a0).2] : List Str).length) * 16 ≤ 140737488355328) <| (gd (acy (a0 + (1 : Int))) <| (aju fu y1 a2 (a1 ++ ([(el y1.1 a0).2] : List Str)) (a0 + (1 : Int)))))))) else some a1)
def aom (fu : Nat) (a0 : Str) : Option ((List Str) × UInt8) :=
  ((aoi fu a0 (44 : UInt8)).bind fun (y1 : ((List (Int × Str)) × Int × UInt8)) => (if y1.2.2 = (0 : UInt8) then (((aju fu y1 fu ([] : List Str) (0 : Int))).bind fun (a1 : List Str) => some (a1, (0 : UInt8))) else none))
def aij (fu : Nat) (a1 : Str) : Nat → Int → Option Int
  | 0, _ => none
  | a2 + 1, a0 => (if a0 < (31 : Int) then (gd (0 ≤ a0 ∧ a0 < (31 : Int)) <| (gd (0 ≤ a0 ∧ a0 < (akw.length : Int)) <| (if ((el akw a0).1) = a1 then (gd (0 ≤ a0 ∧ a0 < (31 : Int)) <| (gd (0 ≤ a0 ∧ a0 < (akw.length : Int)) <| some ((el akw a0).2))) else (gd (acy (a0 + (1 : Int))) <| (aij fu a1 a2 (a0 + (1 : Int))))))) else none)
def amq (fu : Nat) (a0 : Str) : Option Int :=
  (aij fu a0 fu (0 : Int))
open Go.Lib renaming indexAny → zat, join → zaw
open List renaming drop → zam, set → zae
def ahi (fu : Nat) (s_0 : Str) : Option Str :=
  (gd (s_0.length ≤ 1000000000) <| gd (([32, 9] : Str).length ≤ 1000 ∧ ([32, 9] : Str).all (fun b => decide (b.toNat < 128)) = true) <| some (Lib.trimS s_0 ([32, 9] : Str)))
def acr (fu : Nat) (a0 : (Str × Int)) : Option (Str × Int) :=
  ((ags fu a0.1 a0.2).bind fun (y1 : Int) => some (a0.1, y1))
def aep (fu : Nat) (a0 : (Str × Int)) : Option Bool :=
  some (decide ((a0.1.length : Int) ≤ a0.2))
def abl (fu : Nat) (a0 : (Str × Int)) (a1 : UInt8) : Option Bool :=
  ((((aep fu a0).bind fun (a2 : Bool) => (bif (!a2) then (gd (0 ≤ a0.2 ∧ a0.2 < (a0.1.length : Int)) <| some (decide ((at_ a0.1 a0.2) = a1))) else some false))).bind fun (a3 : Bool) => some a3)
def aeo (fu : Nat) (a0 : (Str × Int)) : Option (Str × (Str × Int)) :=
  ((afz fu a0.1 a0.2).bind fun (y1 : Int) => (gd (0 ≤ a0.2 ∧ a0.2 ≤ y1 ∧ y1 ≤ (a0.1.length : Int)) <| some (sub a0.1 a0.2 y1, (a0.1, y1))))
def afa (fu : Nat) : Nat → (List Str) → Str → Int → Option ((List Str) × Str × Int)
  | 0, _, _, _ => none
  | a5 + 1, a1, a2, a3 => ((abl fu (a2, a3) (60 : UInt8)).bind fun (a6 : Bool) => (bif (!a6) then ((aeo fu (a2, a3)).bind fun (a0 : (Str × (Str × Int))) => (if a0.1 = ([] : Str) then none else (gd ((a1.length + ([a0.1] : List Str).length) * 16 ≤ 140737488355328) <| ((acr fu a0.2).bind fun (a4 : (Str × Int)) => (afa fu a5 (a1 ++ ([a0.1] : List Str)) a4.1 a4.2))))) else some (a1, a2, a3)))
def ahb (fu : Nat) (a1 : (Str × Int)) (a2 : (Str × (Str × Str × Str × Int × (List PQ) × (List PQ)) × (List PQ))) : Option (Int × UInt8 × (Str × Int) × (Str × (Str × Str × Str × Int × (List PQ) × (List PQ)) × (List PQ))) :=
  (((afa fu fu ([] : List Str) a1.1 a1.2)).bind fun (a0 : ((List Str) × Str × Int)) => (gd (a0.1.length ≤ 1000000000 ∧ (zaw a0.1 ([32] : Str)).length ≤ 100000000000) <| some ((0 : Int), (0 : UInt8), a0.2, (zaw a0.1 ([32] : Str), a2.2.1, a2.2.2))))
def ael (fu : Nat) (a1 : Str) (a0 : Int) (a2 : Str) : Option Int :=
  (gd (0 ≤ a0 ∧ a0 ≤ (a1.length : Int)) <| (gd ((zam (zac a0) a1).length ≤ 1000000000 ∧ a2.length ≤ 1000 ∧ a2.all (fun b => decide (b.toNat < 128)) = true) <| (if (0 : Int) ≤ (zat (zam (zac a0) a1) a2) then (gd (acy (a0 + (zat (zam (zac a0) a1) a2))) <| some (a0 + (zat (zam (zac a0) a1) a2))) else some (a1.length : Int))))
def aeu (fu : Nat) (s_0 : Str) : Nat → Str → Int → Option Str
  | 0, _, _ => none
  | a2 + 1, a1, a0 => (if a0 < (s_0.length : Int) then (gd (0 ≤ a0 ∧ a0 < (a1.length : Int)) <| (gd (0 ≤ a0 ∧ a0 < (a1.length : Int)) <| (((if (65 : UInt8) ≤ (at_ a1 a0) then some (decide ((at_ a1 a0) ≤ (90 : UInt8))) else some false)).bind fun (a3 : Bool) => (bif a3 then (gd (0 ≤ a0 ∧ a0 < (a1.length : Int)) <| (gd (0 ≤ a0 ∧ a0 < (a1.length : Int)) <| (gd (acy (a0 + (1 : Int))) <| (aeu fu s_0 a2 (zae a1 (zac a0) ((at_ a1 a0) + (32 : UInt8))) (a0 + (1 : Int)))))) else (gd (acy (a0 + (1 : Int))) <| (aeu fu s_0 a2 a1 (a0 + (1 : Int)))))))) else some a1)
def adp (fu : Nat) (s_0 : Str) : Option Str :=
  (((aeu fu s_0 fu s_0 (0 : Int))).bind fun (a0 : Str) => some a0)
def ahd (fu : Nat) (a0 : UInt8) : Option Bool :=
  (((if (97 : UInt8) ≤ a0 then (if a0 ≤ (122 : UInt8) then some true else (if (65 : UInt8) ≤ a0 then some (decide (a0 ≤ (90 : UInt8))) else some false)) else (if (65 : UInt8) ≤ a0 then some (decide (a0 ≤ (90 : UInt8))) else some false))).bind fun (v8 : Bool) => some v8)
def ajv (fu : Nat) (a0 : UInt8) (a2 : Int) : Option Bool :=
  ((((ahd fu a0).bind fun (a1 : Bool) => (bif a1 then some () else none))).bind fun (v9 : Unit) => some true)
def agd (fu : Nat) (a1 : (Str × Int)) (a2 : Int) (a3 : Int) : Nat → Int → Option Unit
  | 0, _ => none
  | a4 + 1, a0 => (if a0 < a2 then (gd (0 ≤ a0 ∧ a0 < (a1.1.length : Int)) <| ((ajv fu (at_ a1.1 a0) a3).bind fun (a5 : Bool) => (bif a5 then (gd (acy (a0 + (1 : Int))) <| (agd fu a1 a2 a3 a4 (a0 + (1 : Int)))) else none))) else some ())
def agy (fu : Nat) (a0 : (Str × Int)) (a1 : Int) (a2 : Int) : Option (Int × Bool) :=
  (((agd fu a0 a1 a2 fu a0.2)).bind fun (a3 : Unit) => some ((0 : Int), false))
def agz (fu : Nat) (s_0 : Str) : Nat → (List UInt8) → Int → Option (List UInt8)
  | 0, _, _ => none
  | a2 + 1, a1, a0 => (if a0 < (s_0.length : Int) then (gd (0 ≤ a0 ∧ a0 < (s_0.length : Int)) <| (if (at_ s_0 a0) = (37 : UInt8) then none else (gd (0 ≤ a0 ∧ a0 < (s_0.length : Int)) <| (gd ((a1.length + ([at_ s_0 a0] : List UInt8).length) * 1 ≤ 140737488355328) <| (gd (acy (a0 + (1 : Int))) <| (agz fu s_0 a2 (a1 ++ ([at_ s_0 a0] : List UInt8)) (a0 + (1 : Int)))))))) else some a1)
def akz (fu : Nat) (s_0 : Str) : Option (Str × Int × UInt8) :=
  (gd (0 ≤ (s_0.length : Int) ∧ (1 : Int) * (s_0.length : Int) ≤ 281474976710656) <| (((agz fu s_0 fu ([] : List UInt8) (0 : Int))).bind fun (a0 : List UInt8) => some (a0, (0 : Int), (0 : UInt8))))
def ajw (fu : Nat) (s_0 : Str) : Option Str :=
  ((akz fu s_0).bind fun (y1 : (Str × Int × UInt8)) => some y1.1)
def afv (fu : Nat) (a0 : UInt8) : Option Bool :=
  (((if (48 : UInt8) ≤ a0 then some (decide (a0 ≤ (57 : UInt8))) else some false)).bind fun (v5 : Bool) => some v5)
def ahk (fu : Nat) (a0 : UInt8) : Option (UInt8 × Bool) :=
  ((afv fu a0).bind fun (y1 : Bool) => (bif y1 then some (a0 - (48 : UInt8), true) else (((if (97 : UInt8) ≤ a0 then some (decide (a0 ≤ (102 : UInt8))) else some false)).bind fun (a1 : Bool) => (bif a1 then some ((a0 - (97 : UInt8)) + (10 : UInt8), true) else (((if (65 : UInt8) ≤ a0 then some (decide (a0 ≤ (70 : UInt8))) else some false)).bind fun (a2 : Bool) => (bif a2 then some ((a0 - (65 : UInt8)) + (10 : UInt8), true) else some ((0 : UInt8), false)))))))
def adb (fu : Nat) (a1 : List Str) (a2 : Int) : Nat → Int → Option (Unit ⊕ ((List Str) × Bool))
  | 0, _ => none
  | a3 + 1, a0 => (if a0 < ((el a1 a2).length : Int) then (gd (0 ≤ a0 ∧ a0 < ((el a1 a2).length : Int)) <| ((ahk fu (at_ (el a1 a2) a0)).bind fun (a4 : (UInt8 × Bool)) => (bif (!a4.2) then some (.inr (([] : List Str), false)) else (gd (acy (a0 + (1 : Int))) <| (adb fu a1 a2 a3 (a0 + (1 : Int))))))) else some (.inl ()))
def adc (fu : Nat) (s_0 : Str) : Nat → (List Str) → Int → Option ((List Str) ⊕ ((List Str) × Bool))
  | 0, _, _ => none
  | a3 + 1, a1, a0 => (if a0 < ((spl 58 s_0).length : Int) then (((gd (0 ≤ a0 ∧ a0 < (a1.length : Int)) <| (gd (0 ≤ a0 ∧ a0 < (a1.length : Int)) <| (((if ((el a1 a0).length : Int) < (1 : Int) then some true else some (decide ((4 : Int) < ((el a1 a0).length : Int))))).bind fun (a4 : Bool) => (bif a4 then some (.inr (([] : List Str), false)) else (((adb fu a1 a0 fu (0 : Int))).bind fun (a5 : (Unit ⊕ ((List Str) × Bool))) => zaz (fun (a8 : Unit) => ((adp fu (el a1 a0)).bind fun (a2 : Str) => (gd (a2.length ≤ 1000000000) <| gd (([48] : Str).length ≤ 1000 ∧ ([48] : Str).all (fun b => decide (b.toNat < 128)) = true) <| (if (Lib.trimLeftS a2 ([48] : Str)) = ([] : Str) then (gd (0 ≤ a0 ∧ a0 < (a1.length : Int)) <| (gd (0 ≤ a0 ∧ a0 < (a1.length : Int)) <| some (.inl (zae a1 (zac a0) ([48] : Str))))) else (gd (0 ≤ a0 ∧ a0 < (a1.length : Int)) <| (gd (0 ≤ a0 ∧ a0 < (a1.length : Int)) <| some (.inl (zae a1 (zac a0) (Lib.trimLeftS a2 ([48] : Str)))))))))) (fun q => some (.inr q)) a5)))))).bind fun (a6 : ((List Str) ⊕ ((List Str) × Bool))) => zaz (fun (a7 : List Str) => (gd (acy (a0 + (1 : Int))) <| (adc fu s_0 a3 a7 (a0 + (1 : Int))))) (fun q => some (.inr q)) a6) else some (.inl a1))
def aev (fu : Nat) (s_0 : Str) : Option ((List Str) × Bool) :=
  (gd (s_0.length ≤ 1000000000) <| (((adc fu s_0 fu (spl 58 s_0) (0 : Int))).bind fun (a0 : ((List Str) ⊕ ((List Str) × Bool))) => zaz (fun (a1 : List Str) => some (a1, true)) (fun q => some q) a0))
open Go.Lib renaming index → zap, join → zaw
def aiv (fu : Nat) (s_0 : Str) : Option (Str × Bool) :=
  (if (39 : Int) < (s_0.length : Int) then some (([] : Str), false) else (gd (s_0.length ≤ 1000000000) <| (bif (!((Lib.cut s_0 ([58, 58] : Str)).2.2)) then ((aev fu s_0).bind fun (y7 : ((List Str) × Bool)) => (((gd (y7.1.length ≤ 1000000000 ∧ (zaw y7.1 ([58] : Str)).length ≤ 100000000000) <| (bif y7.2 then some (decide ((y7.1.length : Int) = (8 : Int))) else some false))).bind fun (a4 : Bool) => some (zaw y7.1 ([58] : Str), a4))) else (((if ((Lib.cut s_0 ([58, 58] : Str)).1) = ([] : Str) then some (([] : List Str), true) else ((aev fu ((Lib.cut s_0 ([58, 58] : Str)).1)).bind fun (a2 : ((List Str) × Bool)) => some (a2.1, a2.2)))).bind fun (a0 : ((List Str) × Bool)) => (((if ((Lib.cut s_0 ([58, 58] : Str)).2.1) = ([] : Str) then some (([] : List Str), true) else ((aev fu ((Lib.cut s_0 ([58, 58] : Str)).2.1)).bind fun (a3 : ((List Str) × Bool)) => some (a3.1, a3.2)))).bind fun (a1 : ((List Str) × Bool)) => (((bif (!a0.2) then some true else (bif (!a1.2) then some true else (gd (acy ((a0.1.length : Int) + (a1.1.length : Int))) <| some (decide ((7 : Int) < ((a0.1.length : Int) + (a1.1.length : Int)))))))).bind fun (a5 : Bool) => (bif a5 then some (([] : Str), false) else (gd (a0.1.length ≤ 1000000000 ∧ (zaw a0.1 ([58] : Str)).length ≤ 100000000000) <| (gd ((zaw a0.1 ([58] : Str)).length + ([58, 58] : Str).length ≤ 9223372036854775807) <| (gd (a1.1.length ≤ 1000000000 ∧ (zaw a1.1 ([58] : Str)).length ≤ 100000000000) <| (gd (((zaw a0.1 ([58] : Str)) ++ ([58, 58] : Str)).length + (zaw a1.1 ([58] : Str)).length ≤ 9223372036854775807) <| some (((zaw a0.1 ([58] : Str)) ++ ([58, 58] : Str)) ++ (zaw a1.1 ([58] : Str)), true))))))))))))
def adz (fu : Nat) (s_0 : Str) (a1 : Int) : Nat → Int → Int → Option (Int ⊕ Bool)
  | 0, _, _ => none
  | a3 + 1, a2, a0 => (if a0 < ((el (spl 46 s_0) a1).length : Int) then (gd (0 ≤ a0 ∧ a0 < ((el (spl 46 s_0) a1).length : Int)) <| ((afv fu (at_ (el (spl 46 s_0) a1) a0)).bind fun (a4 : Bool) => (bif (!a4) then some (.inr false) else (gd (acy ((10 : Int) * a2)) <| (gd (0 ≤ a0 ∧ a0 < ((el (spl 46 s_0) a1).length : Int)) <| (gd (acy (((10 : Int) * a2) + (((at_ (el (spl 46 s_0) a1) a0) - (48 : UInt8)).toNat : Int))) <| (gd (acy (a0 + (1 : Int))) <| (adz fu s_0 a1 a3 (((10 : Int) * a2) + (((at_ (el (spl 46 s_0) a1) a0) - (48 : UInt8)).toNat : Int)) (a0 + (1 : Int)))))))))) else some (.inl a2))
def aea (fu : Nat) (s_0 : Str) : Nat → Int → Option (Unit ⊕ Bool)
  | 0, _ => none
  | a2 + 1, a0 => (if a0 < ((spl 46 s_0).length : Int) then (((gd (0 ≤ a0 ∧ a0 < ((spl 46 s_0).length : Int)) <| (gd (0 ≤ a0 ∧ a0 < ((spl 46 s_0).length : Int)) <| (((adz fu s_0 a0 fu (0 : Int) (0 : Int))).bind fun (a3 : (Int ⊕ Bool)) => zaz (fun (a1 : Int) => (((if (el (spl 46 s_0) a0) = ([] : Str) then some true else (if (255 : Int) < a1 then some true else (gd (acy a1) <| some (!decide ((el (spl 46 s_0) a0) = (Lib.itoa a1))))))).bind fun (a4 : Bool) => (bif a4 then some (.inr false) else some (.inl ())))) (fun q => some (.inr q)) a3)))).bind fun (a5 : (Unit ⊕ Bool)) => zaz (fun (a6 : Unit) => (gd (acy (a0 + (1 : Int))) <| (aea fu s_0 a2 (a0 + (1 : Int))))) (fun q => some (.inr q)) a5) else some (.inl ()))
def aib (fu : Nat) (s_0 : Str) : Option Bool :=
  (if (15 : Int) < (s_0.length : Int) then some false else (gd (s_0.length ≤ 1000000000) <| (((aea fu s_0 fu (0 : Int))).bind fun (a0 : (Unit ⊕ Bool)) => zaz (fun (a1 : Unit) => some (decide (((spl 46 s_0).length : Int) = (4 : Int)))) (fun q => some q) a0)))
def aje (fu : Nat) (s_0 : Str) (a0 : Str) (a1 : Int) : Option (Str × Str × Int) :=
  some (a0, s_0, a1)
def ajf (fu : Nat) (s_0 : Str) (a0 : Str) : Option (Str × Str × Int) :=
  ((aje fu s_0 a0 (0 : Int)).bind fun (y1 : (Str × Str × Int)) => some (y1.1, y1.2.1, y1.2.2))
def abx (fu : Nat) (a1 : Str) (a2 : Bool) : Nat → Int → Bool → Option ((Nat × Bool × Bool))
  | 0, _, _ => none
  | a4 + 1, a0, a3 => (if a0 < (a1.length : Int) then (gd (0 ≤ a0 ∧ a0 < (a1.length : Int)) <| ((((ahd fu (at_ a1 a0)).bind fun (a5 : Bool) => (bif (!a5) then ((afv fu (at_ a1 a0)).bind fun (a6 : Bool) => (bif (!a6) then some (!decide ((at_ a1 a0) = (45 : UInt8))) else some false)) else some false))).bind fun (a7 : Bool) => (bif a7 then some (1, a3, false) else (bif a3 then (gd (acy (a0 + (1 : Int))) <| (abx fu a1 a2 a4 (a0 + (1 : Int)) true)) else ((afv fu (at_ a1 a0)).bind fun (a8 : Bool) => (gd (acy (a0 + (1 : Int))) <| (abx fu a1 a2 a4 (a0 + (1 : Int)) (!a8)))))))) else some (0, a3, a2))
def aed (fu : Nat) (a0 : Str) (a1 : Bool) (a2 : Bool) : Option (Nat × Bool × Bool) :=
  (((if (a0.length : Int) < (1 : Int) then some true else (if (63 : Int) < (a0.length : Int) then some true else (gd (0 ≤ (0 : Int) ∧ (0 : Int) < (a0.length : Int)) <| (if (at_ a0 (0 : Int)) = (45 : UInt8) then some true else (gd (acy ((a0.length : Int) - (1 : Int))) <| (gd (0 ≤ ((a0.length : Int) - (1 : Int)) ∧ ((a0.length : Int) - (1 : Int)) < (a0.length : Int)) <| some (decide ((at_ a0 ((a0.length : Int) - (1 : Int))) = (45 : UInt8)))))))))).bind fun (a3 : Bool) => (bif a3 then some (1, a1, false) else (abx fu a0 a2 fu (0 : Int) a1)))
def aef (fu : Nat) (a0 : Str) : Nat → Option Unit
  | 0 => none
  | a1 + 1 => (if (0 : Int) < (a0.length : Int) then none else some ())
def abc (fu : Nat) (a1 : Str) (a3 : Int) : Nat → Bool → Bool → Str → Option ((Bool × Bool × Str) ⊕ (Bool × Bool × Str × Nat))
  | 0, _, _, _ => none
  | a6 + 1, a4, a5, a0 => (gd (a0.length ≤ 1000000000) <| (if (zap a0 a1) < (0 : Int) then some (.inl (a4, a5, a0)) else (gd (acy ((zap a0 a1) + a3)) <| (gd (0 ≤ ((zap a0 a1) + a3) ∧ ((zap a0 a1) + a3) ≤ (a0.length : Int)) <| ((aed fu (List.take (zac ((zap a0 a1) + a3)) a0) a4 a5).bind fun (a2 : (Nat × Bool × Bool)) => (if a2.1 = 0 then (gd (acy ((zap a0 a1) + (a1.length : Int))) <| (gd (0 ≤ ((zap a0 a1) + (a1.length : Int)) ∧ ((zap a0 a1) + (a1.length : Int)) ≤ (a0.length : Int)) <| (abc fu a1 a3 a6 a2.2.1 a2.2.2 (zam (zac ((zap a0 a1) + (a1.length : Int))) a0)))) else some (.inr (a2.2.1, a2.2.2, a0, a2.1))))))))
def adq (fu : Nat) (a3 : Bool) (a4 : Bool) (a5 : Str) (a2 : Str) (a6 : Int) : Option (Bool × Bool × Str × Nat) :=
  (((if (a5.length : Int) = (0 : Int) then (((aef fu a2 fu)).bind fun (a9 : Unit) => some (.inr (a3, a4, a2, 0))) else some (.inl ()))).bind fun (a7 : (Unit ⊕ (Bool × Bool × Str × Nat))) => zaz (fun (b0 : Unit) => (((abc fu a5 a6 fu a3 a4 a2)).bind fun (a8 : ((Bool × Bool × Str) ⊕ (Bool × Bool × Str × Nat))) => zaz (fun (a1 : (Bool × Bool × Str)) => ((aed fu a1.2.2 a1.1 a1.2.1).bind fun (a0 : (Nat × Bool × Bool)) => (if a0.1 = 0 then some (a0.2.1, a0.2.2, a1.2.2, 0) else some (a0.2.1, a0.2.2, a1.2.2, a0.1)))) (fun q => some q) a8)) (fun q => some q) a7)
def ajn (fu : Nat) (s_0 : Str) : Option Bool :=
  (((if (s_0.length : Int) < (1 : Int) then some true else some (decide ((255 : Int) < (s_0.length : Int))))).bind fun (v8 : Bool) => (bif v8 then some false else ((ajf fu s_0 ([46] : Str)).bind fun (a1 : (Str × Str × Int)) => ((adq fu false false a1.1 a1.2.1 a1.2.2).bind fun (a0 : (Bool × Bool × Str × Nat)) => (if a0.2.2.2 = 0 then some a0.1 else (if a0.2.2.2 = 1 then some a0.2.1 else none))))))
def afe (fu : Nat) (s_0 : Str) : Option (Str × Bool) :=
  (((if (2 : Int) ≤ (s_0.length : Int) then (gd (0 ≤ (0 : Int) ∧ (0 : Int) < (s_0.length : Int)) <| (if (at_ s_0 (0 : Int)) = (91 : UInt8) then (gd (acy ((s_0.length : Int) - (1 : Int))) <| (gd (0 ≤ ((s_0.length : Int) - (1 : Int)) ∧ ((s_0.length : Int) - (1 : Int)) < (s_0.length : Int)) <| some (decide ((at_ s_0 ((s_0.length : Int) - (1 : Int))) = (93 : UInt8))))) else some false)) else some false)).bind fun (v9 : Bool) => (bif v9 then (gd (acy ((s_0.length : Int) - (1 : Int))) <| (gd (0 ≤ (1 : Int) ∧ (1 : Int) ≤ ((s_0.length : Int) - (1 : Int)) ∧ ((s_0.length : Int) - (1 : Int)) ≤ (s_0.length : Int)) <| ((aiv fu (sub s_0 (1 : Int) ((s_0.length : Int) - (1 : Int)))).bind fun (a0 : (Str × Bool)) => (bif (!a0.2) then some (([] : Str), false) else (gd (([91] : Str).length + a0.1.length ≤ 9223372036854775807) <| (gd ((([91] : Str) ++ a0.1).length + ([93] : Str).length ≤ 9223372036854775807) <| some ((([91] : Str) ++ a0.1) ++ ([93] : Str), true))))))) else ((aib fu s_0).bind fun (a1 : Bool) => (bif a1 then some (s_0, true) else ((ajn fu s_0).bind fun (a2 : Bool) => (bif a2 then ((adp fu s_0).bind fun (a3 : Str) => some (a3, true)) else some (([] : Str), false)))))))
def aja (fu : Nat) (a0 : (Str × Int)) (a3 : (Str × Str × Str × Int × (List PQ) × (List PQ))) : Option (Int × UInt8 × (Str × Int) × (Str × Str × Str × Int × (List PQ) × (List PQ))) :=
  (((gd (0 ≤ a0.2 ∧ a0.2 ≤ (a0.1.length : Int)) <| (if (0 : Int) ≤ (ixb (· == (64 : UInt8)) (zam (zac a0.2) a0.1)) then (gd (acy (a0.2 + (ixb (· == (64 : UInt8)) (zam (zac a0.2) a0.1)))) <| ((agy fu a0 (a0.2 + (ixb (· == (64 : UInt8)) (zam (zac a0.2) a0.1))) (0 : Int)).bind fun (a5 : (Int × Bool)) => (bif a5.2 then none else (if (ixb (· == (64 : UInt8)) (zam (zac a0.2) a0.1)) = (0 : Int) then none else (gd (0 ≤ a0.2 ∧ a0.2 ≤ (a0.2 + (ixb (· == (64 : UInt8)) (zam (zac a0.2) a0.1))) ∧ (a0.2 + (ixb (· == (64 : UInt8)) (zam (zac a0.2) a0.1))) ≤ (a0.1.length : Int)) <| ((ajw fu (sub a0.1 a0.2 (a0.2 + (ixb (· == (64 : UInt8)) (zam (zac a0.2) a0.1))))).bind fun (a6 : Str) => (gd (acy ((a0.2 + (ixb (· == (64 : UInt8)) (zam (zac a0.2) a0.1))) + (1 : Int))) <| some ((a0.2 + (ixb (· == (64 : UInt8)) (zam (zac a0.2) a0.1))) + (1 : Int), a6)))))))) else some (a0.2, a3.2.1)))).bind fun (a2 : (Int × Str)) => ((ael fu a0.1 a2.1 ([58, 59, 63] : Str)).bind fun (a1 : Int) => ((abl fu (a0.1, a2.1) (91 : UInt8)).bind fun (a7 : Bool) => (bif a7 then none else (gd (0 ≤ a2.1 ∧ a2.1 ≤ a1 ∧ a1 ≤ (a0.1.length : Int)) <| ((afe fu (sub a0.1 a2.1 a1)).bind fun (a4 : (Str × Bool)) => (bif (!a4.2) then none else ((abl fu (a0.1, a1) (58 : UInt8)).bind fun (a8 : Bool) => (bif a8 then none else ((((aep fu (a0.1, a1)).bind fun (a9 : Bool) => (bif (!a9) then ((abl fu (a0.1, a1) (59 : UInt8)).bind fun (b0 : Bool) => (bif (!b0) then none else some ())) else some ()))).bind fun (b1 : Unit) => some ((0 : Int), (0 : UInt8), (a0.1, a1), (a3.1, a2.2, a4.1, a3.2.2.2.1, a3.2.2.2.2.1, a3.2.2.2.2.2))))))))))))
def aic (fu : Nat) (a0 : PQ) (a1 : Str) : Option Bool :=
  some (decide (a0.1 = a1))
def aav (fu : Nat) (s_0 : List PQ) (a1 : Str) : Nat → Int → Option (Unit ⊕ Int)
  | 0, _ => none
  | a2 + 1, a0 => (if a0 < (s_0.length : Int) then (gd (0 ≤ a0 ∧ a0 < (s_0.length : Int)) <| (gd (0 ≤ a0 ∧ a0 < (s_0.length : Int)) <| ((aic fu ((el s_0 a0).1, (el s_0 a0).2.1, ((el s_0 a0).2.2)) a1).bind fun (a3 : Bool) => (bif a3 then some (.inr a0) else (gd (acy (a0 + (1 : Int))) <| (aav fu s_0 a1 a2 (a0 + (1 : Int)))))))) else some (.inl ()))
def adj (fu : Nat) (s_0 : List PQ) (a0 : Str) : Option Int :=
  (((aav fu s_0 a0 fu (0 : Int))).bind fun (a1 : (Unit ⊕ Int)) => zaz (fun (a2 : Unit) => some (-1 : Int)) (fun q => some q) a1)
def ada (fu : Nat) (s_0 : List PQ) (a0 : Str) : Option Bool :=
  ((adj fu s_0 a0).bind fun (y1 : Int) => some (decide ((0 : Int) ≤ y1)))
def agw (fu : Nat) (a0 : List PQ) (a1 : Str) : Option Bool :=
  ((ada fu a0 a1).bind fun (y4 : Bool) => some y4)
def aiy (fu : Nat) (a0 : List PQ) (a1 : Str) : Option UInt8 :=
  ((agw fu a0 a1).bind fun (y1 : Bool) => (bif y1 then some (7 : UInt8) else (if (16 : Int) ≤ (a0.length : Int) then some (4 : UInt8) else some (0 : UInt8))))
def ajb (fu : Nat) (a0 : (Str × Int)) (a2 : List PQ) (a1 : Int) (a4 : Int) : Option ((List PQ) × Int × UInt8 × (Str × Int)) :=
  (gd (0 ≤ a0.2 ∧ a0.2 ≤ a1 ∧ a1 ≤ (a0.1.length : Int)) <| (if (0 : Int) ≤ (ixb (· == (61 : UInt8)) (sub a0.1 a0.2 a1)) then none else ((agy fu a0 a1 a4).bind fun (y7 : (Int × Bool)) => (bif y7.2 then none else (if a1 = a0.2 then none else (gd (0 ≤ a0.2 ∧ a0.2 ≤ a1 ∧ a1 ≤ (a0.1.length : Int)) <| ((ajw fu (sub a0.1 a0.2 a1)).bind fun (a5 : Str) => ((adp fu a5).bind fun (a3 : Str) => (if (0 : Int) ≤ (ixb (· == (61 : UInt8)) (sub a0.1 a0.2 a1)) then none else (if a4 = (2 : Int) then none else ((aiy fu a2 a3).bind fun (a6 : UInt8) => (if a6 = (0 : UInt8) then (gd ((a2.length + ([(a3, ([] : Str), (decide ((0 : Int) ≤ (ixb (· == (61 : UInt8)) (sub a0.1 a0.2 a1)))))] : List PQ).length) * 40 ≤ 140737488355328) <| some (a2 ++ ([(a3, ([] : Str), (decide ((0 : Int) ≤ (ixb (· == (61 : UInt8)) (sub a0.1 a0.2 a1)))))] : List PQ), (0 : Int), (0 : UInt8), (a0.1, a1))) else none))))))))))))
def ahj (fu : Nat) (a0 : Str) : Option Bool :=
  some (!decide (a0 = a0))
open Go.IntKind renaming wrap → zaa
open Go.Op renaming bytesLess → zaB
def agn (fu : Nat) (a0 : Str) (a1 : Str) : Option Int :=
  ((ahj fu a0).bind fun (y1 : Bool) => ((ahj fu a1).bind fun (y6 : Bool) => (bif y1 then (bif y6 then some (0 : Int) else some (-1 : Int)) else (bif y6 then some (1 : Int) else (bif (zaB a0 a1) then some (-1 : Int) else (bif (!(zaB a0 a1 || a0 == a1)) then some (1 : Int) else some (0 : Int)))))))
def agk (fu : Nat) (a0 : PQ) (a1 : PQ) : Option Int :=
  ((agn fu a0.1 a1.1).bind fun (y7 : Int) => some y7)
def abu (fu : Nat) (a2 : Int) : Nat → (List PQ) → Int → Option (List PQ)
  | 0, _, _ => none
  | a3 + 1, a1, a0 => (((if a2 < a0 then (gd (0 ≤ a0 ∧ a0 < (a1.length : Int)) <| (gd (0 ≤ a0 ∧ a0 < (a1.length : Int)) <| (gd (acy (a0 - (1 : Int))) <| (gd (0 ≤ (a0 - (1 : Int)) ∧ (a0 - (1 : Int)) < (a1.length : Int)) <| (gd (0 ≤ (a0 - (1 : Int)) ∧ (a0 - (1 : Int)) < (a1.length : Int)) <| ((agk fu ((el a1 a0).1, (el a1 a0).2.1, ((el a1 a0).2.2)) ((el a1 (a0 - (1 : Int))).1, (el a1 (a0 - (1 : Int))).2.1, ((el a1 (a0 - (1 : Int))).2.2))).bind fun (a4 : Int) => some (decide (a4 < (0 : Int))))))))) else some false)).bind fun (a5 : Bool) => (bif a5 then (gd (acy (a0 - (1 : Int))) <| (gd (acy (a0 - (1 : Int))) <| (gd (0 ≤ (a0 - (1 : Int)) ∧ (a0 - (1 : Int)) < (a1.length : Int)) <| (gd (0 ≤ (a0 - (1 : Int)) ∧ (a0 - (1 : Int)) < (a1.length : Int)) <| (gd (0 ≤ a0 ∧ a0 < (a1.length : Int)) <| (gd (0 ≤ a0 ∧ a0 < (a1.length : Int)) <| (gd (0 ≤ a0 ∧ a0 < (a1.length : Int)) <| (gd (0 ≤ a0 ∧ a0 < (a1.length : Int)) <| (gd (0 ≤ (a0 - (1 : Int)) ∧ (a0 - (1 : Int)) < ((zae a1 (zac a0) ((el a1 (a0 - (1 : Int))).1, (el a1 (a0 - (1 : Int))).2.1, ((el a1 (a0 - (1 : Int))).2.2))).length : Int)) <| (gd (0 ≤ (a0 - (1 : Int)) ∧ (a0 - (1 : Int)) < ((zae a1 (zac a0) ((el a1 (a0 - (1 : Int))).1, (el a1 (a0 - (1 : Int))).2.1, ((el a1 (a0 - (1 : Int))).2.2))).length : Int)) <| (gd (acy (a0 - (1 : Int))) <| (abu fu a2 a3 (zae (zae a1 (zac a0) ((el a1 (a0 - (1 : Int))).1, (el a1 (a0 - (1 : Int))).2.1, ((el a1 (a0 - (1 : Int))).2.2))) (zac (a0 - (1 : Int))) ((el a1 a0).1, (el a1 a0).2.1, ((el a1 a0).2.2))) (a0 - (1 : Int)))))))))))))) else some a1))
def abv (fu : Nat) (a1 : Int) (a2 : Int) : Nat → (List PQ) → Int → Option (List PQ)
  | 0, _, _ => none
  | a4 + 1, a3, a0 => (if a0 < a2 then (((abu fu a1 fu a3 a0)).bind fun (a5 : List PQ) => (gd (acy (a0 + (1 : Int))) <| (abv fu a1 a2 a4 a5 (a0 + (1 : Int))))) else some a3)
def ace (fu : Nat) (a1 : List PQ) (a0 : Int) (a2 : Int) : Option (List PQ) :=
  (gd (acy (a0 + (1 : Int))) <| (abv fu a0 a2 fu a1 (a0 + (1 : Int))))
def acd (fu : Nat) (a3 : Int) (a2 : Int) (a4 : Int) : Nat → (List PQ) → Int → Option (List PQ)
  | 0, _, _ => none
  | a5 + 1, a1, a0 => (if a0 < a4 then (gd (acy (a3 + a0)) <| (gd (acy (a2 + a0)) <| (gd (acy (a2 + a0)) <| (gd (0 ≤ (a2 + a0) ∧ (a2 + a0) < (a1.length : Int)) <| (gd (0 ≤ (a2 + a0) ∧ (a2 + a0) < (a1.length : Int)) <| (gd (acy (a3 + a0)) <| (gd (0 ≤ (a3 + a0) ∧ (a3 + a0) < (a1.length : Int)) <| (gd (0 ≤ (a3 + a0) ∧ (a3 + a0) < (a1.length : Int)) <| (gd (0 ≤ (a3 + a0) ∧ (a3 + a0) < (a1.length : Int)) <| (gd (0 ≤ (a3 + a0) ∧ (a3 + a0) < (a1.length : Int)) <| (gd (0 ≤ (a2 + a0) ∧ (a2 + a0) < ((zae a1 (zac (a3 + a0)) ((el a1 (a2 + a0)).1, (el a1 (a2 + a0)).2.1, ((el a1 (a2 + a0)).2.2))).length : Int)) <| (gd (0 ≤ (a2 + a0) ∧ (a2 + a0) < ((zae a1 (zac (a3 + a0)) ((el a1 (a2 + a0)).1, (el a1 (a2 + a0)).2.1, ((el a1 (a2 + a0)).2.2))).length : Int)) <| (gd (acy (a0 + (1 : Int))) <| (acd fu a3 a2 a4 a5 (zae (zae a1 (zac (a3 + a0)) ((el a1 (a2 + a0)).1, (el a1 (a2 + a0)).2.1, ((el a1 (a2 + a0)).2.2))) (zac (a2 + a0)) ((el a1 (a3 + a0)).1, (el a1 (a3 + a0)).2.1, ((el a1 (a3 + a0)).2.2))) (a0 + (1 : Int)))))))))))))))) else some a1)
def abs (fu : Nat) (a0 : List PQ) (a1 : Int) (a2 : Int) (a3 : Int) : Option (List PQ) :=
  (acd fu a1 a2 a3 fu a0 (0 : Int))
def abp (fu : Nat) (a2 : Int) : Nat → (List PQ) → Int → Int → Option ((List PQ) × Int)
  | 0, _, _, _ => none
  | a4 + 1, a3, a0, a1 => (if a0 = a1 then some (a3, a0) else (if a1 < a0 then (gd (acy (a2 - a0)) <| ((abs fu a3 (a2 - a0) a2 a1).bind fun (a5 : List PQ) => (gd (acy (a0 - a1)) <| (abp fu a2 a4 a5 (a0 - a1) a1)))) else (gd (acy (a2 - a0)) <| (gd (acy (a2 + a1)) <| (gd (acy ((a2 + a1) - a0)) <| ((abs fu a3 (a2 - a0) ((a2 + a1) - a0) a0).bind fun (a6 : List PQ) => (gd (acy (a1 - a0)) <| (abp fu a2 a4 a6 a0 (a1 - a0)))))))))
def adx (fu : Nat) (a4 : List PQ) (a2 : Int) (a0 : Int) (a3 : Int) : Option (List PQ) :=
  (gd (acy (a0 - a2)) <| (gd (acy (a3 - a0)) <| (((abp fu a0 fu a4 (a0 - a2) (a3 - a0))).bind fun (a1 : ((List PQ) × Int)) => (gd (acy (a0 - a1.2)) <| ((abs fu a1.1 (a0 - a1.2) a0 a1.2).bind fun (a5 : List PQ) => some a5)))))
def abk (fu : Nat) (a2 : List PQ) (a3 : Int) : Nat → Int → Int → Option Int
  | 0, _, _ => none
  | a4 + 1, a0, a1 => (if a0 < a1 then (gd (acy (a0 + a1)) <| (gd (0 ≤ (zaa .i64 ((zaa .u64 (a0 + a1)) / 2)) ∧ (zaa .i64 ((zaa .u64 (a0 + a1)) / 2)) < (a2.length : Int)) <| (gd (0 ≤ (zaa .i64 ((zaa .u64 (a0 + a1)) / 2)) ∧ (zaa .i64 ((zaa .u64 (a0 + a1)) / 2)) < (a2.length : Int)) <| (gd (0 ≤ a3 ∧ a3 < (a2.length : Int)) <| (gd (0 ≤ a3 ∧ a3 < (a2.length : Int)) <| ((agk fu ((el a2 (zaa .i64 ((zaa .u64 (a0 + a1)) / 2))).1, (el a2 (zaa .i64 ((zaa .u64 (a0 + a1)) / 2))).2.1, ((el a2 (zaa .i64 ((zaa .u64 (a0 + a1)) / 2))).2.2)) ((el a2 a3).1, (el a2 a3).2.1, ((el a2 a3).2.2))).bind fun (a5 : Int) => (if a5 < (0 : Int) then (gd (acy ((zaa .i64 ((zaa .u64 (a0 + a1)) / 2)) + (1 : Int))) <| (abk fu a2 a3 a4 ((zaa .i64 ((zaa .u64 (a0 + a1)) / 2)) + (1 : Int)) a1)) else (abk fu a2 a3 a4 a0 (zaa .i64 ((zaa .u64 (a0 + a1)) / 2)))))))))) else some a0)
def aci (fu : Nat) (a2 : Int) : Nat → (List PQ) → Int → Option (List PQ)
  | 0, _, _ => none
  | a3 + 1, a1, a0 => (gd (acy (a2 - (1 : Int))) <| (if a0 < (a2 - (1 : Int)) then (gd (acy (a0 + (1 : Int))) <| (gd (acy (a0 + (1 : Int))) <| (gd (0 ≤ (a0 + (1 : Int)) ∧ (a0 + (1 : Int)) < (a1.length : Int)) <| (gd (0 ≤ (a0 + (1 : Int)) ∧ (a0 + (1 : Int)) < (a1.length : Int)) <| (gd (0 ≤ a0 ∧ a0 < (a1.length : Int)) <| (gd (0 ≤ a0 ∧ a0 < (a1.length : Int)) <| (gd (0 ≤ a0 ∧ a0 < (a1.length : Int)) <| (gd (0 ≤ a0 ∧ a0 < (a1.length : Int)) <| (gd (0 ≤ (a0 + (1 : Int)) ∧ (a0 + (1 : Int)) < ((zae a1 (zac a0) ((el a1 (a0 + (1 : Int))).1, (el a1 (a0 + (1 : Int))).2.1, ((el a1 (a0 + (1 : Int))).2.2))).length : Int)) <| (gd (0 ≤ (a0 + (1 : Int)) ∧ (a0 + (1 : Int)) < ((zae a1 (zac a0) ((el a1 (a0 + (1 : Int))).1, (el a1 (a0 + (1 : Int))).2.1, ((el a1 (a0 + (1 : Int))).2.2))).length : Int)) <| (gd (acy (a0 + (1 : Int))) <| (aci fu a2 a3 (zae (zae a1 (zac a0) ((el a1 (a0 + (1 : Int))).1, (el a1 (a0 + (1 : Int))).2.1, ((el a1 (a0 + (1 : Int))).2.2))) (zac (a0 + (1 : Int))) ((el a1 a0).1, (el a1 a0).2.1, ((el a1 a0).2.2))) (a0 + (1 : Int)))))))))))))) else some a1))
def abj (fu : Nat) (a2 : List PQ) (a3 : Int) : Nat → Int → Int → Option Int
  | 0, _, _ => none
  | a4 + 1, a0, a1 => (if a0 < a1 then (gd (acy (a0 + a1)) <| (gd (0 ≤ a3 ∧ a3 < (a2.length : Int)) <| (gd (0 ≤ a3 ∧ a3 < (a2.length : Int)) <| (gd (0 ≤ (zaa .i64 ((zaa .u64 (a0 + a1)) / 2)) ∧ (zaa .i64 ((zaa .u64 (a0 + a1)) / 2)) < (a2.length : Int)) <| (gd (0 ≤ (zaa .i64 ((zaa .u64 (a0 + a1)) / 2)) ∧ (zaa .i64 ((zaa .u64 (a0 + a1)) / 2)) < (a2.length : Int)) <| ((agk fu ((el a2 a3).1, (el a2 a3).2.1, ((el a2 a3).2.2)) ((el a2 (zaa .i64 ((zaa .u64 (a0 + a1)) / 2))).1, (el a2 (zaa .i64 ((zaa .u64 (a0 + a1)) / 2))).2.1, ((el a2 (zaa .i64 ((zaa .u64 (a0 + a1)) / 2))).2.2))).bind fun (a5 : Int) => (if a5 < (0 : Int) then (abj fu a2 a3 a4 a0 (zaa .i64 ((zaa .u64 (a0 + a1)) / 2))) else (gd (acy ((zaa .i64 ((zaa .u64 (a0 + a1)) / 2)) + (1 : Int))) <| (abj fu a2 a3 a4 ((zaa .i64 ((zaa .u64 (a0 + a1)) / 2)) + (1 : Int)) a1))))))))) else some a0)
def ach (fu : Nat) (a2 : Int) : Nat → (List PQ) → Int → Option (List PQ)
  | 0, _, _ => none
  | a3 + 1, a1, a0 => (if a2 < a0 then (gd (acy (a0 - (1 : Int))) <| (gd (acy (a0 - (1 : Int))) <| (gd (0 ≤ (a0 - (1 : Int)) ∧ (a0 - (1 : Int)) < (a1.length : Int)) <| (gd (0 ≤ (a0 - (1 : Int)) ∧ (a0 - (1 : Int)) < (a1.length : Int)) <| (gd (0 ≤ a0 ∧ a0 < (a1.length : Int)) <| (gd (0 ≤ a0 ∧ a0 < (a1.length : Int)) <| (gd (0 ≤ a0 ∧ a0 < (a1.length : Int)) <| (gd (0 ≤ a0 ∧ a0 < (a1.length : Int)) <| (gd (0 ≤ (a0 - (1 : Int)) ∧ (a0 - (1 : Int)) < ((zae a1 (zac a0) ((el a1 (a0 - (1 : Int))).1, (el a1 (a0 - (1 : Int))).2.1, ((el a1 (a0 - (1 : Int))).2.2))).length : Int)) <| (gd (0 ≤ (a0 - (1 : Int)) ∧ (a0 - (1 : Int)) < ((zae a1 (zac a0) ((el a1 (a0 - (1 : Int))).1, (el a1 (a0 - (1 : Int))).2.1, ((el a1 (a0 - (1 : Int))).2.2))).length : Int)) <| (gd (acy (a0 - (1 : Int))) <| (ach fu a2 a3 (zae (zae a1 (zac a0) ((el a1 (a0 - (1 : Int))).1, (el a1 (a0 - (1 : Int))).2.1, ((el a1 (a0 - (1 : Int))).2.2))) (zac (a0 - (1 : Int))) ((el a1 a0).1, (el a1 a0).2.1, ((el a1 a0).2.2))) (a0 - (1 : Int)))))))))))))) else some a1)
def abi (fu : Nat) (a2 : List PQ) (a3 : Int) (a4 : Int) (a5 : Int) : Nat → Int → Int → Option Int
  | 0, _, _ => none
  | a6 + 1, a0, a1 => (if a0 < a1 then (gd (acy (a0 + a1)) <| (gd (acy ((((zaa .i64 ((zaa .u64 (a3 + a5)) / 2)) + a4) - (1 : Int)) - (zaa .i64 ((zaa .u64 (a0 + a1)) / 2)))) <| (gd (0 ≤ ((((zaa .i64 ((zaa .u64 (a3 + a5)) / 2)) + a4) - (1 : Int)) - (zaa .i64 ((zaa .u64 (a0 + a1)) / 2))) ∧ ((((zaa .i64 ((zaa .u64 (a3 + a5)) / 2)) + a4) - (1 : Int)) - (zaa .i64 ((zaa .u64 (a0 + a1)) / 2))) < (a2.length : Int)) <| (gd (0 ≤ ((((zaa .i64 ((zaa .u64 (a3 + a5)) / 2)) + a4) - (1 : Int)) - (zaa .i64 ((zaa .u64 (a0 + a1)) / 2))) ∧ ((((zaa .i64 ((zaa .u64 (a3 + a5)) / 2)) + a4) - (1 : Int)) - (zaa .i64 ((zaa .u64 (a0 + a1)) / 2))) < (a2.length : Int)) <| (gd (0 ≤ (zaa .i64 ((zaa .u64 (a0 + a1)) / 2)) ∧ (zaa .i64 ((zaa .u64 (a0 + a1)) / 2)) < (a2.length : Int)) <| (gd (0 ≤ (zaa .i64 ((zaa .u64 (a0 + a1)) / 2)) ∧ (zaa .i64 ((zaa .u64 (a0 + a1)) / 2)) < (a2.length : Int)) <| ((agk fu ((el a2 ((((zaa .i64 ((zaa .u64 (a3 + a5)) / 2)) + a4) - (1 : Int)) - (zaa .i64 ((zaa .u64 (a0 + a1)) / 2)))).1, (el a2 ((((zaa .i64 ((zaa .u64 (a3 + a5)) / 2)) + a4) - (1 : Int)) - (zaa .i64 ((zaa .u64 (a0 + a1)) / 2)))).2.1, ((el a2 ((((zaa .i64 ((zaa .u64 (a3 + a5)) / 2)) + a4) - (1 : Int)) - (zaa .i64 ((zaa .u64 (a0 + a1)) / 2)))).2.2)) ((el a2 (zaa .i64 ((zaa .u64 (a0 + a1)) / 2))).1, (el a2 (zaa .i64 ((zaa .u64 (a0 + a1)) / 2))).2.1, ((el a2 (zaa .i64 ((zaa .u64 (a0 + a1)) / 2))).2.2))).bind fun (a7 : Int) => (if a7 < (0 : Int) then (abi fu a2 a3 a4 a5 a6 a0 (zaa .i64 ((zaa .u64 (a0 + a1)) / 2))) else (gd (acy ((zaa .i64 ((zaa .u64 (a0 + a1)) / 2)) + (1 : Int))) <| (abi fu a2 a3 a4 a5 a6 ((zaa .i64 ((zaa .u64 (a0 + a1)) / 2)) + (1 : Int)) a1)))))))))) else some a0)
def abd : Nat → (List PQ) → Int → Int → Int → Option (List PQ)
  | 0, _, _, _, _ => none
  | fu + 1, a4, a0, a2, a1 => (((gd (acy (a2 - a0)) <| (if (a2 - a0) = (1 : Int) then (((abk fu a4 a0 fu a2 a1)).bind fun (a8 : Int) => (((aci fu a8 fu a4 a0)).bind fun (a9 : List PQ) => some (.inr a9))) else some (.inl ())))).bind fun (b0 : (Unit ⊕ (List PQ))) => zaz (fun (c0 : Unit) => (((gd (acy (a1 - a2)) <| (if (a1 - a2) = (1 : Int) then (((abj fu a4 a2 fu a0 a2)).bind fun (b1 : Int) => (((ach fu b1 fu a4 a2)).bind fun (b2 : List PQ) => some (.inr b2))) else some (.inl ())))).bind fun (b3 : (Unit ⊕ (List PQ))) => zaz (fun (c1 : Unit) => (gd (acy (a0 + a1)) <| (gd (acy ((zaa .i64 ((zaa .u64 (a0 + a1)) / 2)) + a2)) <| (((if (zaa .i64 ((zaa .u64 (a0 + a1)) / 2)) < a2 then (gd (acy (((zaa .i64 ((zaa .u64 (a0 + a1)) / 2)) + a2) - a1)) <| some (((zaa .i64 ((zaa .u64 (a0 + a1)) / 2)) + a2) - a1, zaa .i64 ((zaa .u64 (a0 + a1)) / 2))) else some (a0, a2))).bind fun (a5 : (Int × Int)) => (gd (acy (((zaa .i64 ((zaa .u64 (a0 + a1)) / 2)) + a2) - (1 : Int))) <| (((abi fu a4 a0 a2 a1 fu a5.1 a5.2)).bind fun (a3 : Int) => (gd (acy (((zaa .i64 ((zaa .u64 (a0 + a1)) / 2)) + a2) - a3)) <| (((((if a3 < a2 then some (decide (a2 < (((zaa .i64 ((zaa .u64 (a0 + a1)) / 2)) + a2) - a3))) else some false)).bind fun (b4 : Bool) => (bif b4 then ((adx fu a4 a3 a2 (((zaa .i64 ((zaa .u64 (a0 + a1)) / 2)) + a2) - a3)).bind fun (b5 : List PQ) => some b5) else some a4))).bind fun (a6 : List PQ) => (((((if a0 < a3 then some (decide (a3 < (zaa .i64 ((zaa .u64 (a0 + a1)) / 2)))) else some false)).bind fun (b6 : Bool) => (bif b6 then ((abd fu a6 a0 a3 (zaa .i64 ((zaa .u64 (a0 + a1)) / 2))).bind fun (b7 : List PQ) => some b7) else some a6))).bind fun (a7 : List PQ) => (((if (zaa .i64 ((zaa .u64 (a0 + a1)) / 2)) < (((zaa .i64 ((zaa .u64 (a0 + a1)) / 2)) + a2) - a3) then some (decide ((((zaa .i64 ((zaa .u64 (a0 + a1)) / 2)) + a2) - a3) < a1)) else some false)).bind fun (b8 : Bool) => (bif b8 then ((abd fu a7 (zaa .i64 ((zaa .u64 (a0 + a1)) / 2)) (((zaa .i64 ((zaa .u64 (a0 + a1)) / 2)) + a2) - a3) a1).bind fun (b9 : List PQ) => some b9) else some a7))))))))))) (fun q => some q) b3)) (fun q => some q) b0)
def aco (fu : Nat) (a1 : Int) : Nat → (List PQ) → Int → Int → Option ((List PQ) × Int)
  | 0, _, _, _ => none
  | a4 + 1, a2, a3, a0 => (if a0 ≤ a1 then ((ace fu a2 a3 a0).bind fun (a5 : List PQ) => (gd (acy (a0 + (20 : Int))) <| (aco fu a1 a4 a5 a0 (a0 + (20 : Int))))) else some (a2, a3))
def acn (fu : Nat) (a3 : Int) (a0 : Int) : Nat → (List PQ) → Int → Int → Option ((List PQ) × Int)
  | 0, _, _, _ => none
  | a5 + 1, a4, a2, a1 => (if a1 ≤ a3 then (gd (acy (a2 + a0)) <| ((abd fu a4 a2 (a2 + a0) a1).bind fun (a6 : List PQ) => (gd (acy ((2 : Int) * a0)) <| (gd (acy (a1 + ((2 : Int) * a0))) <| (acn fu a3 a0 a5 a6 a1 (a1 + ((2 : Int) * a0))))))) else some (a4, a2))
def abo (fu : Nat) (a1 : Int) : Nat → (List PQ) → Int → Option (List PQ)
  | 0, _, _ => none
  | a3 + 1, a4, a0 => (if a0 < a1 then (gd (acy ((2 : Int) * a0)) <| (((acn fu a1 a0 fu a4 (0 : Int) ((2 : Int) * a0))).bind fun (a2 : ((List PQ) × Int)) => (gd (acy (a2.2 + a0)) <| (if (a2.2 + a0) < a1 then ((abd fu a2.1 a2.2 (a2.2 + a0) a1).bind fun (a5 : List PQ) => (gd (acy (a0 * (2 : Int))) <| (abo fu a1 a3 a5 (a0 * (2 : Int))))) else (gd (acy (a0 * (2 : Int))) <| (abo fu a1 a3 a2.1 (a0 * (2 : Int)))))))) else some a4)
def adw (fu : Nat) (a2 : List PQ) (a0 : Int) : Option (List PQ) :=
  (((aco fu a0 fu a2 (0 : Int) (20 : Int))).bind fun (a1 : ((List PQ) × Int)) => ((ace fu a1.1 a1.2 a0).bind fun (a3 : List PQ) => (abo fu a0 fu a3 (20 : Int))))
def ads (fu : Nat) (a0 : List PQ) : Option (List PQ) :=
  ((adw fu a0 (a0.length : Int)).bind fun (y1 : List PQ) => some y1)
def ahc (fu : Nat) (a0 : List PQ) : Option (List PQ) :=
  (gd ((0 + a0.length) * 40 ≤ 140737488355328) <| ((ads fu a0).bind fun (y8 : List PQ) => some y8))
def ain (fu : Nat) : Nat → Int → UInt8 → Str → Int → (List PQ) → Option (Int × UInt8 × Str × Int × (List PQ))
  | 0, _, _, _, _, _ => none
  | a5 + 1, a6, a3, a2, a0, a4 => (((if a3 = (0 : UInt8) then ((abl fu (a2, a0) (59 : UInt8)).bind fun (a7 : Bool) => some a7) else none)).bind fun (a8 : Bool) => (bif a8 then (gd (acy (a0 + (1 : Int))) <| ((ael fu a2 (a0 + (1 : Int)) ([59, 63] : Str)).bind fun (a9 : Int) => ((ajb fu (a2, a0 + (1 : Int)) a4 a9 (1 : Int)).bind fun (a1 : ((List PQ) × Int × UInt8 × (Str × Int))) => (ain fu a5 a1.2.1 a1.2.2.1 a1.2.2.2.1 a1.2.2.2.2 a1.1)))) else some (a6, a3, a2, a0, a4)))
def akn (fu : Nat) (a0 : (Int × UInt8 × Str × Int × (List PQ))) : Nat → Option Unit
  | 0 => none
  | a3 + 1 => (((if a0.2.1 = (0 : UInt8) then ((aep fu (a0.2.2.1, a0.2.2.2.1)).bind fun (a1 : Bool) => some (!a1)) else none)).bind fun (a2 : Bool) => (bif a2 then none else some ()))
def ams (fu : Nat) (s_0 : Str) : Option ((Str × Str × Str × Int × (List PQ) × (List PQ)) × Int × UInt8) :=
  (if (1024 : Int) < (s_0.length : Int) then none else (if (ixb (· == (58 : UInt8)) s_0) < (0 : Int) then none else (gd (acy ((ixb (· == (58 : UInt8)) s_0) + (1 : Int))) <| (gd (0 ≤ (ixb (· == (58 : UInt8)) s_0) ∧ (ixb (· == (58 : UInt8)) s_0) ≤ (s_0.length : Int)) <| ((adp fu (List.take (zac (ixb (· == (58 : UInt8)) s_0)) s_0)).bind fun (a1 : Str) => (if a1 = ([115, 105, 112] : Str) then (if a1 = ([115, 105, 112] : Str) then ((aja fu (s_0, (ixb (· == (58 : UInt8)) s_0) + (1 : Int)) (a1, ([] : Str), ([] : Str), (0 : Int), ([] : List PQ), ([] : List PQ))).bind fun (a0 : (Int × UInt8 × (Str × Int) × (Str × Str × Str × Int × (List PQ) × (List PQ)))) => (((ain fu fu a0.1 a0.2.1 a0.2.2.1.1 a0.2.2.1.2 a0.2.2.2.2.2.2.2.1)).bind fun (a2 : (Int × UInt8 × Str × Int × (List PQ))) => (((akn fu a2 fu)).bind fun (a5 : Unit) => (if a2.2.1 = (0 : UInt8) then ((ahc fu a2.2.2.2.2).bind fun (a3 : List PQ) => ((ahc fu a0.2.2.2.2.2.2.2.2).bind fun (a4 : List PQ) => some ((a0.2.2.2.1, a0.2.2.2.2.1, a0.2.2.2.2.2.1, a0.2.2.2.2.2.2.1, a3, a4), (0 : Int), (0 : UInt8)))) else none)))) else none) else none))))))
def aik (fu : Nat) (a0 : (Str × Int)) (a2 : (Str × (Str × Str × Str × Int × (List PQ) × (List PQ)) × (List PQ))) : Option (Int × UInt8 × (Str × Int) × (Str × (Str × Str × Str × Int × (List PQ) × (List PQ)) × (List PQ))) :=
  ((abl fu a0 (60 : UInt8)).bind fun (a4 : Bool) => (bif a4 then (gd (acy (a0.2 + (1 : Int))) <| ((ael fu a0.1 (a0.2 + (1 : Int)) ([62] : Str)).bind fun (a1 : Int) => (if a1 = (a0.1.length : Int) then none else (gd (acy (a1 + (1 : Int))) <| (gd (0 ≤ (a0.2 + (1 : Int)) ∧ (a0.2 + (1 : Int)) ≤ a1 ∧ a1 ≤ (a0.1.length : Int)) <| ((ams fu (sub a0.1 (a0.2 + (1 : Int)) a1)).bind fun (a3 : ((Str × Str × Str × Int × (List PQ) × (List PQ)) × Int × UInt8)) => (if a3.2.2 = (0 : UInt8) then some ((0 : Int), (0 : UInt8), (a0.1, a1 + (1 : Int)), (a2.1, a3.1, a2.2.2)) else none))))))) else none))
def agm (fu : Nat) (a0 : UInt8) : Option Bool :=
  (((if (32 : UInt8) ≤ a0 then some (decide (a0 ≤ (126 : UInt8))) else some false)).bind fun (v5 : Bool) => some v5)
def afx (fu : Nat) (a0 : UInt8) : Option Bool :=
  (((if a0 < (32 : UInt8) then (if a0 = (9 : UInt8) then some (decide (a0 = (127 : UInt8))) else some true) else some (decide (a0 = (127 : UInt8))))).bind fun (v6 : Bool) => some v6)
def aec (fu : Nat) (s_0 : Str) : Nat → (List UInt8) → Int → Option (((List UInt8) × Int) ⊕ (Str × Int × UInt8))
  | 0, _, _ => none
  | a2 + 1, a1, a0 => (if a0 < (s_0.length : Int) then (gd (0 ≤ a0 ∧ a0 < (s_0.length : Int)) <| (if (at_ s_0 a0) = (34 : UInt8) then some (.inl (a1, a0)) else (if (at_ s_0 a0) = (92 : UInt8) then (gd (acy (a0 + (1 : Int))) <| (if (a0 + (1 : Int)) = (s_0.length : Int) then some (.inr (([] : Str), (s_0.length : Int), (6 : UInt8))) else (gd (acy (a0 + (1 : Int))) <| (gd (0 ≤ (a0 + (1 : Int)) ∧ (a0 + (1 : Int)) < (s_0.length : Int)) <| ((agm fu (at_ s_0 (a0 + (1 : Int)))).bind fun (a3 : Bool) => (bif (!a3) then some (.inr (([] : Str), a0, (5 : UInt8))) else (gd (acy (a0 + (1 : Int))) <| (gd (0 ≤ (a0 + (1 : Int)) ∧ (a0 + (1 : Int)) < (s_0.length : Int)) <| (gd ((a1.length + ([at_ s_0 (a0 + (1 : Int))] : List UInt8).length) * 1 ≤ 140737488355328) <| (gd (acy ((a0 + (1 : Int)) + (1 : Int))) <| (aec fu s_0 a2 (a1 ++ ([at_ s_0 (a0 + (1 : Int))] : List UInt8)) ((a0 + (1 : Int)) + (1 : Int))))))))))))) else ((afx fu (at_ s_0 a0)).bind fun (a4 : Bool) => (bif a4 then some (.inr (([] : Str), a0, (5 : UInt8))) else (gd (0 ≤ a0 ∧ a0 < (s_0.length : Int)) <| (gd ((a1.length + ([at_ s_0 a0] : List UInt8).length) * 1 ≤ 140737488355328) <| (gd (acy (a0 + (1 : Int))) <| (aec fu s_0 a2 (a1 ++ ([at_ s_0 a0] : List UInt8)) (a0 + (1 : Int))))))))))) else some (.inl (a1, a0)))
def ajm (fu : Nat) (s_0 : Str) (a0 : Int) : Option (Str × Int × UInt8) :=
  (((if a0 < (0 : Int) then some true else some (decide ((s_0.length : Int) < a0)))).bind fun (v5 : Bool) => (bif v5 then some (([] : Str), (0 : Int), (2 : UInt8)) else (((if a0 = (s_0.length : Int) then some true else (gd (0 ≤ a0 ∧ a0 < (s_0.length : Int)) <| some (!decide ((at_ s_0 a0) = (34 : UInt8)))))).bind fun (a2 : Bool) => (bif a2 then some (([] : Str), a0, (5 : UInt8)) else (gd (acy (a0 + (1 : Int))) <| (((aec fu s_0 fu ([] : List UInt8) (a0 + (1 : Int)))).bind fun (a3 : (((List UInt8) × Int) ⊕ (Str × Int × UInt8))) => zaz (fun (a1 : ((List UInt8) × Int)) => (if (s_0.length : Int) ≤ a1.2 then some (([] : Str), (s_0.length : Int), (6 : UInt8)) else (gd (acy (a1.2 + (1 : Int))) <| some (a1.1, a1.2 + (1 : Int), (0 : UInt8))))) (fun q => some q) a3))))))
def afw (fu : Nat) (a7 : (Str × Int)) : Option (PQ × Int × UInt8 × (Str × Int)) :=
  ((aeo fu a7).bind fun (y4 : (Str × (Str × Int))) => ((adp fu y4.1).bind fun (a2 : Str) => (if a2 = ([] : Str) then some ((([] : Str), ([] : Str), false), y4.2.2, (5 : UInt8), y4.2) else ((acr fu y4.2).bind fun (a3 : (Str × Int)) => ((abl fu a3 (61 : UInt8)).bind fun (a8 : Bool) => (bif (!a8) then some ((a2, ([] : Str), false), (0 : Int), (0 : UInt8), a3) else (gd (acy (a3.2 + (1 : Int))) <| ((acr fu (a3.1, a3.2 + (1 : Int))).bind fun (a0 : (Str × Int)) => ((abl fu a0 (34 : UInt8)).bind fun (a9 : Bool) => (bif a9 then ((ajm fu a0.1 a0.2).bind fun (a4 : (Str × Int × UInt8)) => (if a4.2.2 = (0 : UInt8) then some ((a2, a4.1, true), (0 : Int), (0 : UInt8), (a0.1, a4.2.1)) else some ((([] : Str), ([] : Str), false), a4.2.1, a4.2.2, a0))) else ((abl fu a0 (91 : UInt8)).bind fun (b0 : Bool) => (bif b0 then ((ael fu a0.1 a0.2 ([93] : Str)).bind fun (a1 : Int) => (gd (acy (a1 + (1 : Int))) <| (gd (0 ≤ a0.2 ∧ a0.2 ≤ (min (a1 + (1 : Int)) (a0.1.length : Int)) ∧ (min (a1 + (1 : Int)) (a0.1.length : Int)) ≤ (a0.1.length : Int)) <| ((afe fu (sub a0.1 a0.2 (min (a1 + (1 : Int)) (a0.1.length : Int)))).bind fun (a6 : (Str × Bool)) => (bif (!a6.2) then some ((([] : Str), ([] : Str), false), a0.2, (5 : UInt8), a0) else (gd (acy (a1 + (1 : Int))) <| some ((a2, a6.1, true), (0 : Int), (0 : UInt8), (a0.1, a1 + (1 : Int))))))))) else ((aeo fu a0).bind fun (a5 : (Str × (Str × Int))) => (if a5.1 = ([] : Str) then some ((([] : Str), ([] : Str), false), a5.2.2, (5 : UInt8), a5.2) else some ((a2, a5.1, true), (0 : Int), (0 : UInt8), a5.2)))))))))))))))
def aez (fu : Nat) : Nat → (List PQ) → Str → Int → Option ((List PQ) × Int × UInt8)
  | 0, _, _, _ => none
  | a5 + 1, a2, a6, a7 => ((acr fu (a6, a7)).bind fun (a1 : (Str × Int)) => ((aep fu a1).bind fun (a8 : Bool) => (bif a8 then some (a2, (0 : Int), (0 : UInt8)) else ((abl fu a1 (59 : UInt8)).bind fun (a9 : Bool) => (bif (!a9) then some (([] : List PQ), a1.2, (5 : UInt8)) else (gd (acy (a1.2 + (1 : Int))) <| ((acr fu (a1.1, a1.2 + (1 : Int))).bind fun (a4 : (Str × Int)) => ((afw fu a4).bind fun (a0 : (PQ × Int × UInt8 × (Str × Int))) => (((if a0.2.2.1 = (0 : UInt8) then ((aiy fu a2 a0.1.1).bind fun (b0 : UInt8) => some (a4.2, b0)) else some (a0.2.1, a0.2.2.1))).bind fun (a3 : (Int × UInt8)) => (if a3.2 = (0 : UInt8) then (gd ((a2.length + ([a0.1] : List PQ).length) * 40 ≤ 140737488355328) <| (aez fu a5 (a2 ++ ([a0.1] : List PQ)) a0.2.2.2.1 a0.2.2.2.2)) else some (([] : List PQ), a3.1, a3.2)))))))))))
def agl (fu : Nat) (s_0 : Str) : Option ((List PQ) × Int × UInt8) :=
  (aez fu fu ([] : List PQ) s_0 (0 : Int))
def ajd (fu : Nat) (s_0 : Str) : Option ((Str × (Str × Str × Str × Int × (List PQ) × (List PQ)) × (List PQ)) × Int × UInt8) :=
  (if (1024 : Int) < (s_0.length : Int) then none else ((acr fu (s_0, (0 : Int))).bind fun (y8 : (Str × Int)) => ((abl fu y8 (34 : UInt8)).bind fun (a3 : Bool) => (bif a3 then none else (gd (s_0.length ≤ 1000000000) <| (bif (Lib.contains s_0 ([60] : Str)) then ((ahb fu y8 (([] : Str), (([] : Str), ([] : Str), ([] : Str), (0 : Int), ([] : List PQ), ([] : List PQ)), ([] : List PQ))).bind fun (a1 : (Int × UInt8 × (Str × Int) × (Str × (Str × Str × Str × Int × (List PQ) × (List PQ)) × (List PQ)))) => (if a1.2.1 = (0 : UInt8) then ((aik fu a1.2.2.1 a1.2.2.2).bind fun (a0 : (Int × UInt8 × (Str × Int) × (Str × (Str × Str × Str × Int × (List PQ) × (List PQ)) × (List PQ)))) => (if a0.2.1 = (0 : UInt8) then (gd (0 ≤ a0.2.2.1.2 ∧ a0.2.2.1.2 ≤ (s_0.length : Int)) <| ((agl fu (zam (zac a0.2.2.1.2) s_0)).bind fun (a2 : ((List PQ) × Int × UInt8)) => (gd (acy (a2.2.1 + a0.2.2.1.2)) <| (if a2.2.2 = (0 : UInt8) then some ((a0.2.2.2.1, a0.2.2.2.2.1, a2.1), (0 : Int), (0 : UInt8)) else none)))) else none)) else none)) else none))))))
def ama (fu : Nat) (a0 : Str) : Option ((Str × (Str × Str × Str × Int × (List PQ) × (List PQ)) × (List PQ)) × UInt8) :=
  ((ahi fu a0).bind fun (y4 : Str) => ((ajd fu y4).bind fun (y9 : ((Str × (Str × Str × Str × Int × (List PQ) × (List PQ)) × (List PQ)) × Int × UInt8)) => some (y9.1, y9.2.2)))
def aex (fu : Nat) (s_0 : Str) : Nat → (List UInt8) → Int → Option ((List UInt8) ⊕ (Str × UInt8))
  | 0, _, _ => none
  | a3 + 1, a1, a0 => (if a0 < (s_0.length : Int) then (gd (0 ≤ a0 ∧ a0 < (s_0.length : Int)) <| ((afx fu (at_ s_0 a0)).bind fun (a4 : Bool) => (bif a4 then some (.inr (([] : Str), (5 : UInt8))) else (((((if (at_ s_0 a0) = (34 : UInt8) then some true else some (decide ((at_ s_0 a0) = (92 : UInt8))))).bind fun (a5 : Bool) => (bif a5 then (gd ((a1.length + ([(92 : UInt8)] : List UInt8).length) * 1 ≤ 140737488355328) <| some (a1 ++ ([(92 : UInt8)] : List UInt8))) else some a1))).bind fun (a2 : List UInt8) => (gd (0 ≤ a0 ∧ a0 < (s_0.length : Int)) <| (gd ((a2.length + ([at_ s_0 a0] : List UInt8).length) * 1 ≤ 140737488355328) <| (gd (acy (a0 + (1 : Int))) <| (aex fu s_0 a3 (a2 ++ ([at_ s_0 a0] : List UInt8)) (a0 + (1 : Int)))))))))) else some (.inl a1))
def ajr (fu : Nat) (s_0 : Str) : Option (Str × UInt8) :=
  (gd (acy ((s_0.length : Int) + (2 : Int))) <| (gd (0 ≤ ((s_0.length : Int) + (2 : Int)) ∧ (1 : Int) * ((s_0.length : Int) + (2 : Int)) ≤ 281474976710656) <| (gd ((([] : List UInt8).length + ([(34 : UInt8)] : List UInt8).length) * 1 ≤ 140737488355328) <| (((aex fu s_0 fu (([] : List UInt8) ++ ([(34 : UInt8)] : List UInt8)) (0 : Int))).bind fun (a1 : ((List UInt8) ⊕ (Str × UInt8))) => zaz (fun (a0 : List UInt8) => (gd ((a0.length + ([(34 : UInt8)] : List UInt8).length) * 1 ≤ 140737488355328) <| some (a0 ++ ([(34 : UInt8)] : List UInt8), (0 : UInt8)))) (fun q => some q) a1))))
def alo (fu : Nat) (a0 : UInt8) : Option Bool :=
  (((if a0 < (32 : UInt8) then none else some ())).bind fun (v4 : Unit) => some (decide (a0 = (127 : UInt8))))
def ail (fu : Nat) (s_0 : Str) : Nat → Int → Option Unit
  | 0, _ => none
  | a1 + 1, a0 => (if a0 < (s_0.length : Int) then (gd (0 ≤ a0 ∧ a0 < (s_0.length : Int)) <| ((alo fu (at_ s_0 a0)).bind fun (a2 : Bool) => (bif a2 then none else (gd (acy (a0 + (1 : Int))) <| (ail fu s_0 a1 (a0 + (1 : Int))))))) else some ())
def ajo (fu : Nat) (s_0 : Str) : Option Bool :=
  (((ail fu s_0 fu (0 : Int))).bind fun (a0 : Unit) => some true)
def ahu (fu : Nat) (a1 : List PQ) (a4 : Int) : Nat → (List PQ) → Int → Option (List PQ)
  | 0, _, _ => none
  | a5 + 1, a3, a0 => (if a0 < (a1.length : Int) then (gd (0 ≤ a0 ∧ a0 < (a1.length : Int)) <| (gd (0 ≤ a0 ∧ a0 < (a1.length : Int)) <| ((adp fu ((el a1 a0).1)).bind fun (a2 : Str) => (((if a2 = ([] : Str) then none else ((ajo fu a2).bind fun (a6 : Bool) => (bif (!a6) then none else ((ajo fu ((el a1 a0).2.1)).bind fun (a7 : Bool) => (bif (!a7) then none else ((agw fu a3 a2).bind fun (a8 : Bool) => some a8))))))).bind fun (a9 : Bool) => (bif a9 then none else (((if a4 = (2 : Int) then none else (if a4 = (1 : Int) then some () else none))).bind fun (b0 : Unit) => (bif (!(((el a1 a0).2.2) == (!decide (((el a1 a0).2.1) = ([] : Str))))) then none else (gd ((a3.length + ([(a2, (el a1 a0).2.1, ((el a1 a0).2.2))] : List PQ).length) * 40 ≤ 140737488355328) <| (gd (acy (a0 + (1 : Int))) <| (ahu fu a1 a4 a5 (a3 ++ ([(a2, (el a1 a0).2.1, ((el a1 a0).2.2))] : List PQ)) (a0 + (1 : Int)))))))))))) else some a3)
def akh (fu : Nat) (a0 : List PQ) (a1 : Int) : Option ((List PQ) × Bool) :=
  (if (16 : Int) < (a0.length : Int) then none else (((ahu fu a0 a1 fu ([] : List PQ) (0 : Int))).bind fun (a2 : List PQ) => ((ahc fu a2).bind fun (a3 : List PQ) => some (a3, true))))
def amb (fu : Nat) (a0 : (Str × Str × Str × Int × (List PQ) × (List PQ))) : Option ((Str × Str × Str × Int × (List PQ) × (List PQ)) × UInt8) :=
  ((adp fu a0.1).bind fun (y7 : Str) => (if y7 = ([115, 105, 112] : Str) then (if y7 = ([115, 105, 112] : Str) then ((afe fu a0.2.2.1).bind fun (a1 : (Str × Bool)) => (bif a1.2 then (if (0 : Int) ≤ a0.2.2.2.1 then (if a0.2.2.2.1 ≤ (65535 : Int) then ((ajo fu a0.2.1).bind fun (a4 : Bool) => ((akh fu a0.2.2.2.2.1 (1 : Int)).bind fun (a2 : ((List PQ) × Bool)) => ((akh fu a0.2.2.2.2.2 (2 : Int)).bind fun (a3 : ((List PQ) × Bool)) => (((bif (!a4) then none else (bif (!a2.2) then none else some ()))).bind fun (a5 : Unit) => (bif (!a3.2) then none else some ((y7, a0.2.1, a1.1, a0.2.2.2.1, a2.1, a3.1), (0 : UInt8))))))) else none) else none) else none)) else none) else none))
def abw (fu : Nat) (a1 : (Unit × (List UInt8))) (a0 : Str) : Option (Int × Unit × (Unit × (List UInt8))) :=
  (gd ((a1.2.length + a0.length) * 1 ≤ 140737488355328) <| some ((a0.length : Int), (), ((), a1.2 ++ a0)))
open Go.Lib renaming join → zaw
def ahv (fu : Nat) (s_0 : Str) (a2 : Int) : Nat → (List UInt8) → Int → Option (List UInt8)
  | 0, _, _ => none
  | a3 + 1, a1, a0 => (if a0 < (s_0.length : Int) then (gd (0 ≤ a0 ∧ a0 < (s_0.length : Int)) <| ((ajv fu (at_ s_0 a0) a2).bind fun (a4 : Bool) => (bif a4 then (gd (0 ≤ a0 ∧ a0 < (s_0.length : Int)) <| (gd ((a1.length + ([at_ s_0 a0] : List UInt8).length) * 1 ≤ 140737488355328) <| (gd (acy (a0 + (1 : Int))) <| (ahv fu s_0 a2 a3 (a1 ++ ([at_ s_0 a0] : List UInt8)) (a0 + (1 : Int)))))) else none))) else some a1)
def aki (fu : Nat) (s_0 : Str) (a0 : Int) : Option Str :=
  (gd (0 ≤ (s_0.length : Int) ∧ (1 : Int) * (s_0.length : Int) ≤ 281474976710656) <| (((ahv fu s_0 a0 fu ([] : List UInt8) (0 : Int))).bind fun (a1 : List UInt8) => some a1))
def aim (fu : Nat) (y4 : ((Str × Str × Str × Int × (List PQ) × (List PQ)) × UInt8)) : Nat → Int → (List UInt8) → Option (List UInt8)
  | 0, _, _ => none
  | a3 + 1, a0, a1 => (if a0 < (y4.1.2.2.2.2.1.length : Int) then (gd (0 ≤ a0 ∧ a0 < (y4.1.2.2.2.2.1.length : Int)) <| (gd (0 ≤ a0 ∧ a0 < (y4.1.2.2.2.2.1.length : Int)) <| ((aki fu ((el y4.1.2.2.2.2.1 a0).1) (1 : Int)).bind fun (a2 : Str) => (gd (([59] : Str).length + a2.length ≤ 9223372036854775807) <| ((abw fu ((), a1) (([59] : Str) ++ a2)).bind fun (a4 : (Int × Unit × (Unit × (List UInt8)))) => (bif ((el y4.1.2.2.2.2.1 a0).2.2) then none else (gd (acy (a0 + (1 : Int))) <| (aim fu y4 a3 (a0 + (1 : Int)) a4.2.2.2)))))))) else some a1)
def akm (fu : Nat) (y4 : ((Str × Str × Str × Int × (List PQ) × (List PQ)) × UInt8)) : Nat → Option Unit
  | 0 => none
  | a0 + 1 => (if (0 : Int) < (y4.1.2.2.2.2.2.length : Int) then none else some ())
def amr (fu : Nat) (a3 : (Str × Str × Str × Int × (List PQ) × (List PQ))) : Option (Str × UInt8) :=
  ((amb fu a3).bind fun (y4 : ((Str × Str × Str × Int × (List PQ) × (List PQ)) × UInt8)) => (if y4.2 = (0 : UInt8) then (gd (y4.1.1.length + ([58] : Str).length ≤ 9223372036854775807) <| ((abw fu ((), ([] : List UInt8)) (y4.1.1 ++ ([58] : Str))).bind fun (a0 : (Int × Unit × (Unit × (List UInt8)))) => (((if y4.1.1 = ([116, 101, 108] : Str) then none else (if y4.1.2.1 = ([] : Str) then some a0.2.2.2 else ((aki fu y4.1.2.1 (0 : Int)).bind fun (a1 : Str) => (gd (a1.length + ([64] : Str).length ≤ 9223372036854775807) <| ((abw fu ((), a0.2.2.2) (a1 ++ ([64] : Str))).bind fun (a4 : (Int × Unit × (Unit × (List UInt8)))) => some a4.2.2.2)))))).bind fun (a5 : List UInt8) => ((abw fu ((), a5) y4.1.2.2.1).bind fun (a6 : (Int × Unit × (Unit × (List UInt8)))) => (if y4.1.2.2.2.1 = (0 : Int) then (((aim fu y4 fu (0 : Int) a6.2.2.2)).bind fun (a2 : List UInt8) => (((akm fu y4 fu)).bind fun (a7 : Unit) => (gd (a2.length ≤ 140737488355328) <| some (a2, (0 : UInt8))))) else none))))) else none))
def acf (fu : Nat) (a1 : List PQ) : Nat → Int → (List UInt8) → Option ((List UInt8) ⊕ (Str × UInt8))
  | 0, _, _ => none
  | a2 + 1, a0, a3 => (if a0 < (a1.length : Int) then (gd (0 ≤ a0 ∧ a0 < (a1.length : Int)) <| (gd (0 ≤ a0 ∧ a0 < (a1.length : Int)) <| ((((agq fu ((el a1 a0).1)).bind fun (a8 : Bool) => (bif (!a8) then some true else ((adp fu ((el a1 a0).1)).bind fun (a9 : Str) => (if ((el a1 a0).1) = a9 then (gd (0 ≤ a0 ∧ a0 ≤ (a1.length : Int)) <| ((agw fu (List.take (zac a0) a1) ((el a1 a0).1)).bind fun (b0 : Bool) => some b0)) else some true))))).bind fun (b1 : Bool) => (bif b1 then some (.inr (([] : Str), (2 : UInt8))) else (gd (([59] : Str).length + ((el a1 a0).1).length ≤ 9223372036854775807) <| ((abw fu ((), a3) (([59] : Str) ++ ((el a1 a0).1))).bind fun (a4 : (Int × Unit × (Unit × (List UInt8)))) => (bif (!((el a1 a0).2.2)) then (if ((el a1 a0).2.1) = ([] : Str) then (gd (acy (a0 + (1 : Int))) <| (acf fu a1 a2 (a0 + (1 : Int)) a4.2.2.2)) else some (.inr (([] : Str), (2 : UInt8)))) else ((((afe fu ((el a1 a0).2.1)).bind fun (a5 : (Str × Bool)) => ((((agq fu ((el a1 a0).2.1)).bind fun (b2 : Bool) => (bif (!b2) then (bif a5.2 then (if a5.1 = ((el a1 a0).2.1) then (gd (0 ≤ (0 : Int) ∧ (0 : Int) < (((el a1 a0).2.1).length : Int)) <| some (!decide ((at_ ((el a1 a0).2.1) (0 : Int)) = (91 : UInt8)))) else some true) else some true) else some false))).bind fun (b3 : Bool) => (bif b3 then ((ajr fu ((el a1 a0).2.1)).bind fun (a6 : (Str × UInt8)) => (if a6.2 = (0 : UInt8) then some (.inl a6.1) else some (.inr (([] : Str), (2 : UInt8))))) else some (.inl ((el a1 a0).2.1)))))).bind fun (b4 : (Str ⊕ (Str × UInt8))) => zaz (fun (a7 : Str) => (gd (([61] : Str).length + a7.length ≤ 9223372036854775807) <| ((abw fu ((), a4.2.2.2) (([61] : Str) ++ a7)).bind fun (b5 : (Int × Unit × (Unit × (List UInt8)))) => (gd (acy (a0 + (1 : Int))) <| (acf fu a1 a2 (a0 + (1 : Int)) b5.2.2.2))))) (fun q => some (.inr q)) b4)))))))) else some (.inl a3))
def acl (fu : Nat) (a0 : List PQ) : Option (Str × UInt8) :=
  (if (16 : Int) < (a0.length : Int) then some (([] : Str), (2 : UInt8)) else (((acf fu a0 fu (0 : Int) ([] : List UInt8))).bind fun (a2 : ((List UInt8) ⊕ (Str × UInt8))) => zaz (fun (a1 : List UInt8) => (gd (a1.length ≤ 140737488355328) <| some (a1, (0 : UInt8)))) (fun q => some q) a2))
def ajc (fu : Nat) (a2 : (Str × (Str × Str × Str × Int × (List PQ) × (List PQ)) × (List PQ))) : Option (Str × UInt8) :=
  ((ajr fu a2.1).bind fun (y4 : (Str × UInt8)) => (if y4.2 = (0 : UInt8) then ((amr fu a2.2.1).bind fun (a0 : (Str × UInt8)) => (if a0.2 = (0 : UInt8) then ((ahc fu a2.2.2).bind fun (a3 : List PQ) => ((acl fu a3).bind fun (a1 : (Str × UInt8)) => (if a1.2 = (0 : UInt8) then (if a2.1 = ([] : Str) then (gd (([60] : Str).length + a0.1.length ≤ 9223372036854775807) <| (gd ((([60] : Str) ++ a0.1).length + ([62] : Str).length ≤ 9223372036854775807) <| (gd (((([60] : Str) ++ a0.1) ++ ([62] : Str)).length + a1.1.length ≤ 9223372036854775807) <| some (((([60] : Str) ++ a0.1) ++ ([62] : Str)) ++ a1.1, (0 : UInt8))))) else (gd (y4.1.length + ([32, 60] : Str).length ≤ 9223372036854775807) <| (gd ((y4.1 ++ ([32, 60] : Str)).length + a0.1.length ≤ 9223372036854775807) <| (gd (((y4.1 ++ ([32, 60] : Str)) ++ a0.1).length + ([62] : Str).length ≤ 9223372036854775807) <| (gd ((((y4.1 ++ ([32, 60] : Str)) ++ a0.1) ++ ([62] : Str)).length + a1.1.length ≤ 9223372036854775807) <| some ((((y4.1 ++ ([32, 60] : Str)) ++ a0.1) ++ ([62] : Str)) ++ a1.1, (0 : UInt8))))))) else none))) else none)) else none))
def aoj (fu : Nat) (a0 : Str) (a1 : Str) : Option (Str × UInt8) :=
  ((amq fu a0).bind fun (a4 : Int) => (if a4 = (1 : Int) then (((if a0 = ([67, 111, 110, 116, 97, 99, 116] : Str) then ((ahi fu a1).bind fun (a5 : Str) => some (decide (a5 = ([42] : Str)))) else none)).bind fun (a6 : Bool) => (bif a6 then none else ((ama fu a1).bind fun (a2 : ((Str × (Str × Str × Str × Int × (List PQ) × (List PQ)) × (List PQ)) × UInt8)) => (if a2.2 = (0 : UInt8) then ((ajc fu a2.1).bind fun (a3 : (Str × UInt8)) => some (a3.1, a3.2)) else none)))) else none))
def ajt (fu : Nat) (y1 : (Str × UInt8)) (a2 : ((List Str) × UInt8)) : Nat → (List Str) → Int → Option (List Str)
  | 0, _, _ => none
  | a4 + 1, a1, a0 => (if a0 < (a2.1.length : Int) then (gd (0 ≤ a0 ∧ a0 < (a1.length : Int)) <| (gd (0 ≤ a0 ∧ a0 < (a1.length : Int)) <| ((aoj fu y1.1 (el a1 a0)).bind fun (a3 : (Str × UInt8)) => (gd (0 ≤ a0 ∧ a0 < (a1.length : Int)) <| (gd (0 ≤ a0 ∧ a0 < (a1.length : Int)) <| (if a3.2 = (0 : UInt8) then (gd (acy (a0 + (1 : Int))) <| (ajt fu y1 a2 a4 (zae a1 (zac a0) a3.1) (a0 + (1 : Int)))) else none)))))) else some a1)
def aol (fu : Nat) (a2 : Str) (a3 : Str) : Option (Str × UInt8) :=
  ((alt fu a2).bind fun (y1 : (Str × UInt8)) => (if y1.2 = (0 : UInt8) then ((aok fu y1.1).bind fun (y7 : Bool) => (bif (!y7) then none else ((aom fu a3).bind fun (a0 : ((List Str) × UInt8)) => (if a0.2 = (0 : UInt8) then (((ajt fu y1 a0 fu a0.1 (0 : Int))).bind fun (a1 : List Str) => (gd (a1.length ≤ 1000000000 ∧ (zaw a1 ([44, 32] : Str)).length ≤ 100000000000) <| some (zaw a1 ([44, 32] : Str), (0 : UInt8)))) else none)))) else none))
def ahh (fu : Nat) (a0 : UInt8) : Option UInt8 :=
  (((if (97 : UInt8) ≤ a0 then some (decide (a0 ≤ (122 : UInt8))) else some false)).bind fun (v5 : Bool) => (bif v5 then some (a0 - (32 : UInt8)) else some a0))
def abn (fu : Nat) (s_0 : Str) : Nat → Str → Int → Option Str
  | 0, _, _ => none
  | a2 + 1, a1, a0 => (if a0 < (s_0.length : Int) then (gd (0 ≤ a0 ∧ a0 < (a1.length : Int)) <| (gd (0 ≤ a0 ∧ a0 < (a1.length : Int)) <| ((ahh fu (at_ a1 a0)).bind fun (a3 : UInt8) => (gd (0 ≤ a0 ∧ a0 < (a1.length : Int)) <| (gd (0 ≤ a0 ∧ a0 < (a1.length : Int)) <| (gd (acy (a0 + (1 : Int))) <| (abn fu s_0 a2 (zae a1 (zac a0) a3) (a0 + (1 : Int))))))))) else some a1)
def aca (fu : Nat) (s_0 : Str) : Option Str :=
  (((abn fu s_0 fu s_0 (0 : Int))).bind fun (a0 : Str) => some a0)
open Go.Lib renaming indexAny → zat
def aiu (fu : Nat) (s_0 : Str) : Option PQ :=
  (gd (s_0.length ≤ 1000000000) <| (((if (akl (· == (58 : UInt8)) s_0) < (0 : Int) then some true else (gd (0 ≤ (akl (· == (58 : UInt8)) s_0) ∧ (akl (· == (58 : UInt8)) s_0) ≤ (s_0.length : Int)) <| (gd ((List.take (zac (akl (· == (58 : UInt8)) s_0)) s_0).length ≤ 1000000000) <| (bif (Lib.contains (List.take (zac (akl (· == (58 : UInt8)) s_0)) s_0) ([91] : Str)) then (gd (0 ≤ (akl (· == (58 : UInt8)) s_0) ∧ (akl (· == (58 : UInt8)) s_0) ≤ (s_0.length : Int)) <| (gd ((zam (zac (akl (· == (58 : UInt8)) s_0)) s_0).length ≤ 1000000000) <| some (Lib.contains (zam (zac (akl (· == (58 : UInt8)) s_0)) s_0) ([93] : Str)))) else some false))))).bind fun (a0 : Bool) => (bif a0 then some (s_0, ([] : Str), false) else (gd (0 ≤ (akl (· == (58 : UInt8)) s_0) ∧ (akl (· == (58 : UInt8)) s_0) ≤ (s_0.length : Int)) <| (gd (acy ((akl (· == (58 : UInt8)) s_0) + (1 : Int))) <| (gd (0 ≤ ((akl (· == (58 : UInt8)) s_0) + (1 : Int)) ∧ ((akl (· == (58 : UInt8)) s_0) + (1 : Int)) ≤ (s_0.length : Int)) <| some (List.take (zac (akl (· == (58 : UInt8)) s_0)) s_0, zam (zac ((akl (· == (58 : UInt8)) s_0) + (1 : Int))) s_0, true)))))))
def aeq (fu : Nat) (s_0 : Str) : Nat → Int → Int → Option (Int ⊕ (Int × UInt8))
  | 0, _, _ => none
  | a2 + 1, a1, a0 => (if a0 < (s_0.length : Int) then (((gd (0 ≤ a0 ∧ a0 < (s_0.length : Int)) <| (if (at_ s_0 a0) < (48 : UInt8) then some true else (gd (0 ≤ a0 ∧ a0 < (s_0.length : Int)) <| some (decide ((57 : UInt8) < (at_ s_0 a0))))))).bind fun (a3 : Bool) => (bif a3 then some (.inr ((0 : Int), (5 : UInt8))) else (gd (acy ((10 : Int) * a1)) <| (gd (0 ≤ a0 ∧ a0 < (s_0.length : Int)) <| (gd (acy (((10 : Int) * a1) + (((at_ s_0 a0) - (48 : UInt8)).toNat : Int))) <| (gd (acy (a0 + (1 : Int))) <| (aeq fu s_0 a2 (((10 : Int) * a1) + (((at_ s_0 a0) - (48 : UInt8)).toNat : Int)) (a0 + (1 : Int))))))))) else some (.inl a1))
def aix (fu : Nat) (s_0 : Str) : Option (Int × UInt8) :=
  (((if (s_0.length : Int) < (1 : Int) then some true else some (decide ((10 : Int) < (s_0.length : Int))))).bind fun (v5 : Bool) => (bif v5 then some ((0 : Int), (5 : UInt8)) else (((aeq fu s_0 fu (0 : Int) (0 : Int))).bind fun (a1 : (Int ⊕ (Int × UInt8))) => zaz (fun (a0 : Int) => (if (2147483647 : Int) < a0 then some ((0 : Int), (3 : UInt8)) else some (a0, (0 : UInt8)))) (fun q => some q) a1)))
def afm (fu : Nat) (a1 : List PQ) (y1 : Str) : Nat → Int → Option (Unit ⊕ (Str × Bool))
  | 0, _ => none
  | a2 + 1, a0 => (if a0 < (a1.length : Int) then (gd (0 ≤ a0 ∧ a0 < (a1.length : Int)) <| (gd (0 ≤ a0 ∧ a0 < (a1.length : Int)) <| ((adp fu ((el a1 a0).1)).bind fun (a3 : Str) => (if a3 = y1 then some (.inr ((el a1 a0).2.1, true)) else (gd (acy (a0 + (1 : Int))) <| (afm fu a1 y1 a2 (a0 + (1 : Int)))))))) else some (.inl ()))
def aio (fu : Nat) (a0 : List PQ) (a1 : Str) : Option (Str × Bool) :=
  ((adp fu a1).bind fun (y1 : Str) => (((afm fu a0 y1 fu (0 : Int))).bind fun (a2 : (Unit ⊕ (Str × Bool))) => zaz (fun (a3 : Unit) => some (([] : Str), false)) (fun q => some q) a2))
def akq (fu : Nat) (a8 : Str) : Option ((Str × Str × Int × Str × (List PQ)) × UInt8) :=
  ((ahi fu a8).bind fun (y4 : Str) => (((if (y4.length : Int) < (8 : Int) then some true else (gd (0 ≤ (8 : Int) ∧ (8 : Int) ≤ (y4.length : Int)) <| ((aca fu (List.take (zac (8 : Int)) y4)).bind fun (a9 : Str) => some (!decide (a9 = ([83, 73, 80, 47, 50, 46, 48, 47] : Str))))))).bind fun (b0 : Bool) => (bif b0 then some ((([] : Str), ([] : Str), (0 : Int), ([] : Str), ([] : List PQ)), (5 : UInt8)) else ((afz fu y4 (8 : Int)).bind fun (a1 : Int) => ((ags fu y4 a1).bind fun (a0 : Int) => (((if a1 = (8 : Int) then some true else some (decide (a0 = a1)))).bind fun (b1 : Bool) => (bif b1 then some ((([] : Str), ([] : Str), (0 : Int), ([] : Str), ([] : List PQ)), (5 : UInt8)) else (gd (0 ≤ (8 : Int) ∧ (8 : Int) ≤ a1 ∧ a1 ≤ (y4.length : Int)) <| ((aca fu (sub y4 (8 : Int) a1)).bind fun (b2 : Str) => (gd (0 ≤ a0 ∧ a0 ≤ (y4.length : Int)) <| (((gd ((zam (zac a0) y4).length ≤ 1000000000 ∧ ([59, 32, 9] : Str).length ≤ 1000 ∧ ([59, 32, 9] : Str).all (fun b => decide (b.toNat < 128)) = true) <| (if (0 : Int) ≤ (zat (zam (zac a0) y4) ([59, 32, 9] : Str)) then (gd (0 ≤ (zat (zam (zac a0) y4) ([59, 32, 9] : Str)) ∧ (zat (zam (zac a0) y4) ([59, 32, 9] : Str)) ≤ ((zam (zac a0) y4).length : Int)) <| (gd (0 ≤ (zat (zam (zac a0) y4) ([59, 32, 9] : Str)) ∧ (zat (zam (zac a0) y4) ([59, 32, 9] : Str)) ≤ ((zam (zac a0) y4).length : Int)) <| some (List.take (zac (zat (zam (zac a0) y4) ([59, 32, 9] : Str))) (zam (zac a0) y4), zam (zac (zat (zam (zac a0) y4) ([59, 32, 9] : Str))) (zam (zac a0) y4)))) else some (zam (zac a0) y4, ([] : Str))))).bind fun (a5 : (Str × Str)) => ((aiu fu a5.1).bind fun (a4 : PQ) => ((afe fu a4.1).bind fun (a6 : (Str × Bool)) => (bif (!a6.2) then some ((([] : Str), ([] : Str), (0 : Int), ([] : Str), ([] : List PQ)), (5 : UInt8)) else (((bif a4.2.2 then ((aix fu a4.2.1).bind fun (a2 : (Int × UInt8)) => (((((if a2.2 = (0 : UInt8) then (if a2.1 < (1 : Int) then some true else some (decide ((65535 : Int) < a2.1))) else some false)).bind fun (b3 : Bool) => (bif b3 then some (3 : UInt8) else some a2.2))).bind fun (a7 : UInt8) => (if a7 = (0 : UInt8) then some (.inl a2.1) else some (.inr ((([] : Str), ([] : Str), (0 : Int), ([] : Str), ([] : List PQ)), a7))))) else some (.inl (0 : Int)))).bind fun (b4 : (Int ⊕ ((Str × Str × Int × Str × (List PQ)) × UInt8))) => zaz (fun (b5 : Int) => ((agl fu a5.2).bind fun (a3 : ((List PQ) × Int × UInt8)) => (if a3.2.2 = (0 : UInt8) then ((aio fu a3.1 ([98, 114, 97, 110, 99, 104] : Str)).bind fun (b6 : (Str × Bool)) => some ((b2, a6.1, b5, b6.1, a3.1), (0 : UInt8))) else some ((([] : Str), ([] : Str), (0 : Int), ([] : Str), ([] : List PQ)), a3.2.2)))) (fun q => some q) b4)))))))))))))))
def alm (fu : Nat) (s_0 : Str) : Option (Int × Str × UInt8) :=
  (gd (s_0.length ≤ 1000000000 ∧ ([32, 9] : Str).length ≤ 1000 ∧ ([32, 9] : Str).all (fun b => decide (b.toNat < 128)) = true) <| (if (zat s_0 ([32, 9] : Str)) < (0 : Int) then none else (gd (0 ≤ (zat s_0 ([32, 9] : Str)) ∧ (zat s_0 ([32, 9] : Str)) ≤ (s_0.length : Int)) <| ((aix fu (List.take (zac (zat s_0 ([32, 9] : Str))) s_0)).bind fun (y8 : (Int × UInt8)) => ((ags fu s_0 (zat s_0 ([32, 9] : Str))).bind fun (a0 : Int) => (gd (0 ≤ a0 ∧ a0 ≤ (s_0.length : Int)) <| some (y8.1, zam (zac a0) s_0, y8.2)))))))
def aon (fu : Nat) (a0 : Str) : Option (Int × Str × UInt8) :=
  ((ahi fu a0).bind fun (y1 : Str) => ((alm fu y1).bind fun (y6 : (Int × Str × UInt8)) => (if y6.2.2 = (0 : UInt8) then ((agq fu y6.2.1).bind fun (a1 : Bool) => (bif (!a1) then none else some (y6.1, y6.2.1, (0 : UInt8)))) else none)))
def ajs (fu : Nat) : Option Bool :=
  ((alt fu ([67, 65, 76, 76, 45, 105, 100] : Str)).bind fun (y1 : (Str × UInt8)) => ((aol fu ([109] : Str) ([66, 111, 98, 60, 115, 105, 112, 58, 97, 64, 66, 62, 32, 44, 32, 60, 115, 105, 112, 58, 99, 59, 100, 62] : Str)).bind fun (y6 : (Str × UInt8)) => ((akq fu ([115, 105, 112, 47, 50, 46, 48, 47, 117, 100, 112, 32, 104, 58, 53, 48, 54, 48, 59, 98, 114, 97, 110, 99, 104, 61, 122, 57] : Str)).bind fun (a0 : ((Str × Str × Int × Str × (List PQ)) × UInt8)) => ((aon fu ([48, 48, 55, 32, 73, 78, 86, 73, 84, 69] : Str)).bind fun (a1 : (Int × Str × UInt8)) => (((if y1.2 = (0 : UInt8) then (if y1.1 = ([67, 97, 108, 108, 45, 73, 68] : Str) then (if y6.2 = (0 : UInt8) then (if y6.1 = ([34, 66, 111, 98, 34, 32, 60, 115, 105, 112, 58, 97, 64, 98, 62, 44, 32, 60, 115, 105, 112, 58, 99, 59, 100, 62] : Str) then (if a0.2 = (0 : UInt8) then (if a0.1.1 = ([85, 68, 80] : Str) then (if a0.1.2.1 = ([104] : Str) then (if a0.1.2.2.1 = (5060 : Int) then (if a0.1.2.2.2.1 = ([122, 57] : Str) then (if a1.1 = (7 : Int) then (if a1.2.1 = ([73, 78, 86, 73, 84, 69] : Str) then some () else none) else none) else none) else none) else none) else none) else none) else none) else none) else none) else none)).bind fun (a2 : Unit) => some (decide (a1.2.2 = (0 : UInt8))))))))
def agi (fu : Nat) (s_0 : List PQ) : Option (List PQ) :=
  some s_0
def acp (fu : Nat) (a0 : PQ) (a1 : List PQ) : Option (Nat × (List PQ)) :=
  (gd ((a1.length + ([a0] : List PQ).length) * 40 ≤ 140737488355328) <| some (0, a1 ++ ([a0] : List PQ)))
def aag (fu : Nat) (a1 : List PQ) : Nat → Int → (List PQ) → Option ((List PQ) × Nat)
  | 0, _, _ => none
  | a4 + 1, a0, a3 => (if a0 < (a1.length : Int) then (gd (0 ≤ a0 ∧ a0 < (a1.length : Int)) <| (gd (0 ≤ a0 ∧ a0 < (a1.length : Int)) <| ((acp fu ((el a1 a0).1, (el a1 a0).2.1, ((el a1 a0).2.2)) a3).bind fun (a2 : (Nat × (List PQ))) => (if a2.1 = 0 then (gd (acy (a0 + (1 : Int))) <| (aag fu a1 a4 (a0 + (1 : Int)) a2.2)) else some (a2.2, a2.1))))) else some (a3, 0))
def abg (fu : Nat) (a0 : List PQ) (a1 : List PQ) : Option ((List PQ) × Nat) :=
  (aag fu a1 fu (0 : Int) a0)
def ady (fu : Nat) (s_0 : List PQ) (a1 : List PQ) : Option (List PQ) :=
  ((abg fu s_0 a1).bind fun (a0 : ((List PQ) × Nat)) => (if a0.2 = 0 then some a0.1 else none))
def adi (fu : Nat) (a0 : List PQ) : Option (List PQ) :=
  ((ady fu ([] : List PQ) a0).bind fun (y1 : List PQ) => some y1)
def afl (fu : Nat) (a0 : PQ) (a1 : PQ) : Option Int :=
  ((agn fu a0.1 a1.1).bind fun (y7 : Int) => some y7)
def aaf (fu : Nat) (a2 : Int) : Nat → (List PQ) → Int → Option (List PQ)
  | 0, _, _ => none
  | a3 + 1, a1, a0 => (((if a2 < a0 then (gd (0 ≤ a0 ∧ a0 < (a1.length : Int)) <| (gd (0 ≤ a0 ∧ a0 < (a1.length : Int)) <| (gd (acy (a0 - (1 : Int))) <| (gd (0 ≤ (a0 - (1 : Int)) ∧ (a0 - (1 : Int)) < (a1.length : Int)) <| (gd (0 ≤ (a0 - (1 : Int)) ∧ (a0 - (1 : Int)) < (a1.length : Int)) <| ((afl fu ((el a1 a0).1, (el a1 a0).2.1, ((el a1 a0).2.2)) ((el a1 (a0 - (1 : Int))).1, (el a1 (a0 - (1 : Int))).2.1, ((el a1 (a0 - (1 : Int))).2.2))).bind fun (a4 : Int) => some (decide (a4 < (0 : Int))))))))) else some false)).bind fun (a5 : Bool) => (bif a5 then (gd (acy (a0 - (1 : Int))) <| (gd (acy (a0 - (1 : Int))) <| (gd (0 ≤ (a0 - (1 : Int)) ∧ (a0 - (1 : Int)) < (a1.length : Int)) <| (gd (0 ≤ (a0 - (1 : Int)) ∧ (a0 - (1 : Int)) < (a1.length : Int)) <| (gd (0 ≤ a0 ∧ a0 < (a1.length : Int)) <| (gd (0 ≤ a0 ∧ a0 < (a1.length : Int)) <| (gd (0 ≤ a0 ∧ a0 < (a1.length : Int)) <| (gd (0 ≤ a0 ∧ a0 < (a1.length : Int)) <| (gd (0 ≤ (a0 - (1 : Int)) ∧ (a0 - (1 : Int)) < ((zae a1 (zac a0) ((el a1 (a0 - (1 : Int))).1, (el a1 (a0 - (1 : Int))).2.1, ((el a1 (a0 - (1 : Int))).2.2))).length : Int)) <| (gd (0 ≤ (a0 - (1 : Int)) ∧ (a0 - (1 : Int)) < ((zae a1 (zac a0) ((el a1 (a0 - (1 : Int))).1, (el a1 (a0 - (1 : Int))).2.1, ((el a1 (a0 - (1 : Int))).2.2))).length : Int)) <| (gd (acy (a0 - (1 : Int))) <| (aaf fu a2 a3 (zae (zae a1 (zac a0) ((el a1 (a0 - (1 : Int))).1, (el a1 (a0 - (1 : Int))).2.1, ((el a1 (a0 - (1 : Int))).2.2))) (zac (a0 - (1 : Int))) ((el a1 a0).1, (el a1 a0).2.1, ((el a1 a0).2.2))) (a0 - (1 : Int)))))))))))))) else some a1))
def aac (fu : Nat) (a1 : Int) (a2 : Int) : Nat → (List PQ) → Int → Option (List PQ)
  | 0, _, _ => none
  | a4 + 1, a3, a0 => (if a0 < a2 then (((aaf fu a1 fu a3 a0)).bind fun (a5 : List PQ) => (gd (acy (a0 + (1 : Int))) <| (aac fu a1 a2 a4 a5 (a0 + (1 : Int))))) else some a3)
def aai (fu : Nat) (a1 : List PQ) (a0 : Int) (a2 : Int) : Option (List PQ) :=
  (gd (acy (a0 + (1 : Int))) <| (aac fu a0 a2 fu a1 (a0 + (1 : Int))))
def aaq (fu : Nat) (a3 : Int) (a2 : Int) (a4 : Int) : Nat → (List PQ) → Int → Option (List PQ)
  | 0, _, _ => none
  | a5 + 1, a1, a0 => (if a0 < a4 then (gd (acy (a3 + a0)) <| (gd (acy (a2 + a0)) <| (gd (acy (a2 + a0)) <| (gd (0 ≤ (a2 + a0) ∧ (a2 + a0) < (a1.length : Int)) <| (gd (0 ≤ (a2 + a0) ∧ (a2 + a0) < (a1.length : Int)) <| (gd (acy (a3 + a0)) <| (gd (0 ≤ (a3 + a0) ∧ (a3 + a0) < (a1.length : Int)) <| (gd (0 ≤ (a3 + a0) ∧ (a3 + a0) < (a1.length : Int)) <| (gd (0 ≤ (a3 + a0) ∧ (a3 + a0) < (a1.length : Int)) <| (gd (0 ≤ (a3 + a0) ∧ (a3 + a0) < (a1.length : Int)) <| (gd (0 ≤ (a2 + a0) ∧ (a2 + a0) < ((zae a1 (zac (a3 + a0)) ((el a1 (a2 + a0)).1, (el a1 (a2 + a0)).2.1, ((el a1 (a2 + a0)).2.2))).length : Int)) <| (gd (0 ≤ (a2 + a0) ∧ (a2 + a0) < ((zae a1 (zac (a3 + a0)) ((el a1 (a2 + a0)).1, (el a1 (a2 + a0)).2.1, ((el a1 (a2 + a0)).2.2))).length : Int)) <| (gd (acy (a0 + (1 : Int))) <| (aaq fu a3 a2 a4 a5 (zae (zae a1 (zac (a3 + a0)) ((el a1 (a2 + a0)).1, (el a1 (a2 + a0)).2.1, ((el a1 (a2 + a0)).2.2))) (zac (a2 + a0)) ((el a1 (a3 + a0)).1, (el a1 (a3 + a0)).2.1, ((el a1 (a3 + a0)).2.2))) (a0 + (1 : Int)))))))))))))))) else some a1)
def aay (fu : Nat) (a0 : List PQ) (a1 : Int) (a2 : Int) (a3 : Int) : Option (List PQ) :=
  (aaq fu a1 a2 a3 fu a0 (0 : Int))
def aax (fu : Nat) (a2 : Int) : Nat → (List PQ) → Int → Int → Option ((List PQ) × Int)
  | 0, _, _, _ => none
  | a4 + 1, a3, a0, a1 => (if a0 = a1 then some (a3, a0) else (if a1 < a0 then (gd (acy (a2 - a0)) <| ((aay fu a3 (a2 - a0) a2 a1).bind fun (a5 : List PQ) => (gd (acy (a0 - a1)) <| (aax fu a2 a4 a5 (a0 - a1) a1)))) else (gd (acy (a2 - a0)) <| (gd (acy (a2 + a1)) <| (gd (acy ((a2 + a1) - a0)) <| ((aay fu a3 (a2 - a0) ((a2 + a1) - a0) a0).bind fun (a6 : List PQ) => (gd (acy (a1 - a0)) <| (aax fu a2 a4 a6 a0 (a1 - a0)))))))))
def abm (fu : Nat) (a4 : List PQ) (a2 : Int) (a0 : Int) (a3 : Int) : Option (List PQ) :=
  (gd (acy (a0 - a2)) <| (gd (acy (a3 - a0)) <| (((aax fu a0 fu a4 (a0 - a2) (a3 - a0))).bind fun (a1 : ((List PQ) × Int)) => (gd (acy (a0 - a1.2)) <| ((aay fu a1.1 (a0 - a1.2) a0 a1.2).bind fun (a5 : List PQ) => some a5)))))
def aan (fu : Nat) (a2 : List PQ) (a3 : Int) : Nat → Int → Int → Option Int
  | 0, _, _ => none
  | a4 + 1, a0, a1 => (if a0 < a1 then (gd (acy (a0 + a1)) <| (gd (0 ≤ (zaa .i64 ((zaa .u64 (a0 + a1)) / 2)) ∧ (zaa .i64 ((zaa .u64 (a0 + a1)) / 2)) < (a2.length : Int)) <| (gd (0 ≤ (zaa .i64 ((zaa .u64 (a0 + a1)) / 2)) ∧ (zaa .i64 ((zaa .u64 (a0 + a1)) / 2)) < (a2.length : Int)) <| (gd (0 ≤ a3 ∧ a3 < (a2.length : Int)) <| (gd (0 ≤ a3 ∧ a3 < (a2.length : Int)) <| ((afl fu ((el a2 (zaa .i64 ((zaa .u64 (a0 + a1)) / 2))).1, (el a2 (zaa .i64 ((zaa .u64 (a0 + a1)) / 2))).2.1, ((el a2 (zaa .i64 ((zaa .u64 (a0 + a1)) / 2))).2.2)) ((el a2 a3).1, (el a2 a3).2.1, ((el a2 a3).2.2))).bind fun (a5 : Int) => (if a5 < (0 : Int) then (gd (acy ((zaa .i64 ((zaa .u64 (a0 + a1)) / 2)) + (1 : Int))) <| (aan fu a2 a3 a4 ((zaa .i64 ((zaa .u64 (a0 + a1)) / 2)) + (1 : Int)) a1)) else (aan fu a2 a3 a4 a0 (zaa .i64 ((zaa .u64 (a0 + a1)) / 2)))))))))) else some a0)
def aat (fu : Nat) (a2 : Int) : Nat → (List PQ) → Int → Option (List PQ)
  | 0, _, _ => none
  | a3 + 1, a1, a0 => (gd (acy (a2 - (1 : Int))) <| (if a0 < (a2 - (1 : Int)) then (gd (acy (a0 + (1 : Int))) <| (gd (acy (a0 + (1 : Int))) <| (gd (0 ≤ (a0 + (1 : Int)) ∧ (a0 + (1 : Int)) < (a1.length : Int)) <| (gd (0 ≤ (a0 + (1 : Int)) ∧ (a0 + (1 : Int)) < (a1.length : Int)) <| (gd (0 ≤ a0 ∧ a0 < (a1.length : Int)) <| (gd (0 ≤ a0 ∧ a0 < (a1.length : Int)) <| (gd (0 ≤ a0 ∧ a0 < (a1.length : Int)) <| (gd (0 ≤ a0 ∧ a0 < (a1.length : Int)) <| (gd (0 ≤ (a0 + (1 : Int)) ∧ (a0 + (1 : Int)) < ((zae a1 (zac a0) ((el a1 (a0 + (1 : Int))).1, (el a1 (a0 + (1 : Int))).2.1, ((el a1 (a0 + (1 : Int))).2.2))).length : Int)) <| (gd (0 ≤ (a0 + (1 : Int)) ∧ (a0 + (1 : Int)) < ((zae a1 (zac a0) ((el a1 (a0 + (1 : Int))).1, (el a1 (a0 + (1 : Int))).2.1, ((el a1 (a0 + (1 : Int))).2.2))).length : Int)) <| (gd (acy (a0 + (1 : Int))) <| (aat fu a2 a3 (zae (zae a1 (zac a0) ((el a1 (a0 + (1 : Int))).1, (el a1 (a0 + (1 : Int))).2.1, ((el a1 (a0 + (1 : Int))).2.2))) (zac (a0 + (1 : Int))) ((el a1 a0).1, (el a1 a0).2.1, ((el a1 a0).2.2))) (a0 + (1 : Int)))))))))))))) else some a1))
def aam (fu : Nat) (a2 : List PQ) (a3 : Int) : Nat → Int → Int → Option Int
  | 0, _, _ => none
  | a4 + 1, a0, a1 => (if a0 < a1 then (gd (acy (a0 + a1)) <| (gd (0 ≤ a3 ∧ a3 < (a2.length : Int)) <| (gd (0 ≤ a3 ∧ a3 < (a2.length : Int)) <| (gd (0 ≤ (zaa .i64 ((zaa .u64 (a0 + a1)) / 2)) ∧ (zaa .i64 ((zaa .u64 (a0 + a1)) / 2)) < (a2.length : Int)) <| (gd (0 ≤ (zaa .i64 ((zaa .u64 (a0 + a1)) / 2)) ∧ (zaa .i64 ((zaa .u64 (a0 + a1)) / 2)) < (a2.length : Int)) <| ((afl fu ((el a2 a3).1, (el a2 a3).2.1, ((el a2 a3).2.2)) ((el a2 (zaa .i64 ((zaa .u64 (a0 + a1)) / 2))).1, (el a2 (zaa .i64 ((zaa .u64 (a0 + a1)) / 2))).2.1, ((el a2 (zaa .i64 ((zaa .u64 (a0 + a1)) / 2))).2.2))).bind fun (a5 : Int) => (if a5 < (0 : Int) then (aam fu a2 a3 a4 a0 (zaa .i64 ((zaa .u64 (a0 + a1)) / 2))) else (gd (acy ((zaa .i64 ((zaa .u64 (a0 + a1)) / 2)) + (1 : Int))) <| (aam fu a2 a3 a4 ((zaa .i64 ((zaa .u64 (a0 + a1)) / 2)) + (1 : Int)) a1))))))))) else some a0)
def aas (fu : Nat) (a2 : Int) : Nat → (List PQ) → Int → Option (List PQ)
  | 0, _, _ => none
  | a3 + 1, a1, a0 => (if a2 < a0 then (gd (acy (a0 - (1 : Int))) <| (gd (acy (a0 - (1 : Int))) <| (gd (0 ≤ (a0 - (1 : Int)) ∧ (a0 - (1 : Int)) < (a1.length : Int)) <| (gd (0 ≤ (a0 - (1 : Int)) ∧ (a0 - (1 : Int)) < (a1.length : Int)) <| (gd (0 ≤ a0 ∧ a0 < (a1.length : Int)) <| (gd (0 ≤ a0 ∧ a0 < (a1.length : Int)) <| (gd (0 ≤ a0 ∧ a0 < (a1.length : Int)) <| (gd (0 ≤ a0 ∧ a0 < (a1.length : Int)) <| (gd (0 ≤ (a0 - (1 : Int)) ∧ (a0 - (1 : Int)) < ((zae a1 (zac a0) ((el a1 (a0 - (1 : Int))).1, (el a1 (a0 - (1 : Int))).2.1, ((el a1 (a0 - (1 : Int))).2.2))).length : Int)) <| (gd (0 ≤ (a0 - (1 : Int)) ∧ (a0 - (1 : Int)) < ((zae a1 (zac a0) ((el a1 (a0 - (1 : Int))).1, (el a1 (a0 - (1 : Int))).2.1, ((el a1 (a0 - (1 : Int))).2.2))).length : Int)) <| (gd (acy (a0 - (1 : Int))) <| (aas fu a2 a3 (zae (zae a1 (zac a0) ((el a1 (a0 - (1 : Int))).1, (el a1 (a0 - (1 : Int))).2.1, ((el a1 (a0 - (1 : Int))).2.2))) (zac (a0 - (1 : Int))) ((el a1 a0).1, (el a1 a0).2.1, ((el a1 a0).2.2))) (a0 - (1 : Int)))))))))))))) else some a1)
def aal (fu : Nat) (a2 : List PQ) (a3 : Int) (a4 : Int) (a5 : Int) : Nat → Int → Int → Option Int
  | 0, _, _ => none
  | a6 + 1, a0, a1 => (if a0 < a1 then (gd (acy (a0 + a1)) <| (gd (acy ((((zaa .i64 ((zaa .u64 (a3 + a5)) / 2)) + a4) - (1 : Int)) - (zaa .i64 ((zaa .u64 (a0 + a1)) / 2)))) <| (gd (0 ≤ ((((zaa .i64 ((zaa .u64 (a3 + a5)) / 2)) + a4) - (1 : Int)) - (zaa .i64 ((zaa .u64 (a0 + a1)) / 2))) ∧ ((((zaa .i64 ((zaa .u64 (a3 + a5)) / 2)) + a4) - (1 : Int)) - (zaa .i64 ((zaa .u64 (a0 + a1)) / 2))) < (a2.length : Int)) <| (gd (0 ≤ ((((zaa .i64 ((zaa .u64 (a3 + a5)) / 2)) + a4) - (1 : Int)) - (zaa .i64 ((zaa .u64 (a0 + a1)) / 2))) ∧ ((((zaa .i64 ((zaa .u64 (a3 + a5)) / 2)) + a4) - (1 : Int)) - (zaa .i64 ((zaa .u64 (a0 + a1)) / 2))) < (a2.length : Int)) <| (gd (0 ≤ (zaa .i64 ((zaa .u64 (a0 + a1)) / 2)) ∧ (zaa .i64 ((zaa .u64 (a0 + a1)) / 2)) < (a2.length : Int)) <| (gd (0 ≤ (zaa .i64 ((zaa .u64 (a0 + a1)) / 2)) ∧ (zaa .i64 ((zaa .u64 (a0 + a1)) / 2)) < (a2.length : Int)) <| ((afl fu ((el a2 ((((zaa .i64 ((zaa .u64 (a3 + a5)) / 2)) + a4) - (1 : Int)) - (zaa .i64 ((zaa .u64 (a0 + a1)) / 2)))).1, (el a2 ((((zaa .i64 ((zaa .u64 (a3 + a5)) / 2)) + a4) - (1 : Int)) - (zaa .i64 ((zaa .u64 (a0 + a1)) / 2)))).2.1, ((el a2 ((((zaa .i64 ((zaa .u64 (a3 + a5)) / 2)) + a4) - (1 : Int)) - (zaa .i64 ((zaa .u64 (a0 + a1)) / 2)))).2.2)) ((el a2 (zaa .i64 ((zaa .u64 (a0 + a1)) / 2))).1, (el a2 (zaa .i64 ((zaa .u64 (a0 + a1)) / 2))).2.1, ((el a2 (zaa .i64 ((zaa .u64 (a0 + a1)) / 2))).2.2))).bind fun (a7 : Int) => (if a7 < (0 : Int) then (aal fu a2 a3 a4 a5 a6 a0 (zaa .i64 ((zaa .u64 (a0 + a1)) / 2))) else (gd (acy ((zaa .i64 ((zaa .u64 (a0 + a1)) / 2)) + (1 : Int))) <| (aal fu a2 a3 a4 a5 a6 ((zaa .i64 ((zaa .u64 (a0 + a1)) / 2)) + (1 : Int)) a1)))))))))) else some a0)
def aaj : Nat → (List PQ) → Int → Int → Int → Option (List PQ)
  | 0, _, _, _, _ => none
  | fu + 1, a4, a0, a2, a1 => (((gd (acy (a2 - a0)) <| (if (a2 - a0) = (1 : Int) then (((aan fu a4 a0 fu a2 a1)).bind fun (a8 : Int) => (((aat fu a8 fu a4 a0)).bind fun (a9 : List PQ) => some (.inr a9))) else some (.inl ())))).bind fun (b0 : (Unit ⊕ (List PQ))) => zaz (fun (c0 : Unit) => (((gd (acy (a1 - a2)) <| (if (a1 - a2) = (1 : Int) then (((aam fu a4 a2 fu a0 a2)).bind fun (b1 : Int) => (((aas fu b1 fu a4 a2)).bind fun (b2 : List PQ) => some (.inr b2))) else some (.inl ())))).bind fun (b3 : (Unit ⊕ (List PQ))) => zaz (fun (c1 : Unit) => (gd (acy (a0 + a1)) <| (gd (acy ((zaa .i64 ((zaa .u64 (a0 + a1)) / 2)) + a2)) <| (((if (zaa .i64 ((zaa .u64 (a0 + a1)) / 2)) < a2 then (gd (acy (((zaa .i64 ((zaa .u64 (a0 + a1)) / 2)) + a2) - a1)) <| some (((zaa .i64 ((zaa .u64 (a0 + a1)) / 2)) + a2) - a1, zaa .i64 ((zaa .u64 (a0 + a1)) / 2))) else some (a0, a2))).bind fun (a5 : (Int × Int)) => (gd (acy (((zaa .i64 ((zaa .u64 (a0 + a1)) / 2)) + a2) - (1 : Int))) <| (((aal fu a4 a0 a2 a1 fu a5.1 a5.2)).bind fun (a3 : Int) => (gd (acy (((zaa .i64 ((zaa .u64 (a0 + a1)) / 2)) + a2) - a3)) <| (((((if a3 < a2 then some (decide (a2 < (((zaa .i64 ((zaa .u64 (a0 + a1)) / 2)) + a2) - a3))) else some false)).bind fun (b4 : Bool) => (bif b4 then ((abm fu a4 a3 a2 (((zaa .i64 ((zaa .u64 (a0 + a1)) / 2)) + a2) - a3)).bind fun (b5 : List PQ) => some b5) else some a4))).bind fun (a6 : List PQ) => (((((if a0 < a3 then some (decide (a3 < (zaa .i64 ((zaa .u64 (a0 + a1)) / 2)))) else some false)).bind fun (b6 : Bool) => (bif b6 then ((aaj fu a6 a0 a3 (zaa .i64 ((zaa .u64 (a0 + a1)) / 2))).bind fun (b7 : List PQ) => some b7) else some a6))).bind fun (a7 : List PQ) => (((if (zaa .i64 ((zaa .u64 (a0 + a1)) / 2)) < (((zaa .i64 ((zaa .u64 (a0 + a1)) / 2)) + a2) - a3) then some (decide ((((zaa .i64 ((zaa .u64 (a0 + a1)) / 2)) + a2) - a3) < a1)) else some false)).bind fun (b8 : Bool) => (bif b8 then ((aaj fu a7 (zaa .i64 ((zaa .u64 (a0 + a1)) / 2)) (((zaa .i64 ((zaa .u64 (a0 + a1)) / 2)) + a2) - a3) a1).bind fun (b9 : List PQ) => some b9) else some a7))))))))))) (fun q => some q) b3)) (fun q => some q) b0)
def aah (fu : Nat) (a1 : Int) : Nat → (List PQ) → Int → Int → Option ((List PQ) × Int)
  | 0, _, _, _ => none
  | a4 + 1, a2, a3, a0 => (if a0 ≤ a1 then ((aai fu a2 a3 a0).bind fun (a5 : List PQ) => (gd (acy (a0 + (20 : Int))) <| (aah fu a1 a4 a5 a0 (a0 + (20 : Int))))) else some (a2, a3))
def aap (fu : Nat) (a3 : Int) (a0 : Int) : Nat → (List PQ) → Int → Int → Option ((List PQ) × Int)
  | 0, _, _, _ => none
  | a5 + 1, a4, a2, a1 => (if a1 ≤ a3 then (gd (acy (a2 + a0)) <| ((aaj fu a4 a2 (a2 + a0) a1).bind fun (a6 : List PQ) => (gd (acy ((2 : Int) * a0)) <| (gd (acy (a1 + ((2 : Int) * a0))) <| (aap fu a3 a0 a5 a6 a1 (a1 + ((2 : Int) * a0))))))) else some (a4, a2))
def aae (fu : Nat) (a1 : Int) : Nat → (List PQ) → Int → Option (List PQ)
  | 0, _, _ => none
  | a3 + 1, a4, a0 => (if a0 < a1 then (gd (acy ((2 : Int) * a0)) <| (((aap fu a1 a0 fu a4 (0 : Int) ((2 : Int) * a0))).bind fun (a2 : ((List PQ) × Int)) => (gd (acy (a2.2 + a0)) <| (if (a2.2 + a0) < a1 then ((aaj fu a2.1 a2.2 (a2.2 + a0) a1).bind fun (a5 : List PQ) => (gd (acy (a0 * (2 : Int))) <| (aae fu a1 a3 a5 (a0 * (2 : Int))))) else (gd (acy (a0 * (2 : Int))) <| (aae fu a1 a3 a2.1 (a0 * (2 : Int)))))))) else some a4)
def acb (fu : Nat) (a2 : List PQ) (a0 : Int) : Option (List PQ) :=
  (((aah fu a0 fu a2 (0 : Int) (20 : Int))).bind fun (a1 : ((List PQ) × Int)) => ((aai fu a1.1 a1.2 a0).bind fun (a3 : List PQ) => (aae fu a0 fu a3 (20 : Int))))
def aby (fu : Nat) (a0 : List PQ) : Option (List PQ) :=
  ((acb fu a0 (a0.length : Int)).bind fun (y1 : List PQ) => some y1)
def abb (fu : Nat) (a0 : List PQ) : Option (List PQ) :=
  ((adi fu a0).bind fun (y1 : List PQ) => ((aby fu y1).bind fun (y9 : List PQ) => some y9))
def aeh (fu : Nat) (a0 : List PQ) : Option (List PQ) :=
  ((agi fu a0).bind fun (y1 : List PQ) => ((abb fu a0).bind fun (y7 : List PQ) => some y7))
def ado (fu : Nat) (a1 : (Str × Str × Int × Str × (List PQ))) : Nat → (List PQ) → Int → Option (List PQ)
  | 0, _, _ => none
  | a3 + 1, a2, a0 => (if a0 < (a1.2.2.2.2.length : Int) then (gd (0 ≤ a0 ∧ a0 < (a1.2.2.2.2.length : Int)) <| (gd (0 ≤ a0 ∧ a0 < (a1.2.2.2.2.length : Int)) <| (if ((el a1.2.2.2.2 a0).1) = ([98, 114, 97, 110, 99, 104] : Str) then (gd (acy (a0 + (1 : Int))) <| (ado fu a1 a3 a2 (a0 + (1 : Int)))) else (gd ((a2.length + ([((el a1.2.2.2.2 a0).1, (el a1.2.2.2.2 a0).2.1, ((el a1.2.2.2.2 a0).2.2))] : List PQ).length) * 40 ≤ 140737488355328) <| (gd (acy (a0 + (1 : Int))) <| (ado fu a1 a3 (a2 ++ ([((el a1.2.2.2.2 a0).1, (el a1.2.2.2.2 a0).2.1, ((el a1.2.2.2.2 a0).2.2))] : List PQ)) (a0 + (1 : Int)))))))) else some a2)
def agv (fu : Nat) (a0 : (Str × Str × Int × Str × (List PQ))) : Option (Str × UInt8) :=
  ((afe fu a0.2.1).bind fun (y4 : (Str × Bool)) => (((bif (!y4.2) then some true else ((agq fu a0.1).bind fun (a5 : Bool) => (bif (!a5) then some true else (if a0.2.2.1 < (0 : Int) then some true else some (decide ((65535 : Int) < a0.2.2.1))))))).bind fun (a6 : Bool) => (bif a6 then some (([] : Str), (2 : UInt8)) else (((ado fu a0 fu ([] : List PQ) (0 : Int))).bind fun (a2 : List PQ) => (((if a0.2.2.2.1 = ([] : Str) then some a2 else (gd ((a2.length + ([(([98, 114, 97, 110, 99, 104] : Str), a0.2.2.2.1, true)] : List PQ).length) * 40 ≤ 140737488355328) <| some (a2 ++ ([(([98, 114, 97, 110, 99, 104] : Str), a0.2.2.2.1, true)] : List PQ))))).bind fun (a7 : List PQ) => ((aeh fu a7).bind fun (a8 : List PQ) => ((acl fu a8).bind fun (a3 : (Str × UInt8)) => (if a3.2 = (0 : UInt8) then (((if a0.2.2.1 = (0 : Int) then some y4.1 else (gd (acy a0.2.2.1) <| (gd (([58] : Str).length + (Lib.itoa a0.2.2.1).length ≤ 9223372036854775807) <| (gd (y4.1.length + (([58] : Str) ++ (Lib.itoa a0.2.2.1)).length ≤ 9223372036854775807) <| some (y4.1 ++ (([58] : Str) ++ (Lib.itoa a0.2.2.1)))))))).bind fun (a4 : Str) => ((aca fu a0.1).bind fun (a1 : Str) => (gd (([83, 73, 80, 47, 50, 46, 48, 47] : Str).length + a1.length ≤ 9223372036854775807) <| (gd ((([83, 73, 80, 47, 50, 46, 48, 47] : Str) ++ a1).length + ([32] : Str).length ≤ 9223372036854775807) <| (gd (((([83, 73, 80, 47, 50, 46, 48, 47] : Str) ++ a1) ++ ([32] : Str)).length + a4.length ≤ 9223372036854775807) <| (gd ((((([83, 73, 80, 47, 50, 46, 48, 47] : Str) ++ a1) ++ ([32] : Str)) ++ a4).length + a3.1.length ≤ 9223372036854775807) <| some ((((([83, 73, 80, 47, 50, 46, 48, 47] : Str) ++ a1) ++ ([32] : Str)) ++ a4) ++ a3.1, (0 : UInt8)))))))) else some (([] : Str), (2 : UInt8))))))))))
def afk (fu : Nat) (s_0 : Str) : Nat → Str → Int → Option Str
  | 0, _, _ => none
  | a2 + 1, a1, a0 => (if a0 < (s_0.length : Int) then (((gd (0 ≤ a0 ∧ a0 < (a1.length : Int)) <| (gd (0 ≤ a0 ∧ a0 < (a1.length : Int)) <| (if (65 : UInt8) ≤ (at_ a1 a0) then (gd (0 ≤ a0 ∧ a0 < (a1.length : Int)) <| (gd (0 ≤ a0 ∧ a0 < (a1.length : Int)) <| some (decide ((at_ a1 a0) ≤ (90 : UInt8))))) else some false)))).bind fun (a3 : Bool) => (bif a3 then (gd (0 ≤ a0 ∧ a0 < (a1.length : Int)) <| (gd (0 ≤ a0 ∧ a0 < (a1.length : Int)) <| (gd (0 ≤ a0 ∧ a0 < (a1.length : Int)) <| (gd (0 ≤ a0 ∧ a0 < (a1.length : Int)) <| (gd (acy (a0 + (1 : Int))) <| (afk fu s_0 a2 (zae a1 (zac a0) ((at_ a1 a0) + (32 : UInt8))) (a0 + (1 : Int)))))))) else (gd (acy (a0 + (1 : Int))) <| (afk fu s_0 a2 a1 (a0 + (1 : Int)))))) else some a1)
def ajq (fu : Nat) (s_0 : Str) : Option Str :=
  (((afk fu s_0 fu s_0 (0 : Int))).bind fun (a0 : Str) => some a0)
def acq (fu : Nat) (a1 : (Str × Str × Int × Str × (List PQ))) (a3 : ((Str × Str × Int × Str × (List PQ)) × UInt8)) : Nat → Int → Int → Option (Int ⊕ Bool)
  | 0, _, _ => none
  | a4 + 1, a2, a0 => (if a0 < (a1.2.2.2.2.length : Int) then (gd (0 ≤ a0 ∧ a0 < (a1.2.2.2.2.length : Int)) <| (gd (0 ≤ a0 ∧ a0 < (a1.2.2.2.2.length : Int)) <| (if ((el a1.2.2.2.2 a0).1) = ([98, 114, 97, 110, 99, 104] : Str) then (gd (acy (a0 + (1 : Int))) <| (acq fu a1 a3 a4 a2 (a0 + (1 : Int)))) else (gd (acy (a2 + (1 : Int))) <| (gd (0 ≤ a0 ∧ a0 < (a1.2.2.2.2.length : Int)) <| (gd (0 ≤ a0 ∧ a0 < (a1.2.2.2.2.length : Int)) <| ((aio fu a3.1.2.2.2.2 ((el a1.2.2.2.2 a0).1)).bind fun (a5 : (Str × Bool)) => (((bif (!a5.2) then some true else (gd (0 ≤ a0 ∧ a0 < (a1.2.2.2.2.length : Int)) <| (gd (0 ≤ a0 ∧ a0 < (a1.2.2.2.2.length : Int)) <| some (!decide (a5.1 = ((el a1.2.2.2.2 a0).2.1))))))).bind fun (a6 : Bool) => (bif a6 then some (.inr false) else (gd (acy (a0 + (1 : Int))) <| (acq fu a1 a3 a4 (a2 + (1 : Int)) (a0 + (1 : Int))))))))))))) else some (.inl a2))
def ahg (fu : Nat) (a0 : (Str × Str × Int × Str × (List PQ))) : Option Bool :=
  (if (40 : Int) < (a0.2.2.2.2.length : Int) then ((ajs fu).bind fun (y5 : Bool) => some y5) else ((agv fu a0).bind fun (a2 : (Str × UInt8)) => (if a2.2 = (0 : UInt8) then ((akq fu a2.1).bind fun (a1 : ((Str × Str × Int × Str × (List PQ)) × UInt8)) => ((afe fu a0.2.1).bind fun (a4 : (Str × Bool)) => (((if a1.2 = (0 : UInt8) then (bif (!a4.2) then some true else (if a1.1.2.1 = a4.1 then (if a1.1.2.2.1 = a0.2.2.1 then (if a1.1.2.2.2.1 = a0.2.2.2.1 then ((ajq fu a1.1.1).bind fun (a6 : Str) => ((ajq fu a0.1).bind fun (a7 : Str) => some (!decide (a6 = a7)))) else some true) else some true) else some true)) else some true)).bind fun (a8 : Bool) => (bif a8 then some false else (((acq fu a0 a1 fu (0 : Int) (0 : Int))).bind fun (a9 : (Int ⊕ Bool)) => zaz (fun (a3 : Int) => (((if a0.2.2.2.1 = ([] : Str) then some a3 else (gd (acy (a3 + (1 : Int))) <| some (a3 + (1 : Int))))).bind fun (b0 : Int) => ((agv fu a1.1).bind fun (a5 : (Str × UInt8)) => (((if (a1.1.2.2.2.2.length : Int) = b0 then (if a5.2 = (0 : UInt8) then (if a5.1 = a2.1 then ((ajs fu).bind fun (b1 : Bool) => some b1) else some false) else some false) else some false)).bind fun (b2 : Bool) => some b2)))) (fun q => some q) a9))))) else (((if a2.2 = (2 : UInt8) then (if a2.1 = ([] : Str) then ((ajs fu).bind fun (b3 : Bool) => some b3) else some false) else some false)).bind fun (b4 : Bool) => some b4))))
end Go.Wk
set_option maxRecDepth 100000
namespace Go.Wk
open Go.Px
open Int renaming toNat → zac
open List renaming length_append → zag, length_cons → zah, length_nil → zas, length_singleton → zai, set → zae
open Option renaming bind_some → zab
def FU : Nat := 18446744073709551616
theorem akf : FU = 18446744073709551616 := rfl
theorem at_mid (p : Str) (c : UInt8) (l : Str) : at_ (p ++ c :: l) (p.length : Int) = c := by simp [at_]
theorem set_mid (p : Str) (c x : UInt8) (l : Str) : zae (p ++ c :: l) (zac (p.length : Int)) x = (p ++ [x]) ++ l := by simp
theorem akt (p : Str) (x : UInt8) : ((p.length : Int) + 1) = ((p ++ [x]).length : Int) := by simp
theorem aiq (a : Int) (h0 : 0 ≤ a) (h : a ≤ 9223372036854775807) : acy a := ⟨by omega, by omega⟩
theorem char_token (fu : Nat) (c : UInt8) : ahf fu c = some (abz c) := by
  show ahf 0 c = _
  revert c; exact act _ (by decide +kernel)
theorem upperByte_eq (fu : Nat) (c : UInt8) : ahh fu c = some (upperB c) := by
  show ahh 0 c = _
  revert c; exact act _ (by decide +kernel)
theorem tokEnd_lp {fu : Nat} (s : Str) (hs : s.length ≤ 9223372036854775807) (n : Nat) : ∀ (k fk : Nat), k + n = s.length → n < fk →
    acj fu s fk (k : Int) = some ((k + ali abz (s.drop k) : Nat) : Int) := by
  induction n with
  | zero =>
    intro k fk hk hf
    obtain ⟨fk, rfl⟩ := fkx fk
    rw [acj, if_neg omg, List.drop_eq_nil_of_le omg]
    simp [ali]
  | succ n ih =>
    intro k fk hk hf
    obtain ⟨fk, rfl⟩ := fkx fk
    rw [acj, if_pos omg, aad omg, char_token, drop_at s k omg]
    simp only [zab]
    cases h : abz (at_ s k)
    · simp [ali, h]
    · rw [cond_true]
      rw [aad (aiq _ omg omg)]
      have e : ((k : Int) + 1) = ((k + 1 : Nat) : Int) := rfl
      rw [e, ih (k + 1) fk omg omg]
      have e2 : ali abz (at_ s k :: s.drop (k + 1)) = 1 + ali abz (s.drop (k + 1)) := by simp [ali, h, Nat.add_comm]
      rw [e2, Nat.add_assoc]
theorem skipTok_eq (s : Str) (hs : s.length ≤ 9223372036854775807) (i : Int) : aeg FU s i = some ((acs abz s i : Nat) : Int) := by
  unfold aeg acs
  have h : min (max i 0) (s.length : Int) = ((alx i s.length : Nat) : Int) := by unfold alx; omega
  have := clampN_le i s.length
  rw [h, tokEnd_lp s hs (s.length - alx i s.length) _ FU omg (by rw [akf]; omega)]
  rfl
theorem tok_cases (s : Str) : (if s = [] then some false else some (decide (((acs abz s 0 : Nat) : Int) = (s.length : Int)))) = some (air s) := by
  have := tok_iff s
  by_cases h : s = []
  · subst h; rfl
  · rw [if_neg h]; congr 1
    by_cases h2 : ((acs abz s 0 : Nat) : Int) = (s.length : Int)
    · rw [decide_eq_true h2, this.1 ⟨h, h2⟩]
    · rw [decide_eq_false h2]
      cases h3 : air s
      · rfl
      · exact absurd (this.2 h3).2 h2
theorem token_eq (s : Str) (hs : s.length ≤ 9223372036854775807) : agq FU s = some (air s) := by
  unfold agq afz
  rw [skipTok_eq s hs]
  simp only [zab, Option.bind_fun_some]
  exact tok_cases s
theorem mid_lt (p : Str) (c : UInt8) (l : Str) : (0 : Int) ≤ (p.length : Int) ∧ (p.length : Int) < ((p ++ c :: l).length : Int) := by
  rw [zag, zah]; omega
theorem lowerB_up (c : UInt8) (h1 : 65 ≤ c) (h2 : c ≤ 90) : c + 32 = afc c := by simp [afc, h1, h2]
theorem alv (c : UInt8) (h : ¬ (65 ≤ c ∧ c ≤ 90)) : afc c = c := by simp only [afc, if_neg h]
theorem refLower_lp {fu : Nat} (s : Str) (hs : s.length ≤ 9223372036854775807) (l : Str) : ∀ (p : Str) (fk : Nat), p.length + l.length = s.length → l.length < fk →
    afk fu s fk (p ++ l) (p.length : Int) = some (p ++ l.map afc) := by
  induction l with
  | nil =>
    intro p fk hk hf
    obtain ⟨fk, rfl⟩ := fkx fk
    simp only [zas] at hk
    rw [afk, if_neg omg]; rfl
  | cons c l ih0 =>
    intro p fk hk hf
    obtain ⟨fk, rfl⟩ := fkx fk
    simp only [zah] at hk hf
    have hb := mid_lt p c l
    have ih := ih0 (p ++ [afc c]) fk (by rw [zag, zai]; omega) omg
    have ok : acy ((p.length : Int) + 1) := aiq _ omg omg
    rw [afk, if_pos omg]
    simp only [aad hb, at_mid, aad ok, set_mid]
    by_cases h1 : 65 ≤ c
    · by_cases h2 : c ≤ 90
      · simp only [if_pos h1, decide_eq_true h2, zab, cond_true, lowerB_up c h1 h2]
        rw [akt p (afc c), ih]; simp
      · simp only [if_pos h1, decide_eq_false h2, zab, cond_false]
        rw [alv c (fun h => h2 h.2)] at ih
        rw [akt p c, show p ++ c :: l = (p ++ [c]) ++ l by simp, ih]; simp [alv c (fun h => h2 h.2)]
    · simp only [if_neg h1, zab, cond_false]
      rw [alv c (fun h => h1 h.1)] at ih
      rw [akt p c, show p ++ c :: l = (p ++ [c]) ++ l by simp, ih]; simp [alv c (fun h => h1 h.1)]
theorem refLower_eq (s : Str) (hs : s.length ≤ 9223372036854775807) : ajq FU s = some (abr s) := by
  unfold ajq
  have := refLower_lp (fu := FU) s hs s [] FU (by simp) (by rw [akf]; omega)
  simp only [List.nil_append, zas, Int.natCast_zero, Int.cast_ofNat_Int] at this
  rw [this]; rfl
open Bool renaming and_eq_true → zax, not_true → zar
open List renaming length_append → zag, length_cons → zah, length_nil → zas, length_singleton → zai
open Sum renaming elim → zaz, elim_inl → zau
theorem gok {α : Type} {p : Prop} [Decidable p] {k : Option α} (h : p := by first | omega | exact aiq _ omg omg | (simp only [zag, zah, zas, zai]; omega)) : gd p k = k := aad h
theorem anc (k : Nat) : (k : Int) + 1 = ((k + 1 : Nat) : Int) := rfl
theorem skip_gen (p : UInt8 → Bool) (s : Str) (F : Nat → Int → Option Int)
    (h0 : ∀ fk, F (fk + 1) (s.length : Int) = some (s.length : Int))
    (h1 : ∀ fk (k : Nat), k < s.length → p (at_ s k) = false → F (fk + 1) (k : Int) = some (k : Int))
    (h2 : ∀ fk (k : Nat), k < s.length → p (at_ s k) = true → F (fk + 1) (k : Int) = F fk ((k : Int) + 1)) (n : Nat) :
    ∀ (k fk : Nat), k + n = s.length → n < fk → F fk (k : Int) = some ((k + ali p (s.drop k) : Nat) : Int) := by
  induction n with
  | zero =>
    intro k fk hk hf
    obtain ⟨fk, rfl⟩ := fkx fk
    obtain rfl : k = s.length := by omega
    rw [h0, List.drop_length]; rfl
  | succ n ih =>
    intro k fk hk hf
    obtain ⟨fk, rfl⟩ := fkx fk
    rw [drop_at s k omg]
    cases h : p (at_ s k)
    · rw [h1 fk k omg h]; simp [ali, h]
    · rw [h2 fk k omg h, anc, ih (k + 1) fk omg omg]
      have e2 : ali p (at_ s k :: s.drop (k + 1)) = 1 + ali p (s.drop (k + 1)) := by simp [ali, h, Nat.add_comm]
      rw [e2, Nat.add_assoc]
theorem clamp_int (i : Int) (n : Nat) : min (max i 0) (n : Int) = ((alx i n : Nat) : Int) := by unfold alx; omega
theorem span_app (p : UInt8 → Bool) : ∀ (a b : Str), a.all p = true → ali p (a ++ b) = a.length + ali p b
  | [], b, _ => by simp
  | c :: a, b, h => by
    rw [List.all_cons, zax] at h
    rw [List.cons_append, ali, if_pos h.1, span_app p a b h.2, zah]; omega
theorem span_no (p : UInt8 → Bool) (c : UInt8) (l : Str) (h : p c = false) : ali p (c :: l) = 0 := by rw [ali, if_neg (by simp [h])]
theorem char_blank (fu : Nat) (c : UInt8) : agj fu c = some (abe c) := by
  show agj 0 c = _
  revert c; exact act _ (by decide +kernel)
theorem char_control (fu : Nat) (c : UInt8) : afx fu c = some (adn c) := by
  show afx 0 c = _
  revert c; exact act _ (by decide +kernel)
theorem char_escaped (fu : Nat) (c : UInt8) : agm fu c = some (escapedB c) := by
  show agm 0 c = _
  revert c; exact act _ (by decide +kernel)
theorem blanks_eq (s : Str) (hs : s.length ≤ 4194304) (i : Int) : ags FU s i = some ((acs abe s i : Nat) : Int) := by
  unfold ags afh
  have hc := clampN_le i s.length
  rw [clamp_int, skip_gen abe s (abt FU s) ?_ ?_ ?_ (s.length - alx i s.length) _ FU omg (by rw [akf]; omega)]
  · rfl
  · intro fk; rw [abt, if_neg omg]; rfl
  · intro fk k hk h; rw [abt, if_pos omg, gok, char_blank, h]; rfl
  · intro fk k hk h; rw [abt, if_pos omg, gok, char_blank, h, zab, zab, cond_true, gok]
def rdw (p : UInt8 → Bool) (l : Str) : Str := (l.reverse.dropWhile p).reverse
theorem rdw_cons (p : UInt8 → Bool) (c : UInt8) (l : Str) : rdw p (c :: l) = if rdw p l = [] then (if p c then [] else [c]) else c :: rdw p l := by
  unfold rdw
  rw [List.reverse_cons, List.dropWhile_append]
  cases h : l.reverse.dropWhile p with
  | nil => cases hp : p c <;> simp [hp]
  | cons a t => simp
theorem rdw_comm (p : UInt8 → Bool) : ∀ l : Str, (rdw p l).dropWhile p = rdw p (l.dropWhile p)
  | [] => rfl
  | c :: l => by
    have ih := rdw_comm p l
    cases hp : p c
    · have e : List.dropWhile p (c :: l) = c :: l := by simp [hp]
      rw [e, rdw_cons]
      split <;> simp [hp]
    · have e : List.dropWhile p (c :: l) = l.dropWhile p := by simp [hp]
      rw [e, ← ih, rdw_cons]
      split
      · rename_i h; simp [h, hp]
      · simp [hp]
def ald (s : Str) : Str := rdw abe (s.dropWhile abe)
theorem blank_set : (fun c => ([32, 9] : Str).contains c) = abe := by
  funext c; revert c; exact act _ (by decide +kernel)
theorem trimS_eq (s : Str) : Lib.trimS s [32, 9] = ald s := by
  unfold Lib.trimS Lib.trimLeftS Lib.trimRightS ald
  rw [blank_set]; exact rdw_comm abe s
theorem trim_eq (s : Str) (hs : s.length ≤ 4194304) : ahi FU s = some (ald s) := by
  unfold ahi
  rw [gok, aad (by decide), trimS_eq]
theorem rdw_len (p : UInt8 → Bool) (l : Str) : (rdw p l).length ≤ l.length := by
  unfold rdw; have := aod p l.reverse; simpa using this
theorem trimL_len (s : Str) : (ald s).length ≤ s.length := Nat.le_trans (rdw_len _ _) (aod _ _)
def unqL : Str → Nat → Str → Str × Int × UInt8
  | [], k, _ => ([], (k : Int), 6)
  | [c], k, acc => if c = 34 then (acc, ((k + 1 : Nat) : Int), 0) else if c = 92 then ([], ((k + 1 : Nat) : Int), 6) else if adn c then ([], (k : Int), 5) else ([], ((k + 1 : Nat) : Int), 6)
  | c :: d :: r, k, acc =>
    if c = 34 then (acc, ((k + 1 : Nat) : Int), 0)
    else if c = 92 then (if escapedB d then unqL r (k + 2) (acc ++ [d]) else ([], (k : Int), 5))
    else if adn c then ([], (k : Int), 5) else unqL (d :: r) (k + 1) (acc ++ [c])
theorem unqL_cons (c : UInt8) (l : Str) (k : Nat) (acc : Str) : unqL (c :: l) k acc =
    if c = 34 then (acc, ((k + 1 : Nat) : Int), 0)
    else if c = 92 then (if l = [] then ([], ((k + 1 : Nat) : Int), 6) else if escapedB (at_ l 0) then unqL (l.drop 1) (k + 2) (acc ++ [at_ l 0]) else ([], (k : Int), 5))
    else if adn c then ([], (k : Int), 5) else unqL l (k + 1) (acc ++ [c]) := by
  cases l with
  | nil => simp [unqL]
  | cons d r => simp [unqL, at_]
def unqP8 (s : Str) (i : Int) : Str × Int × UInt8 :=
  if i < 0 ∨ (s.length : Int) < i then ([], 0, 2)
  else if i = (s.length : Int) ∨ at_ s i ≠ 34 then ([], i, 5)
  else unqL (s.drop (i.toNat + 1)) (i.toNat + 1) []
theorem at_drop1 (s : Str) (k : Nat) : at_ (s.drop k) 0 = at_ s (k : Int) := by simp [at_]
theorem drop_nil_iff (s : Str) (k : Nat) : s.drop k = [] ↔ s.length ≤ k := by rw [List.drop_eq_nil_iff]
def unqFin (s : Str) (j : ((Str × Int) ⊕ (Str × Int × UInt8))) : Option (Str × Int × UInt8) :=
  zaz (fun (v : (Str × Int)) => (if (s.length : Int) ≤ v.2 then some (([] : Str), (s.length : Int), (6 : UInt8)) else (gd (acy (v.2 + (1 : Int))) <| some (v.1, v.2 + (1 : Int), (0 : UInt8))))) (fun q => some q) j
theorem unq_lp (s : Str) (hs : s.length ≤ 4194304) (n : Nat) : ∀ (k fk : Nat) (acc : Str), s.length - k ≤ n → n < fk → k ≤ s.length → acc.length ≤ k →
    ((aec FU s fk acc (k : Int)).bind (unqFin s)) = some (unqL (s.drop k) k acc) := by
  induction n with
  | zero =>
    intro k fk acc hn hf hk ha
    obtain ⟨fk, rfl⟩ := fkx fk
    obtain rfl : k = s.length := by omega
    rw [aec, if_neg omg, List.drop_length, zab]
    unfold unqFin
    rw [zau, if_pos (by simp)]; rfl
  | succ n ih =>
    intro k fk acc hn hf hk ha
    obtain ⟨fk, rfl⟩ := fkx fk
    by_cases hl : k < s.length
    · rw [drop_at s k hl, unqL_cons, aec, if_pos omg, gok]
      by_cases h1 : at_ s (k : Int) = 34
      · rw [if_pos h1, if_pos h1, zab]
        unfold unqFin
        rw [zau, if_neg (by simp; omega), aad (aiq _ (by simp; omega) (by simp; omega))]; rfl
      · rw [if_neg h1, if_neg h1]
        by_cases h2 : at_ s (k : Int) = 92
        · rw [if_pos h2, if_pos h2, gok]
          by_cases h3 : k + 1 = s.length
          · rw [if_pos omg, if_pos ((drop_nil_iff s (k + 1)).2 omg), zab]
            unfold unqFin
            rw [Sum.elim_inr, h3]
          · rw [if_neg omg, if_neg (fun h => h3 (by have := (drop_nil_iff s (k + 1)).1 h; omega)), gok, gok, char_escaped, zab, at_drop1, anc]
            cases h4 : escapedB (at_ s ((k + 1 : Nat) : Int))
            · rfl
            · rw [zar, cond_false, if_pos rfl, gok, gok, gok, gok, List.drop_drop, anc,
                ih (k + 1 + 1) fk _ omg omg omg (by simp; omega)]
        · rw [if_neg h2, if_neg h2, char_control, zab]
          cases h4 : adn (at_ s (k : Int))
          · rw [cond_false, if_neg (by decide), gok, gok, gok, anc, ih (k + 1) fk _ omg omg omg (by simp; omega)]
          · rfl
    · obtain rfl : k = s.length := by omega
      rw [aec, if_neg omg, List.drop_length, zab]
      unfold unqFin
      rw [zau, if_pos (by simp)]; rfl
theorem unquote_eq (s : Str) (hs : s.length ≤ 4194304) (i : Int) : ajm FU s i = some (unqP8 s i) := by
  unfold ajm unqP8
  by_cases h1 : i < 0
  · rw [if_pos h1, if_pos (show i < 0 ∨ (s.length : Int) < i from .inl h1)]; rfl
  · rw [if_neg h1, zab]
    by_cases h2 : (s.length : Int) < i
    · rw [decide_eq_true h2, if_pos (show i < 0 ∨ (s.length : Int) < i from .inr h2)]; rfl
    · rw [decide_eq_false h2, cond_false, if_neg (show ¬ (i < 0 ∨ (s.length : Int) < i) by omega)]
      by_cases h3 : i = (s.length : Int)
      · rw [if_pos h3, if_pos (show i = (s.length : Int) ∨ at_ s i ≠ 34 from .inl h3)]; rfl
      · rw [if_neg h3, gok, zab]
        by_cases h4 : at_ s i = 34
        · rw [decide_eq_true h4, zar, cond_false, if_neg (by simp [h3, h4]), gok]
          obtain ⟨k, rfl⟩ : ∃ k : Nat, i = (k : Int) := ⟨i.toNat, by omega⟩
          exact unq_lp s hs s.length (k + 1) FU [] omg (by rw [akf]; omega) omg (by simp)
        · rw [decide_eq_false h4, if_pos (show i = (s.length : Int) ∨ at_ s i ≠ 34 from .inr h4)]; rfl
theorem all_gen {β : Type} (p : UInt8 → Bool) (s : Str) (r : β) (F : Nat → Int → Option (Unit ⊕ β))
    (h0 : ∀ fk, F (fk + 1) (s.length : Int) = some (.inl ()))
    (h1 : ∀ fk (k : Nat), k < s.length → p (at_ s k) = false → F (fk + 1) (k : Int) = some (.inr r))
    (h2 : ∀ fk (k : Nat), k < s.length → p (at_ s k) = true → F (fk + 1) (k : Int) = F fk ((k : Int) + 1)) (n : Nat) :
    ∀ (k fk : Nat), k + n = s.length → n < fk → F fk (k : Int) = some (if (s.drop k).all p = true then .inl () else .inr r) := by
  induction n with
  | zero =>
    intro k fk hk hf
    obtain ⟨fk, rfl⟩ := fkx fk
    obtain rfl : k = s.length := by omega
    rw [h0, List.drop_length]; rfl
  | succ n ih =>
    intro k fk hk hf
    obtain ⟨fk, rfl⟩ := fkx fk
    rw [drop_at s k omg, List.all_cons]
    cases h : p (at_ s k)
    · rw [h1 fk k omg h]; rfl
    · rw [h2 fk k omg h, anc, ih (k + 1) fk omg omg]; simp
theorem all_gen0 {β : Type} (p : UInt8 → Bool) (s : Str) (hs : s.length ≤ 4194304) (r : β) (F : Nat → Int → Option (Unit ⊕ β))
    (h0 : ∀ fk, F (fk + 1) (s.length : Int) = some (.inl ()))
    (h1 : ∀ fk (k : Nat), k < s.length → p (at_ s k) = false → F (fk + 1) (k : Int) = some (.inr r))
    (h2 : ∀ fk (k : Nat), k < s.length → p (at_ s k) = true → F (fk + 1) (k : Int) = F fk ((k : Int) + 1)) : F FU 0 = some (if s.all p = true then .inl () else .inr r) := by
  have := all_gen p s r F h0 h1 h2 s.length 0 FU omg (by rw [akf]; omega)
  rw [List.drop_zero] at this
  exact this
theorem adLower_lp (s : Str) (hs : s.length ≤ 4194304) (l : Str) : ∀ (p : Str) (fk : Nat), p.length + l.length = s.length → l.length < fk →
    aeu FU s fk (p ++ l) (p.length : Int) = some (p ++ l.map afc) := by
  induction l with
  | nil =>
    intro p fk hk hf
    obtain ⟨fk, rfl⟩ := fkx fk
    simp only [zas] at hk
    rw [aeu, if_neg omg]; rfl
  | cons c l ih0 =>
    intro p fk hk hf
    obtain ⟨fk, rfl⟩ := fkx fk
    simp only [zah] at hk hf
    have hb := mid_lt p c l
    have ih := ih0 (p ++ [afc c]) fk (by rw [zag, zai]; omega) omg
    have ok : acy ((p.length : Int) + 1) := aiq _ omg omg
    rw [aeu, if_pos omg]
    simp only [aad hb, at_mid, aad ok, set_mid]
    by_cases h1 : 65 ≤ c
    · by_cases h2 : c ≤ 90
      · simp only [if_pos h1, decide_eq_true h2, zab, cond_true, lowerB_up c h1 h2]
        rw [akt p (afc c), ih]; simp
      · simp only [if_pos h1, decide_eq_false h2, zab, cond_false]
        rw [alv c (fun h => h2 h.2)] at ih
        rw [akt p c, show p ++ c :: l = (p ++ [c]) ++ l by simp, ih]; simp [alv c (fun h => h2 h.2)]
    · simp only [if_neg h1, zab, cond_false]
      rw [alv c (fun h => h1 h.1)] at ih
      rw [akt p c, show p ++ c :: l = (p ++ [c]) ++ l by simp, ih]; simp [alv c (fun h => h1 h.1)]
theorem aml (s : Str) (hs : s.length ≤ 4194304) : adp FU s = some (abr s) := by
  unfold adp
  have := adLower_lp s hs s [] FU (by simp) (by rw [akf]; omega)
  simp only [List.nil_append, zas, Int.natCast_zero, Int.cast_ofNat_Int] at this
  rw [this]; rfl
theorem ad_letter (c : UInt8) : ahd FU c = some (letterB c) := by revert c; exact act _ (by decide +kernel)
theorem ad_digit (c : UInt8) : afv FU c = some (aek c) := by revert c; exact act _ (by decide +kernel)
theorem ad_hex' : ∀ c : UInt8, (ahk FU c).map (·.2) = some (hexB c) := act _ (by decide +kernel)
theorem ad_hex (c : UInt8) : ∃ v, ahk FU c = some (v, hexB c) := by
  obtain ⟨⟨v, b⟩, h1, h2⟩ := Option.map_eq_some_iff.1 (ad_hex' c)
  exact ⟨v, by rw [h1, ← h2]⟩
def psp (y : Str) (l : List Str) : List Str := match l with | x :: r => (y ++ x) :: r | [] => [y]
theorem amm (c : UInt8) (l : Str) : spl c (c :: l) = [] :: spl c l := by rw [spl, if_pos rfl]
theorem alh (c b : UInt8) (l : Str) (h : b ≠ c) : spl c (b :: l) = psp [b] (spl c l) := by
  rw [spl, if_neg h]
  cases spl c l <;> rfl
open Bool renaming not_false → zaA, not_true → zar
open Go.Lib renaming index → zap, join → zaw
open Sum renaming elim_inl → zau
theorem cnd2 {α β : Type} (v : α) (b : Bool) (A B : β) : (bif !(v, b).2 then A else B) = bif !b then A else B := rfl
theorem glist_lp1 (l : List Str) (x : Int) (hg : (el l x).length ≤ 4194304) : adb FU l x FU 0 = some (if (el l x).all hexB = true then .inl () else .inr ([], false)) := by
  refine all_gen0 hexB (el l x) hg (([] : List Str), false) (adb FU l x) ?_ ?_ ?_
  · intro fk; rw [adb, if_neg omg]
  · intro fk k hk h
    obtain ⟨v, h3⟩ := ad_hex (at_ (el l x) k)
    rw [h] at h3
    rw [adb, if_pos omg, gok, h3]
    simp only [zab, zaA, cond_true]
  · intro fk k hk h
    obtain ⟨v, h3⟩ := ad_hex (at_ (el l x) k)
    rw [h] at h3
    rw [adb, if_pos omg, gok, h3, zab, cnd2, zar, cond_false, gok]
theorem glist_lp (s : Str) (hs : s.length ≤ 4194304) (n : Nat) : ∀ (k fk : Nat), k + n = (spl 58 s).length → n < fk → ((spl 58 s).take k).all akv = true →
    adc FU s fk (anf (spl 58 s) k) (k : Int) = some (if (spl 58 s).all akv = true then .inl ((spl 58 s).map amo) else .inr ([], false)) := by
  have hb := spl_sum 58 s
  induction n with
  | zero =>
    intro k fk hk hf hp
    obtain ⟨fk, rfl⟩ := fkx fk
    obtain rfl : k = (spl 58 s).length := by omega
    rw [List.take_length] at hp
    rw [adc, if_neg omg, if_pos hp, grpMix_all]
  | succ n ih =>
    intro k fk hk hf hp
    obtain ⟨fk, rfl⟩ := fkx fk
    have hlt : k < (spl 58 s).length := by omega
    have hml := grpMix_len (spl 58 s) k omg
    have hin : (0 : Int) ≤ (k : Int) ∧ (k : Int) < ((anf (spl 58 s) k).length : Int) := by omega
    have he := grp_el (spl 58 s) k hlt
    have hel : (el (spl 58 s) (k : Int)).length ≤ 4194304 := Nat.le_trans (hb.2 _ (el_mem' _ k hlt)) hs
    have fail : akv (el (spl 58 s) (k : Int)) = false → (spl 58 s).all akv = false := fun h => all_false_at' akv _ k hlt h
    rw [adc, if_pos omg, aad hin, aad hin, he]
    by_cases h1 : ((el (spl 58 s) (k : Int)).length : Int) < 1
    · rw [if_pos h1, fail (grpOk_no1 _ (.inl h1))]; rfl
    · rw [if_neg h1, zab]
      by_cases h2 : 4 < ((el (spl 58 s) (k : Int)).length : Int)
      · rw [decide_eq_true h2, fail (grpOk_no1 _ (.inr h2))]; rfl
      · rw [decide_eq_false h2, cond_false, glist_lp1 _ _ (by rw [he]; exact hel), he, zab]
        cases hx : (el (spl 58 s) (k : Int)).all hexB with
        | false => rw [fail (grpOk_no2 _ hx)]; rfl
        | true =>
          have hok := grpOk_yes _ h1 h2 hx
          rw [if_pos rfl, zau, aml _ hel, zab, aad (by simp [abr]; omega), aad (by decide)]
          have step : ∀ v, v = amo (el (spl 58 s) (k : Int)) → adc FU s fk (zae (anf (spl 58 s) k) (zac (k : Int)) v) ((k : Int) + 1) = some (if (spl 58 s).all akv = true then .inl ((spl 58 s).map amo) else .inr ([], false)) := fun v hv => by
            rw [← grp_step (spl 58 s) k v hlt hv, anc]
            exact ih (k + 1) fk omg omg (all_take_snoc' akv _ k hlt hp hok)
          have ok : acy ((k : Int) + 1) := aiq _ omg omg
          by_cases hz : Lib.trimLeftS (abr (el (spl 58 s) (k : Int))) [48] = []
          · rw [if_pos hz, aad hin, aad hin, zab, zau, aad ok, step [48] (grpN_zero _ hz)]
          · rw [if_neg hz, aad hin, aad hin, zab, zau, aad ok, step (Lib.trimLeftS (abr (el (spl 58 s) (k : Int))) [48]) (grpN_else _ hz)]
theorem glist_eq (s : Str) (hs : s.length ≤ 4194304) : aev FU s = some (afs s) := by
  have hb := spl_sum 58 s
  have := glist_lp s hs (spl 58 s).length 0 FU omg (by rw [akf]; omega) rfl
  rw [grpMix_zero] at this
  have this' : adc FU s FU (spl 58 s) (0 : Int) = _ := this
  unfold aev
  rw [aad omg, this', zab]
  cases ha : (spl 58 s).all akv with
  | false => rw [grpList_no s ha]; rfl
  | true => rw [grpList_yes s ha]; rfl
theorem glist0 (x : Str) (hx : x.length ≤ 4194304) : (if x = ([] : Str) then some (([] : List Str), true) else ((aev FU x).bind fun (y49 : ((List Str) × Bool)) => some (y49.1, y49.2))) = some (ais x) := by
  by_cases h : x = []
  · rw [if_pos h, grpL0_nil x h]
  · rw [if_neg h, grpL0_else x h, glist_eq x hx]; rfl
theorem grpL0_bd (x : Str) : (ais x).1.length ≤ x.length + 1 ∧ ∀ y ∈ (ais x).1, y.length ≤ 4 := by
  unfold ais
  split
  · simp
  · exact ans x
theorem joinL0 (x : Str) (h : x.length ≤ 4194304) : (zaw (ais x).1 [58]).length ≤ 24000000 := by
  have h1 := grpL0_bd x
  have h2 := ana [58] 4 (ais x).1 h1.2
  simp only [zai] at h2
  omega
theorem adGroups_eq (s : Str) : aiv FU s = some (aku s) := by
  unfold aiv aku
  by_cases h39 : 39 < s.length
  · rw [if_pos omg, if_pos h39]
  · rw [if_neg omg, if_neg h39, aad omg]
    have hc := cut_len s [58, 58]
    cases hd : (Lib.cut s [58, 58]).2.2 with
    | false =>
      have h1 := ans s
      rw [zaA, cond_true, if_pos rfl, glist_eq s omg, zab, aad ⟨by omega, join_grp s omg⟩]
      cases h2 : (afs s).2 <;> rfl
    | true =>
      rw [zar, cond_false, glist0 _ omg, zab, glist0 _ omg, zab, if_neg (show ¬ (true = false) by decide)]
      have b1 := grpL0_bd (Lib.cut s [58, 58]).1
      have b2 := grpL0_bd (Lib.cut s [58, 58]).2.1
      have j1 := joinL0 (Lib.cut s [58, 58]).1 omg
      have j2 := joinL0 (Lib.cut s [58, 58]).2.1 omg
      cases h1 : (ais (Lib.cut s [58, 58]).1).2
      · simp
      · cases h2 : (ais (Lib.cut s [58, 58]).2.1).2
        · simp
        · rw [zar, cond_false, cond_false, gok, zab, Bool.or_false, Bool.false_or]
          by_cases h7 : 7 < ((ais (Lib.cut s [58, 58]).1).1.length : Int) + ((ais (Lib.cut s [58, 58]).2.1).1.length : Int)
          · rw [decide_eq_true h7, if_pos rfl]; rfl
          · rw [decide_eq_false h7, if_neg (by decide), cond_false, aad ⟨by omega, by omega⟩, aad (by simp only [zah, zas]; omega), aad ⟨by omega, by omega⟩, aad (by simp only [zag, zah, zas]; omega)]
theorem index_ge (p : Str) : ∀ l : Str, -1 ≤ zap l p
  | [] => by unfold zap; split <;> omega
  | b :: l => by
    have := index_ge p l
    rw [zap]
    split
    · omega
    · split
      · omega
      · omega
theorem anr (p : Str) (b : UInt8) (l : Str) : zap (b :: l) p = if p.isPrefixOf (b :: l) = true then 0 else if zap l p = -1 then -1 else zap l p + 1 := by
  rw [zap]
  split
  · rfl
  · by_cases h : zap l p = -1
    · rw [if_pos h, if_pos (by simpa using h)]
    · rw [if_neg h, if_neg (by simpa using h)]
theorem cut_eq (s p : Str) : Lib.cut s p = if zap s p = -1 then (s, [], false) else (s.take (zap s p).toNat, s.drop ((zap s p).toNat + p.length), true) := by
  unfold Lib.cut
  have := index_ge p s
  by_cases h : zap s p = -1
  · rw [if_pos h, if_neg omg]
  · rw [if_neg h, if_pos omg]
open Bool renaming not_false → zaA, not_true → zar, true_and → zav
open Go.Lib renaming index → zap
open List renaming append_nil → zaC, length_append → zag, length_cons → zah, length_drop → zay, length_singleton → zai, length_take → zaj
theorem dig_sub (c : UInt8) (h : aek c = true) : (c - 48).toNat = c.toNat - 48 ∧ c.toNat ≤ 57 ∧ 48 ≤ c.toNat := by
  have hc := (digitB_iff c).1 h
  have h48 : (48 : UInt8) ≤ c := by rw [UInt8.le_iff_toNat_le]; show 48 ≤ c.toNat; omega
  exact ⟨by rw [UInt8.toNat_sub_of_le _ _ h48]; rfl, by omega, by omega⟩
theorem nums_lp1 (s : Str) (x : Int) (hg : (el (spl 46 s) x).length ≤ 15) (l : Str) : ∀ (p : Str) (fk : Nat), el (spl 46 s) x = p ++ l → l.length < fk → p.all aek = true →
    adz FU s x fk (agr p : Int) (p.length : Int) = some (if l.all aek = true then .inl (agr (el (spl 46 s) x) : Int) else .inr false) := by
  induction l with
  | nil =>
    intro p fk h hf hp
    obtain ⟨fk, rfl⟩ := fkx fk
    rw [zaC] at h
    rw [adz, if_neg (by rw [h]; omega), h]; rfl
  | cons c l ih =>
    intro p fk h hf hp
    obtain ⟨fk, rfl⟩ := fkx fk
    have hl := congrArg List.length h
    simp only [zag, zah] at hl hf
    have hb : (0 : Int) ≤ (p.length : Int) ∧ (p.length : Int) < ((el (spl 46 s) x).length : Int) := by omega
    have ha : at_ (el (spl 46 s) x) (p.length : Int) = c := by rw [h, at_mid]
    have hv := decVal_lt 14 p omg hp
    rw [adz, if_pos hb.2, aad hb, ha, ad_digit, zab, List.all_cons]
    cases hc : aek c with
    | false => rfl
    | true =>
      have hd := dig_sub c hc
      rw [zar, cond_false, hd.1, aad (aiq _ omg omg), aad hb, aad (aiq _ omg omg), aad (aiq _ omg omg), zav]
      have e : (10 : Int) * (agr p : Int) + ((c.toNat - 48 : Nat) : Int) = (agr (p ++ [c]) : Int) := by rw [aoe]; omega
      rw [e, akt p c]
      exact ih (p ++ [c]) fk (by rw [h]; simp) omg (by rw [List.all_append, hp]; simpa using hc)
theorem nums_lp (s : Str) (hs : s.length ≤ 15) (n : Nat) : ∀ (k fk : Nat), k + n = (spl 46 s).length → n < fk →
    aea FU s fk (k : Int) = some (if ((spl 46 s).drop k).all octOk = true then .inl () else .inr false) := by
  have hb := spl_sum 46 s
  induction n with
  | zero =>
    intro k fk hk hf
    obtain ⟨fk, rfl⟩ := fkx fk
    obtain rfl : k = (spl 46 s).length := by omega
    rw [aea, if_neg omg, List.drop_length]; rfl
  | succ n ih =>
    intro k fk hk hf
    obtain ⟨fk, rfl⟩ := fkx fk
    have hlt : k < (spl 46 s).length := by omega
    have hin : (0 : Int) ≤ (k : Int) ∧ (k : Int) < ((spl 46 s).length : Int) := by omega
    have hel : (el (spl 46 s) (k : Int)).length ≤ 15 := Nat.le_trans (hb.2 _ (el_mem' _ k hlt)) hs
    have hd : (spl 46 s).drop k = el (spl 46 s) (k : Int) :: (spl 46 s).drop (k + 1) := by rw [el_nat _ _ hlt, List.drop_eq_getElem_cons hlt]
    have h1 := nums_lp1 s (k : Int) hel (el (spl 46 s) (k : Int)) [] FU (by simp) (by rw [akf]; omega) rfl
    have h1' : adz FU s (k : Int) FU (0 : Int) (0 : Int) = _ := h1
    rw [aea, if_pos omg, aad hin, aad hin, h1', zab, hd, List.all_cons]
    cases hx : (el (spl 46 s) (k : Int)).all aek with
    | false => rw [octOk_no1 _ hx]; rfl
    | true =>
      have hv := decVal_lt 15 _ hel hx
      rw [if_pos rfl, zau]
      by_cases h2 : el (spl 46 s) (k : Int) = []
      · rw [if_pos h2, octOk_no2 _ (.inl (.inl h2))]; rfl
      · rw [if_neg h2]
        by_cases h3 : 255 < (agr (el (spl 46 s) (k : Int)) : Int)
        · rw [if_pos h3, octOk_no2 _ (.inl (.inr h3))]; rfl
        · rw [if_neg h3, aad (aiq _ omg omg), zab]
          by_cases h4 : el (spl 46 s) (k : Int) = Lib.itoa (agr (el (spl 46 s) (k : Int)) : Int)
          · rw [decide_eq_true h4, zar, cond_false, zab, zau, aad (aiq _ omg omg), octOk_yes _ hx h2 h3 h4, zav]
            exact ih (k + 1) fk omg omg
          · rw [decide_eq_false h4, octOk_no2 _ (.inr h4)]; rfl
theorem adNumbers_eq (s : Str) : aib FU s = some (numsP s) := by
  unfold aib
  by_cases h : 15 < (s.length : Int)
  · rw [if_pos h, numsP_long s h]
  · have hb := spl_sum 46 s
    have := nums_lp s omg (spl 46 s).length 0 FU omg (by rw [akf]; omega)
    rw [List.drop_zero] at this
    have this' : aea FU s FU (0 : Int) = _ := this
    rw [if_neg h, aad omg, this', zab]
    cases ha : (spl 46 s).all octOk with
    | false => rw [numsP_no s ha]; rfl
    | true => rw [numsP_fin s h ha]; rfl
def labB (c : UInt8) : Bool := letterB c || aek c || c == 45
def anl (x : Str) : Bool := decide (1 ≤ x.length) && decide (x.length ≤ 63) && !(at_ x 0 == 45) && !(at_ x ((x.length : Int) - 1) == 45) && x.all labB
def labW (x : Str) : Bool := x.any (fun c => !aek c)
def badL (x : Str) : Bool := decide ((x.length : Int) < 1) || decide (63 < (x.length : Int)) || (at_ x 0 == 45) || (at_ x ((x.length : Int) - 1) == 45)
theorem lab_bad (x : Str) : anl x = (!badL x && x.all labB) := by
  unfold anl badL
  have e1 : decide (1 ≤ x.length) = !decide ((x.length : Int) < 1) := by rw [Bool.eq_iff_iff]; simp; omega
  have e2 : decide (x.length ≤ 63) = !decide (63 < (x.length : Int)) := by rw [Bool.eq_iff_iff]; simp; omega
  rw [e1, e2]
  simp [Bool.not_or, Bool.and_assoc]
theorem badL_eq (x : Str) (hx : x.length ≤ 4194304) : (if (x.length : Int) < (1 : Int) then some true else (if (63 : Int) < (x.length : Int) then some true else (gd (0 ≤ (0 : Int) ∧ (0 : Int) < (x.length : Int)) <| (if (at_ x (0 : Int)) = (45 : UInt8) then some true else (gd (acy ((x.length : Int) - (1 : Int))) <| (gd (0 ≤ ((x.length : Int) - (1 : Int)) ∧ ((x.length : Int) - (1 : Int)) < (x.length : Int)) <| some (decide ((at_ x ((x.length : Int) - (1 : Int))) = (45 : UInt8))))))))) = some (badL x) := by
  unfold badL
  by_cases h1 : (x.length : Int) < 1
  · rw [if_pos h1, decide_eq_true h1]; rfl
  · rw [if_neg h1, decide_eq_false h1, Bool.false_or]
    by_cases h2 : 63 < (x.length : Int)
    · rw [if_pos h2, decide_eq_true h2]; rfl
    · rw [if_neg h2, decide_eq_false h2, Bool.false_or, aad omg]
      by_cases h3 : at_ x 0 = 45
      · rw [if_pos h3, show (at_ x 0 == 45) = true by simpa using h3]; rfl
      · rw [if_neg h3, show (at_ x 0 == 45) = false by simpa using h3, Bool.false_or, aad (aiq _ omg omg), aad omg]; rfl
theorem ad_nlab (c : UInt8) : ((ahd FU c).bind fun (y365 : Bool) => (bif (!y365) then ((afv FU c).bind fun (y371 : Bool) => (bif (!y371) then some (!decide (c = (45 : UInt8))) else some false)) else some false)) = some (!labB c) := by
  rw [ad_letter, ad_digit]
  unfold labB
  by_cases h : c = 45
  · subst h; rfl
  · rw [show (c == 45) = false by simpa using h, decide_eq_false h]
    cases letterB c <;> cases aek c <;> rfl
theorem named_lp1 (x : Str) (hx : x.length ≤ 4194304) (r : Bool) (l : Str) : ∀ (p : Str) (fk : Nat) (w : Bool), x = p ++ l → l.length < fk →
    (l.all labB = true → abx FU x r fk (p.length : Int) w = some (0, w || labW l, r)) ∧ (l.all labB = false → ∃ b, abx FU x r fk (p.length : Int) w = some (1, b, false)) := by
  induction l with
  | nil =>
    intro p fk w h hf
    obtain ⟨fk, rfl⟩ := fkx fk
    rw [zaC] at h
    refine ⟨fun _ => ?_, fun h => by cases h⟩
    rw [abx, if_neg (by rw [h]; omega)]; simp [labW]
  | cons c l ih =>
    intro p fk w h hf
    obtain ⟨fk, rfl⟩ := fkx fk
    have hl := congrArg List.length h
    simp only [zag, zah] at hl hf
    have hb : (0 : Int) ≤ (p.length : Int) ∧ (p.length : Int) < (x.length : Int) := by omega
    have ha : at_ x (p.length : Int) = c := by rw [h, at_mid]
    have ok : acy ((p.length : Int) + 1) := aiq _ omg omg
    have hih := ih (p ++ [c]) fk (w || !aek c) (by rw [h]; simp) omg
    rw [← akt p c] at hih
    rw [abx, if_pos hb.2, aad hb, ha, ad_nlab, zab, List.all_cons]
    cases hc : labB c with
    | false => exact ⟨fun h => by simp at h, fun _ => ⟨w, by rw [zaA, cond_true]⟩⟩
    | true =>
      rw [zar, cond_false, zav]
      have e : (bif w then gd (acy ((p.length : Int) + 1)) (abx FU x r fk ((p.length : Int) + 1) true) else (afv FU c).bind fun (y388 : Bool) => gd (acy ((p.length : Int) + 1)) (abx FU x r fk ((p.length : Int) + 1) (!y388))) = abx FU x r fk ((p.length : Int) + 1) (w || !aek c) := by
        cases w with
        | true => rw [cond_true, aad ok, Bool.true_or]
        | false => rw [cond_false, ad_digit, zab, aad ok, Bool.false_or]
      rw [e]
      refine ⟨fun h => ?_, fun h => hih.2 h⟩
      rw [hih.1 h]
      simp [labW, Bool.or_assoc]
theorem named_rd (x : Str) (hx : x.length ≤ 4194304) (w r : Bool) : (anl x = true → aed FU x w r = some (0, w || labW x, r)) ∧ (anl x = false → ∃ b, aed FU x w r = some (1, b, false)) := by
  have hlp := named_lp1 x hx r x [] FU w (by simp) (by rw [akf]; omega)
  unfold aed
  rw [badL_eq x hx, zab, lab_bad]
  cases hb : badL x with
  | true => exact ⟨fun h => by simp at h, fun _ => ⟨w, by rw [cond_true]⟩⟩
  | false =>
    rw [cond_false, zaA, zav]
    exact hlp
theorem index1 (c : UInt8) (f : Str) : (zap f [c] = -1 ∧ spl c f = [f]) ∨ (0 ≤ zap f [c] ∧ zap f [c] < (f.length : Int) ∧ spl c f = f.take (zap f [c]).toNat :: spl c (f.drop ((zap f [c]).toNat + 1))) := by
  induction f with
  | nil => exact .inl ⟨rfl, rfl⟩
  | cons b l ih =>
    rw [anr]
    have e : ([c] : Str).isPrefixOf (b :: l) = (c == b) := by simp [List.isPrefixOf]
    rw [e]
    by_cases h : b = c
    · subst h
      right
      rw [if_pos (by simp), amm]
      refine ⟨Int.le_refl _, by simp only [zah]; omega, by simp⟩
    · rw [if_neg (by simpa using fun x => h x.symm), alh c b l h]
      rcases ih with ⟨h1, h2⟩ | ⟨h1, h2, h3⟩
      · left; rw [if_pos h1, h2]; exact ⟨rfl, rfl⟩
      · right
        rw [if_neg omg, h3]
        have e1 : (zap l [c] + 1).toNat = (zap l [c]).toNat + 1 := by omega
        refine ⟨by omega, by simp only [zah]; omega, ?_⟩
        rw [e1]
        simp [psp]
theorem seq_lp (n : Nat) : ∀ (f : Str) (fk : Nat) (w r : Bool), f.length ≤ n → n < fk → n ≤ 4194304 →
    ∃ w' f' k, ((abc FU [46] 0 fk w r f).bind fun (j115 : ((Bool × Bool × Str) ⊕ (Bool × Bool × Str × Nat))) => zaz (fun (v117 : (Bool × Bool × Str)) => ((aed FU v117.2.2 v117.1 v117.2.1).bind fun (y190 : (Nat × Bool × Bool)) => (if y190.1 = 0 then some (y190.2.1, y190.2.2, v117.2.2, 0) else some (y190.2.1, y190.2.2, v117.2.2, y190.1)))) (fun q => some q) j115) = some (w', (if (spl 46 f).all anl = true then r else false), f', k) ∧
      (k = if (spl 46 f).all anl = true then 0 else 1) ∧ ((spl 46 f).all anl = true → w' = (w || (spl 46 f).any labW)) := by
  induction n with
  | zero =>
    intro f fk w r hf hn h20
    obtain ⟨fk, rfl⟩ := fkx fk
    obtain rfl : f = [] := List.eq_nil_of_length_eq_zero omg
    have e : zap ([] : Str) [46] = -1 := rfl
    rw [abc, aad (by simp), e, if_pos (by decide), zab, zau]
    obtain ⟨b, hb⟩ := (named_rd [] (by simp) w r).2 rfl
    simp only
    rw [hb, zab, if_neg (by simp)]
    exact ⟨b, [], 1, rfl, rfl, fun h => absurd h (by decide)⟩
  | succ n ih =>
    intro f fk w r hf hn h20
    obtain ⟨fk, rfl⟩ := fkx fk
    rw [abc, aad omg]
    rcases index1 46 f with ⟨h1, h2⟩ | ⟨h1, h2, h3⟩
    · rw [if_pos omg, zab, zau, h2, List.all_cons, List.all_nil, Bool.and_true]
      simp only
      have hr := named_rd f omg w r
      cases hl : anl f with
      | true =>
        rw [hr.1 hl, zab, if_pos rfl]
        exact ⟨_, _, 0, rfl, rfl, fun _ => by simp⟩
      | false =>
        obtain ⟨b, hb⟩ := hr.2 hl
        rw [hb, zab, if_neg (by simp)]
        exact ⟨b, _, 1, rfl, rfl, fun h => by cases h⟩
    · have e0 : zap f [46] + 0 = zap f [46] := by omega
      have e1 : (zap f [46] + ((([46] : Str).length : Nat) : Int)).toNat = (zap f [46]).toNat + 1 := by simp only [zai]; omega
      rw [if_neg omg, e0, aad (aiq _ omg omg), aad omg, h3, List.all_cons]
      have hr := named_rd (f.take (zap f [46]).toNat) (by rw [zaj]; omega) w r
      cases hl : anl (f.take (zap f [46]).toNat) with
      | true =>
        rw [hr.1 hl, zab, if_pos rfl, aad (aiq _ (by simp only [zai]; omega) (by simp only [zai]; omega)), aad (by simp only [zai]; omega), e1, zav]
        obtain ⟨w', f', k, g1, g2, g3⟩ := ih (f.drop ((zap f [46]).toNat + 1)) fk (w || labW (f.take (zap f [46]).toNat)) r (by rw [zay]; omega) omg omg
        exact ⟨w', f', k, g1, g2, fun h => by rw [g3 h, List.any_cons, Bool.or_assoc]⟩
      | false =>
        obtain ⟨b, hb⟩ := hr.2 hl
        rw [hb, zab, if_neg (by simp), zab]
        exact ⟨b, _, 1, rfl, rfl, fun h => by cases h⟩
def anq (s : Str) : Bool := decide (1 ≤ s.length) && decide (s.length ≤ 255) && (spl 46 s).all anl && (spl 46 s).any labW
theorem adNamed_eq (s : Str) (hs : s.length ≤ 4194304) : ajn FU s = some (anq s) := by
  unfold ajn anq
  by_cases h1 : (s.length : Int) < 1
  · rw [if_pos h1, show decide (1 ≤ s.length) = false by (rw [decide_eq_false_iff_not]; omega)]; rfl
  · rw [if_neg h1, show decide (1 ≤ s.length) = true by (rw [decide_eq_true_eq]; omega), zab, zav]
    by_cases h2 : 255 < (s.length : Int)
    · rw [decide_eq_true h2, show decide (s.length ≤ 255) = false by (rw [decide_eq_false_iff_not]; omega)]; rfl
    · rw [decide_eq_false h2, cond_false, show decide (s.length ≤ 255) = true by (rw [decide_eq_true_eq]; omega), zav]
      obtain ⟨w', f', k, g1, g2, g3⟩ := seq_lp s.length s FU false false (Nat.le_refl _) (by rw [akf]; omega) hs
      unfold ajf aje
      rw [zab, zab]
      unfold adq
      rw [if_neg (by simp), zab, zau, g1, zab]
      simp only
      cases ha : (spl 46 s).all anl with
      | true => rw [g2, ha, if_pos rfl, if_pos rfl, g3 ha]; simp
      | false => rw [ha] at g2; rw [g2]; simp
open Bool renaming and_eq_true → zax, not_true → zar, true_and → zav
def numOk (x : Str) : Bool := decide (1 ≤ x.length) && decide (x.length ≤ 3) && !(decide (1 < x.length) && (at_ x 0 == 48)) && x.all aek && decide (agr x ≤ 255)
def dg (n : Fin 10) : UInt8 := UInt8.ofNat (48 + n.val)
theorem dg_of : ∀ c : UInt8, aek c = true → ∃ n : Fin 10, c = dg n := act _ (by decide +kernel)
theorem oct1 : ∀ a : Fin 10, octOk [dg a] = numOk [dg a] := by decide +kernel
theorem oct2 : ∀ a b : Fin 10, octOk [dg a, dg b] = numOk [dg a, dg b] := by decide +kernel
theorem oct3 : ∀ a b c : Fin 10, octOk [dg a, dg b, dg c] = numOk [dg a, dg b, dg c] := by decide +kernel
theorem itoa255 : ∀ n : Fin 256, (Lib.itoa (n.val : Int)).length ≤ 3 := by decide +kernel
theorem oct_num (x : Str) : octOk x = numOk x := by
  cases hd : x.all aek with
  | false => rw [octOk_no1 x hd, numOk, hd]; simp
  | true =>
    have hall := List.all_eq_true.1 hd
    match x, hd, hall with
    | [], _, _ => rfl
    | [a], _, hall =>
      obtain ⟨n, rfl⟩ := dg_of a (hall a (by simp))
      exact oct1 n
    | [a, b], _, hall =>
      obtain ⟨n, rfl⟩ := dg_of a (hall a (by simp))
      obtain ⟨m, rfl⟩ := dg_of b (hall b (by simp))
      exact oct2 n m
    | [a, b, c], _, hall =>
      obtain ⟨n, rfl⟩ := dg_of a (hall a (by simp))
      obtain ⟨m, rfl⟩ := dg_of b (hall b (by simp))
      obtain ⟨k, rfl⟩ := dg_of c (hall c (by simp))
      exact oct3 n m k
    | a :: b :: c :: d :: l, hd, _ =>
      have h1 : numOk (a :: b :: c :: d :: l) = false := by
        unfold numOk
        rw [show decide ((a :: b :: c :: d :: l).length ≤ 3) = false by (rw [decide_eq_false_iff_not]; simp only [zah]; omega)]; simp
      rw [h1]
      by_cases hv : agr (a :: b :: c :: d :: l) ≤ 255
      · refine octOk_no2 _ (.inr fun h => ?_)
        have := itoa255 ⟨agr (a :: b :: c :: d :: l), by omega⟩
        simp only at this
        rw [← h] at this
        simp only [zah] at this
        omega
      · exact octOk_no2 _ (.inl (.inr omg))
def brkB (s : Str) : Bool := decide (2 ≤ s.length) && (at_ s 0 == 91) && (at_ s ((s.length : Int) - 1) == 93)
def acz (s : Str) : Str × Bool :=
  if brkB s = true then (if (aku (sub s 1 ((s.length : Int) - 1))).2 = true then ([91] ++ (aku (sub s 1 ((s.length : Int) - 1))).1 ++ [93], true) else ([], false))
  else if numsP s = true then (s, true) else if anq s = true then (abr s, true) else ([], false)
theorem brk_eq (s : Str) (hs : s.length ≤ 4194304) : (if (2 : Int) ≤ (s.length : Int) then (gd (0 ≤ (0 : Int) ∧ (0 : Int) < (s.length : Int)) <| (if (at_ s (0 : Int)) = (91 : UInt8) then (gd (acy ((s.length : Int) - (1 : Int))) <| (gd (0 ≤ ((s.length : Int) - (1 : Int)) ∧ ((s.length : Int) - (1 : Int)) < (s.length : Int)) <| some (decide ((at_ s ((s.length : Int) - (1 : Int))) = (93 : UInt8))))) else some false)) else some false) = some (brkB s) := by
  unfold brkB
  by_cases h1 : (2 : Int) ≤ (s.length : Int)
  · rw [if_pos h1, show decide (2 ≤ s.length) = true by (rw [decide_eq_true_eq]; omega), zav, aad omg]
    by_cases h2 : at_ s 0 = 91
    · rw [if_pos h2, show (at_ s 0 == 91) = true by simpa using h2, zav, aad (aiq _ omg omg), aad omg]; rfl
    · rw [if_neg h2, show (at_ s 0 == 91) = false by simpa using h2]; rfl
  · rw [if_neg h1, show decide (2 ≤ s.length) = false by (rw [decide_eq_false_iff_not]; omega)]; rfl
theorem brk_len {s : Str} (h : brkB s = true) : 2 ≤ s.length := by
  unfold brkB at h
  simp only [zax, decide_eq_true_eq] at h
  exact h.1.1
theorem grpsP_len (s : Str) : (aku s).1.length ≤ 60000000 := by
  unfold aku
  by_cases h39 : 39 < s.length
  · rw [if_pos h39]; simp
  · rw [if_neg h39]
    have hc := cut_len s [58, 58]
    have j1 := joinL0 (Lib.cut s [58, 58]).1 omg
    have j2 := joinL0 (Lib.cut s [58, 58]).2.1 omg
    split
    · have h1 := ans s
      have h2 := ana [58] 4 (afs s).1 h1.2
      simp only [zai] at h2 ⊢
      omega
    · split
      · simp
      · simp only [zag, zah, zas]; omega
theorem adHost_eq (s : Str) (hs : s.length ≤ 4194304) : afe FU s = some (acz s) := by
  unfold afe acz
  rw [brk_eq s hs, zab]
  cases hb : brkB s with
  | true =>
    have h2 := brk_len hb
    have hl := grpsP_len (sub s 1 ((s.length : Int) - 1))
    rw [cond_true, aad (aiq _ omg omg), aad omg, adGroups_eq, zab, if_pos rfl]
    cases hg : (aku (sub s 1 ((s.length : Int) - 1))).2 with
    | false => rfl
    | true => rw [zar, cond_false, aad (by simp only [zai]; omega), aad (by simp only [zag, zai]; omega), if_pos rfl]
  | false =>
    rw [cond_false, adNumbers_eq, zab, if_neg (show ¬ (false = true) by decide)]
    cases hn : numsP s with
    | true => rfl
    | false =>
      rw [cond_false, adNamed_eq s hs, zab, if_neg (show ¬ (false = true) by decide)]
      cases hm : anq s with
      | true => rw [cond_true, aml s hs]; rfl
      | false => rfl
theorem alz (c : UInt8) (p : UInt8 → Bool) : ∀ s : Str, (∀ x ∈ spl c s, x.all p = true) → ∀ b ∈ s, p b = true ∨ b = c
  | [], _, b, hb => by simp at hb
  | d :: l, h, b, hb => by
    by_cases hd : d = c
    · subst hd
      rw [amm] at h
      rcases List.mem_cons.1 hb with rfl | hb
      · exact .inr rfl
      · exact alz d p l (fun x hx => h x (List.mem_cons_of_mem _ hx)) b hb
    · rw [alh c d l hd] at h
      cases hx : spl c l with
      | nil => exact absurd hx (spl_ne c l)
      | cons y r =>
        rw [hx] at h
        have h0 := h ([d] ++ y) List.mem_cons_self
        rw [List.all_append, zax] at h0
        rcases List.mem_cons.1 hb with rfl | hb
        · left; simpa using h0.1
        · refine alz c p l (fun x hx' => ?_) b hb
          rw [hx] at hx'
          rcases List.mem_cons.1 hx' with rfl | hx'
          · exact h0.2
          · exact h x (List.mem_cons_of_mem _ hx')
theorem num_parts (x : Str) (h : numOk x = true) : 1 ≤ x.length ∧ x.length ≤ 3 ∧ x.all aek = true := by
  unfold numOk at h
  simp only [zax, decide_eq_true_eq] at h
  exact ⟨h.1.1.1.1, h.1.1.1.2, h.1.2⟩
theorem at_mem (x : Str) (k : Nat) (h : k < x.length) : at_ x (k : Int) ∈ x := by
  simp [at_, h]
theorem lowerL_id (s : Str) (h : ∀ b ∈ s, afc b = b) : abr s = s := by
  unfold abr
  conv => rhs; rw [← List.map_id s]
  exact List.map_congr_left fun b hb => h b hb
theorem hostP_len (s : Str) : (acz s).1.length ≤ 60000002 + s.length := by
  have := grpsP_len (sub s 1 ((s.length : Int) - 1))
  unfold acz
  split
  · split
    · simp only [zag, zai]; omega
    · simp
  · split
    · show s.length ≤ _; omega
    · split
      · simp [abr]
      · simp
open Bool renaming and_eq_true → zax, not_false → zaA, not_true → zar
open Go.Lib renaming indexAny → zat
open List renaming length_append → zag, length_cons → zah, length_drop → zay, length_nil → zas, length_singleton → zai
theorem unqL_bd (n : Nat) : ∀ (l : Str) (k : Nat) (acc : Str), l.length ≤ n → (unqL l k acc).1.length ≤ acc.length + l.length ∧ ((unqL l k acc).2.2 = 0 → (k : Int) + 1 ≤ (unqL l k acc).2.1 ∧ (unqL l k acc).2.1 ≤ ((k + l.length : Nat) : Int)) := by
  induction n with
  | zero =>
    intro l k acc hl
    obtain rfl : l = [] := List.eq_nil_of_length_eq_zero omg
    exact ⟨by simp [unqL], fun h => absurd h (show ¬ ((6 : UInt8) = 0) by decide)⟩
  | succ n ih =>
    intro l k acc hl
    cases l with
    | nil => exact ⟨by simp [unqL], fun h => absurd h (show ¬ ((6 : UInt8) = 0) by decide)⟩
    | cons c l =>
      simp only [zah] at hl
      rw [unqL_cons]
      by_cases h1 : c = 34
      · rw [if_pos h1]; exact ⟨by simp, fun _ => ⟨by simp, by simp only [zah]; omega⟩⟩
      · rw [if_neg h1]
        by_cases h2 : c = 92
        · rw [if_pos h2]
          by_cases h3 : l = []
          · rw [if_pos h3]; exact ⟨by simp, fun h => absurd h (show ¬ ((6 : UInt8) = 0) by decide)⟩
          · rw [if_neg h3]
            have hpos : 0 < l.length := List.length_pos_iff.2 h3
            cases h4 : escapedB (at_ l 0) with
            | true =>
              rw [if_pos rfl]
              have := ih (l.drop 1) (k + 2) (acc ++ [at_ l 0]) (by rw [zay]; omega)
              rw [zag, zai, zay] at this
              exact ⟨by simp only [zah]; omega, fun h => ⟨by have := (this.2 h).1; omega, by have := (this.2 h).2; simp only [zah]; omega⟩⟩
            | false => rw [if_neg (by decide)]; exact ⟨by simp, fun h => absurd h (show ¬ ((5 : UInt8) = 0) by decide)⟩
        · rw [if_neg h2]
          cases h4 : adn c with
          | true => rw [if_pos rfl]; exact ⟨by simp, fun h => absurd h (show ¬ ((5 : UInt8) = 0) by decide)⟩
          | false =>
            rw [if_neg (by decide)]
            have := ih l (k + 1) (acc ++ [c]) omg
            rw [zag, zai] at this
            exact ⟨by simp only [zah]; omega, fun h => ⟨by have := (this.2 h).1; omega, by have := (this.2 h).2; simp only [zah]; omega⟩⟩
theorem unqP8_bd (s : Str) (k : Nat) (h34 : at_ s (k : Int) = 34) (hk : k < s.length) : (unqP8 s (k : Int)).1.length ≤ s.length ∧ ((unqP8 s (k : Int)).2.2 = 0 → (k : Int) + 2 ≤ (unqP8 s (k : Int)).2.1 ∧ (unqP8 s (k : Int)).2.1 ≤ (s.length : Int)) := by
  unfold unqP8
  rw [if_neg omg, if_neg (by rintro (h | h); omega; exact h h34)]
  have e : ((k : Int).toNat + 1) = k + 1 := by omega
  rw [e]
  have := unqL_bd _ (s.drop (k + 1)) (k + 1) [] (Nat.le_refl _)
  rw [zay, zas] at this
  exact ⟨by omega, fun h => ⟨by have := (this.2 h).1; omega, by have := (this.2 h).2; omega⟩⟩
theorem anu (s : Str) (hs : s.length ≤ 4194304) (i : Int) : acr FU (s, i) = some (s, ((acs abe s i : Nat) : Int)) := by
  unfold acr; simp only; rw [blanks_eq s hs]; rfl
theorem ended_eq (s : Str) (i : Int) : aep FU (s, i) = some (decide ((s.length : Int) ≤ i)) := rfl
def seesB (s : Str) (k : Nat) (b : UInt8) : Bool := decide (k < s.length) && (at_ s (k : Int) == b)
theorem sees_eq (s : Str) (k : Nat) (b : UInt8) : abl FU (s, (k : Int)) b = some (seesB s k b) := by
  unfold abl seesB
  rw [ended_eq, zab]
  by_cases h : k < s.length
  · rw [decide_eq_false (show ¬ (s.length : Int) ≤ (k : Int) by omega), zaA, cond_true, aad (by simp only; omega), decide_eq_true h]; rfl
  · rw [decide_eq_true (show (s.length : Int) ≤ (k : Int) by omega), decide_eq_false h]; rfl
theorem tokEndP_eq (s : Str) (hs : s.length ≤ 4194304) (i : Int) : afz FU s i = some ((acs abz s i : Nat) : Int) := by
  unfold afz; rw [skipTok_eq s omg]; rfl
theorem akg (p : UInt8 → Bool) (s : Str) (k : Nat) (h : k ≤ s.length) : k ≤ acs p s (k : Int) := by
  unfold acs; rw [aof k _ h]; omega
theorem token2_eq (s : Str) (hs : s.length ≤ 4194304) (k : Nat) (hk : k ≤ s.length) : aeo FU (s, (k : Int)) = some (sub s (k : Int) ((acs abz s (k : Int) : Nat) : Int), (s, ((acs abz s (k : Int) : Nat) : Int))) := by
  have h1 := akg abz s k hk
  have h2 := aht abz s (k : Int)
  unfold aeo
  simp only
  rw [tokEndP_eq s hs, zab, aad omg]
theorem aoa (s : Str) (a b : Nat) (h : b ≤ s.length) (hab : a ≤ b) : sub s (a : Int) (b : Int) = [] ↔ b = a := by
  have := sub_len s (a : Int) (b : Int)
  constructor
  · intro h'; rw [h'] at this; simp at this; omega
  · intro h'; apply List.eq_nil_of_length_eq_zero; rw [this]; omega
theorem span_not_ixb (c : UInt8) (l : Str) : (if (0 : Int) ≤ ixb (· == c) l then ixb (· == c) l else (l.length : Int)) = (ali (fun b => !(b == c)) l : Int) := by
  rcases ixb_spec (· == c) l with ⟨h1, h2⟩ | ⟨h1, h2, h3⟩
  · rw [if_neg omg, h2]
  · rw [if_pos h1, h3]
theorem contains1 (c : UInt8) : (fun b => ([c] : Str).contains b) = (· == c) := by
  funext b
  simp [List.contains_cons]
  rfl
theorem until1_eq (s : Str) (hs : s.length ≤ 4194304) (k : Nat) (hk : k ≤ s.length) (c : UInt8) (hc : c.toNat < 128) : ael FU s (k : Int) [c] = some ((k + ali (fun b => !(b == c)) (s.drop k) : Nat) : Int) := by
  have e : ((k : Nat) : Int).toNat = k := by omega
  have hd : (s.drop k).length = s.length - k := zay
  have h1 := span_not_ixb c (s.drop k)
  have hi : zat (s.drop k) [c] = ixb (· == c) (s.drop k) := by rw [ane, contains1]
  have hsp := ixb_spec (· == c) (s.drop k)
  unfold ael
  rw [aad omg, e, aad ⟨by omega, by simp, by simpa using hc⟩, hi]
  by_cases h : (0 : Int) ≤ ixb (· == c) (s.drop k)
  · rw [if_pos h] at h1 ⊢
    rw [aad (aiq _ omg omg), h1]; rfl
  · rw [if_neg h] at h1 ⊢
    congr 1
    omega
def valP (s : Str) (k : Nat) : Str × Int × UInt8 :=
  if seesB s k 34 = true then unqP8 s (k : Int)
  else if seesB s k 91 = true then
    (if (acz (sub s (k : Int) (min ((k + ali (fun b => !(b == 93)) (s.drop k) : Nat) + 1 : Int) (s.length : Int)))).2 = true then
      ((acz (sub s (k : Int) (min ((k + ali (fun b => !(b == 93)) (s.drop k) : Nat) + 1 : Int) (s.length : Int)))).1, ((k + ali (fun b => !(b == 93)) (s.drop k) : Nat) : Int) + 1, 0) else ([], (k : Int), 5))
  else if acs abz s (k : Int) = k then ([], (k : Int), 5) else (sub s (k : Int) ((acs abz s (k : Int) : Nat) : Int), ((acs abz s (k : Int) : Nat) : Int), 0)
theorem seesB_at {s : Str} {k : Nat} {b : UInt8} (h : seesB s k b = true) : k < s.length ∧ at_ s (k : Int) = b := by
  unfold seesB at h
  simp only [zax, decide_eq_true_eq, beq_iff_eq] at h
  exact h
theorem valP_bd (s : Str) (hs : s.length ≤ 4194304) (k : Nat) (hk : k ≤ s.length) : (valP s k).1.length ≤ 90000000 ∧ ((valP s k).2.2 = 0 → (k : Int) + 1 ≤ (valP s k).2.1 ∧ (valP s k).2.1 ≤ (s.length : Int) + 1) := by
  unfold valP
  have h1 := akg abz s k hk
  have h2 := aht abz s (k : Int)
  have hsp := span_le (fun b => !(b == 93)) (s.drop k)
  rw [zay] at hsp
  split
  · rename_i h
    have := unqP8_bd s k (seesB_at h).2 (seesB_at h).1
    exact ⟨by omega, fun h => ⟨by have := (this.2 h).1; omega, by have := (this.2 h).2; omega⟩⟩
  · split
    · split
      · have hh := hostP_len (sub s (k : Int) (min ((k + ali (fun b => !(b == 93)) (s.drop k) : Nat) + 1 : Int) (s.length : Int)))
        rw [sub_len] at hh
        exact ⟨by simp only; omega, fun _ => ⟨by simp only; omega, by simp only; omega⟩⟩
      · exact ⟨by simp, fun h => absurd h (show ¬ ((5 : UInt8) = 0) by decide)⟩
    · split
      · exact ⟨by simp, fun h => absurd h (show ¬ ((5 : UInt8) = 0) by decide)⟩
      · rename_i h
        exact ⟨by simp only [sub_len]; omega, fun _ => ⟨by simp only; omega, by simp only; omega⟩⟩
theorem lower_nil (l : Str) : abr l = [] ↔ l = [] := by unfold abr; simp
theorem skip_add1 (p : UInt8 → Bool) (s : Str) (y : Nat) : acs p s ((y : Int) + 1) = acs p s ((y + 1 : Nat) : Int) := rfl
def zPrm : Str × Str × Bool := ([], [], false)
def alw (s : Str) (b : Nat) : PQ × Int × UInt8 × (Str × Int) :=
  if acs abz s (b : Int) = b then (zPrm, (b : Int), 5, (s, (b : Int)))
  else if seesB s (acs abe s ((acs abz s (b : Int) : Nat) : Int)) 61 = false then ((abr (sub s (b : Int) ((acs abz s (b : Int) : Nat) : Int)), [], false), 0, 0, (s, ((acs abe s ((acs abz s (b : Int) : Nat) : Int) : Nat) : Int)))
  else if (valP s (acs abe s ((acs abe s ((acs abz s (b : Int) : Nat) : Int) + 1 : Nat) : Int))).2.2 = 0 then ((abr (sub s (b : Int) ((acs abz s (b : Int) : Nat) : Int)), (valP s (acs abe s ((acs abe s ((acs abz s (b : Int) : Nat) : Int) + 1 : Nat) : Int))).1, true), 0, 0, (s, (valP s (acs abe s ((acs abe s ((acs abz s (b : Int) : Nat) : Int) + 1 : Nat) : Int))).2.1))
  else (zPrm, (valP s (acs abe s ((acs abe s ((acs abz s (b : Int) : Nat) : Int) + 1 : Nat) : Int))).2.1, (valP s (acs abe s ((acs abe s ((acs abz s (b : Int) : Nat) : Int) + 1 : Nat) : Int))).2.2, (s, ((acs abe s ((acs abe s ((acs abz s (b : Int) : Nat) : Int) + 1 : Nat) : Int) : Nat) : Int)))
theorem listed_eq (s : Str) (hs : s.length ≤ 4194304) (b : Nat) (hb : b ≤ s.length) : afw FU (s, (b : Int)) = some (alw s b) := by
  unfold afw alw
  have ht1 := akg abz s b hb
  have ht2 := aht abz s (b : Int)
  rw [token2_eq s hs b hb, zab]
  simp only
  generalize ht : acs abz s (b : Int) = t at ht1 ht2 ⊢
  have hy2 := aht abe s (t : Int)
  have hy1 := akg abe s t ht2
  rw [aml _ (by rw [sub_len]; omega), zab]
  by_cases hn : t = b
  · have : abr (sub s (b : Int) (t : Int)) = [] := (lower_nil _).2 ((aoa s b t ht2 ht1).2 hn)
    rw [if_pos this, if_pos hn, hn]; rfl
  · have : ¬ abr (sub s (b : Int) (t : Int)) = [] := fun h => hn ((aoa s b t ht2 ht1).1 ((lower_nil _).1 h))
    rw [if_neg this, if_neg hn, anu s hs, zab]
    generalize hy : acs abe s (t : Int) = y at hy1 hy2 ⊢
    rw [sees_eq, zab]
    cases h61 : seesB s y 61 with
    | false => rw [zaA, cond_true, if_pos rfl]
    | true =>
      rw [zar, cond_false, if_neg (show ¬ (true = false) by decide), gok, anu s hs, zab, skip_add1]
      have hz2 := aht abe s ((y + 1 : Nat) : Int)
      generalize hz : acs abe s ((y + 1 : Nat) : Int) = z at hz2 ⊢
      have hq1 := akg abz s z hz2
      have hq2 := aht abz s (z : Int)
      have hsp := span_le (fun b => !(b == 93)) (s.drop z)
      rw [zay] at hsp
      rw [sees_eq, zab]
      unfold valP
      cases h34 : seesB s z 34 with
      | true =>
        rw [cond_true, if_pos rfl, unquote_eq s hs, zab]
        by_cases he : (unqP8 s (z : Int)).2.2 = 0
        · rw [if_pos he, if_pos he]
        · rw [if_neg he, if_neg he]; rfl
      | false =>
        rw [cond_false, if_neg (show ¬ (false = true) by decide), sees_eq, zab]
        cases h91 : seesB s z 91 with
        | true =>
          rw [cond_true, if_pos rfl, until1_eq s hs z hz2 93 (by decide), zab]
          simp only
          rw [gok, aad omg, adHost_eq _ (by rw [sub_len]; omega), zab]
          cases hh : (acz (sub s (z : Int) (min ((z + ali (fun b => !(b == 93)) (s.drop z) : Nat) + 1 : Int) (s.length : Int)))).2 with
          | false => rw [zaA, cond_true, if_neg (show ¬ (false = true) by decide), if_neg (show ¬ ((5 : UInt8) = 0) by decide)]; rfl
          | true => rw [zar, cond_false, gok, if_pos rfl, if_pos rfl]
        | false =>
          rw [cond_false, if_neg (show ¬ (false = true) by decide), token2_eq s hs z hz2, zab]
          simp only
          by_cases hq : acs abz s (z : Int) = z
          · rw [if_pos ((aoa s z _ hq2 hq1).2 hq), if_pos hq, if_neg (show ¬ ((5 : UInt8) = 0) by decide), hq]; rfl
          · rw [if_neg (fun h => hq ((aoa s z _ hq2 hq1).1 h)), if_neg hq, if_pos rfl]
open List renaming length_append → zag, length_singleton → zai
open Sum renaming elim → zaz
abbrev PP := Str × Str × Bool
theorem find_gen {α : Type} [Inhabited α] (p : α → Bool) (l : List α) (F : Nat → Int → Option (Unit ⊕ Int))
    (h0 : ∀ fk, F (fk + 1) (l.length : Int) = some (.inl ()))
    (h1 : ∀ fk (k : Nat), k < l.length → p (el l k) = true → F (fk + 1) (k : Int) = some (.inr (k : Int)))
    (h2 : ∀ fk (k : Nat), k < l.length → p (el l k) = false → F (fk + 1) (k : Int) = F fk ((k : Int) + 1)) (n : Nat) :
    ∀ (k fk : Nat), k + n = l.length → n < fk → F fk (k : Int) = some (match (l.drop k).findIdx? p with | none => .inl () | some j => .inr ((k + j : Nat) : Int)) := by
  induction n with
  | zero =>
    intro k fk hk hf
    obtain ⟨fk, rfl⟩ := fkx fk
    obtain rfl : k = l.length := by omega
    rw [h0, List.drop_length]; rfl
  | succ n ih =>
    intro k fk hk hf
    obtain ⟨fk, rfl⟩ := fkx fk
    have hlt : k < l.length := by omega
    have hd : l.drop k = el l (k : Int) :: l.drop (k + 1) := by rw [el_nat _ _ hlt, List.drop_eq_getElem_cons hlt]
    rw [hd, List.findIdx?_cons]
    cases h : p (el l (k : Int)) with
    | true => rw [h1 fk k hlt h]; rfl
    | false =>
      rw [h2 fk k hlt h, anc, ih (k + 1) fk omg omg]
      cases (l.drop (k + 1)).findIdx? p with
      | none => rfl
      | some j =>
        show some (Sum.inr _) = some (Sum.inr _)
        congr 2
        show ((k + 1 + j : Nat) : Int) = ((k + (j + 1) : Nat) : Int)
        omega
theorem find_gen0 {α : Type} [Inhabited α] (p : α → Bool) (l : List α) (hl : l.length ≤ 4194304) (F : Nat → Int → Option (Unit ⊕ Int))
    (h0 : ∀ fk, F (fk + 1) (l.length : Int) = some (.inl ()))
    (h1 : ∀ fk (k : Nat), k < l.length → p (el l k) = true → F (fk + 1) (k : Int) = some (.inr (k : Int)))
    (h2 : ∀ fk (k : Nat), k < l.length → p (el l k) = false → F (fk + 1) (k : Int) = F fk ((k : Int) + 1)) : F FU 0 = some (match l.findIdx? p with | none => .inl () | some j => .inr ((j : Nat) : Int)) := by
  have := find_gen p l F h0 h1 h2 l.length 0 FU omg (by rw [akf]; omega)
  rw [List.drop_zero] at this
  have this' : F FU (0 : Int) = _ := this
  rw [this']
  cases l.findIdx? p with
  | none => rfl
  | some j =>
    show some (Sum.inr _) = some (Sum.inr _)
    congr 2
    show ((0 + j : Nat) : Int) = _
    omega
def fIdx (o : Option Nat) : Int := match o with | none => -1 | some j => (j : Int)
theorem fIdx_any {α : Type} (p : α → Bool) (l : List α) : decide ((0 : Int) ≤ fIdx (l.findIdx? p)) = l.any p := by
  rw [← List.findIdx?_isSome]
  cases l.findIdx? p with
  | none => rfl
  | some j => show decide ((0 : Int) ≤ (j : Int)) = true; rw [decide_eq_true_eq]; omega
theorem holds_eq (l : List PP) (hl : l.length ≤ 4194304) (name : Str) : agw FU l name = some (l.any fun p => p.1 == name) := by
  have h := find_gen0 (fun p : PP => p.1 == name) l hl (aav FU l name)
    (fun fk => by rw [aav, if_neg omg])
    (fun fk k hk h => by
      have h' : (el l (k : Int)).1 = name := by simpa using h
      rw [aav, if_pos omg, aad omg, aad omg]
      unfold aic
      rw [zab, decide_eq_true h', cond_true])
    (fun fk k hk h => by
      have h' : ¬ (el l (k : Int)).1 = name := by simpa using h
      rw [aav, if_pos omg, aad omg, aad omg]
      unfold aic
      rw [zab, decide_eq_false h', cond_false, gok])
  unfold agw ada adj
  rw [h, zab]
  have e : zaz (fun (v38 : Unit) => some (-1 : Int)) (fun q => some q) (match l.findIdx? (fun p : PP => p.1 == name) with | none => (Sum.inl () : Unit ⊕ Int) | some j => Sum.inr ((j : Nat) : Int)) = some (fIdx (l.findIdx? (fun p : PP => p.1 == name))) := by
    cases l.findIdx? (fun p : PP => p.1 == name) <;> rfl
  rw [e, zab, fIdx_any]; rfl
def roomB (l : List PP) (name : Str) : UInt8 := if (l.any fun p => p.1 == name) = true then 7 else if 16 ≤ l.length then 4 else 0
theorem room_eq (l : List PP) (hl : l.length ≤ 4194304) (name : Str) : aiy FU l name = some (roomB l name) := by
  unfold aiy roomB
  rw [holds_eq l hl, zab]
  cases l.any fun p => p.1 == name with
  | true => rfl
  | false =>
    rw [cond_false, if_neg (show ¬ (false = true) by decide)]
    by_cases h : 16 ≤ l.length
    · rw [if_pos omg, if_pos h]
    · rw [if_neg omg, if_neg h]
theorem el_mem2 (l : List PP) (k : Nat) (h : k < l.length) : el l (k : Int) ∈ l := el_mem' l k h
def parM (s : Str) : Nat → List PP → Nat → List PP × Int × UInt8
  | 0, _, _ => ([], 0, 0)
  | f + 1, l, i =>
    if s.length ≤ acs abe s (i : Int) then (l, 0, 0)
    else if ¬ at_ s ((acs abe s (i : Int) : Nat) : Int) = 59 then ([], ((acs abe s (i : Int) : Nat) : Int), 5)
    else if (alw s (acs abe s ((acs abe s (i : Int) + 1 : Nat) : Int))).2.2.1 = 0 then
      (if roomB l (alw s (acs abe s ((acs abe s (i : Int) + 1 : Nat) : Int))).1.1 = 0 then parM s f (l ++ [(alw s (acs abe s ((acs abe s (i : Int) + 1 : Nat) : Int))).1]) (alw s (acs abe s ((acs abe s (i : Int) + 1 : Nat) : Int))).2.2.2.2.toNat
       else ([], ((acs abe s ((acs abe s (i : Int) + 1 : Nat) : Int) : Nat) : Int), roomB l (alw s (acs abe s ((acs abe s (i : Int) + 1 : Nat) : Int))).1.1))
    else ([], (alw s (acs abe s ((acs abe s (i : Int) + 1 : Nat) : Int))).2.1, (alw s (acs abe s ((acs abe s (i : Int) + 1 : Nat) : Int))).2.2.1)
theorem low2 : ∀ c : UInt8, afc (afc c) = afc c := act _ (by decide +kernel)
theorem lowlowL (l : Str) : abr (abr l) = abr l := by
  unfold abr
  rw [List.map_map]
  apply List.map_congr_left
  intro c _
  exact low2 c
theorem listP_bd (s : Str) (hs : s.length ≤ 4194304) (b : Nat) (hb : b ≤ s.length) (h0 : (alw s b).2.2.1 = 0) : (alw s b).2.2.2.1 = s ∧ (b : Int) + 1 ≤ (alw s b).2.2.2.2 ∧ (alw s b).2.2.2.2 ≤ (s.length : Int) + 1 ∧ abr (alw s b).1.1 = (alw s b).1.1 ∧ (alw s b).1.1.length ≤ s.length ∧ (alw s b).1.2.1.length ≤ 90000000 := by
  have ht1 := akg abz s b hb
  have ht2 := aht abz s (b : Int)
  unfold alw at h0 ⊢
  generalize ht : acs abz s (b : Int) = t at ht1 ht2 h0 ⊢
  have hy2 := aht abe s (t : Int)
  have hy1 := akg abe s t ht2
  have hlen : (abr (sub s (b : Int) (t : Int))).length ≤ s.length := by
    unfold abr; rw [List.length_map, sub_len]; omega
  by_cases hn : t = b
  · rw [if_pos hn] at h0; exact absurd h0 (show ¬ ((5 : UInt8) = 0) by decide)
  · rw [if_neg hn] at h0 ⊢
    generalize hy : acs abe s (t : Int) = y at hy1 hy2 h0 ⊢
    cases h61 : seesB s y 61 with
    | false =>
      rw [if_pos rfl]
      exact ⟨rfl, by simp only; omega, by simp only; omega, lowlowL _, hlen, by simp⟩
    | true =>
      have hyl := (seesB_at h61).1
      rw [h61, if_neg (show ¬ (true = false) by decide)] at h0
      rw [if_neg (show ¬ (true = false) by decide)]
      have hz1 := akg abe s (y + 1) omg
      have hz2 := aht abe s ((y + 1 : Nat) : Int)
      generalize hz : acs abe s ((y + 1 : Nat) : Int) = z at hz1 hz2 h0 ⊢
      by_cases hv : (valP s z).2.2 = 0
      · have := valP_bd s hs z hz2
        rw [if_pos hv]
        exact ⟨rfl, by simp only; have := (this.2 hv).1; omega, by simp only; exact (this.2 hv).2, lowlowL _, hlen, this.1⟩
      · rw [if_neg hv] at h0
        exact absurd h0 hv
theorem params_lp (s : Str) (hs : s.length ≤ 4194304) (n : Nat) : ∀ (k fk : Nat) (l : List PP), s.length - k ≤ n → n < fk → k ≤ 4194305 → l.length ≤ 16 →
    aez FU fk l s (k : Int) = some (parM s (n + 1) l k) := by
  have ff : ¬ (false = true) := by decide
  induction n with
  | zero =>
    intro k fk l hn hf hk hl
    obtain ⟨fk, rfl⟩ := fkx fk
    have h1 := aht abe s (k : Int)
    have h2 : s.length ≤ acs abe s (k : Int) := by
      unfold acs alx
      omega
    rw [aez, anu s hs, zab, ended_eq, zab, decide_eq_true omg, cond_true, parM, if_pos h2]
  | succ n ih =>
    intro k fk l hn hf hk hl
    obtain ⟨fk, rfl⟩ := fkx fk
    have h1 := aht abe s (k : Int)
    have hge : k ≤ s.length → k ≤ acs abe s (k : Int) := akg abe s k
    rw [parM, aez, anu s hs, zab, ended_eq, zab]
    generalize hj : acs abe s (k : Int) = j at h1 hge ⊢
    by_cases he : s.length ≤ j
    · rw [decide_eq_true omg, cond_true, if_pos he]
    · have hkl : k ≤ s.length := by
        rcases Nat.lt_or_ge s.length k with h | h
        · exfalso
          have : acs abe s (k : Int) = s.length := by
            have a := aht abe s (k : Int)
            unfold acs alx at a ⊢
            omega
          omega
        · exact h
      rw [decide_eq_false omg, cond_false, if_neg he, sees_eq, zab]
      have hjl : j < s.length := by omega
      unfold seesB
      rw [decide_eq_true hjl, zav]
      by_cases h59 : at_ s (j : Int) = 59
      · have e59 : (at_ s (j : Int) == 59) = true := by simpa using h59
        rw [e59, zar, cond_false, if_neg (by simpa using h59)]
        simp only
        rw [gok, anu s hs, zab, skip_add1]
        have hb2 := aht abe s ((j + 1 : Nat) : Int)
        have hb1 := akg abe s (j + 1) omg
        generalize hb : acs abe s ((j + 1 : Nat) : Int) = b at hb1 hb2 ⊢
        rw [listed_eq s hs b hb2, zab]
        by_cases h0 : (alw s b).2.2.1 = 0
        · obtain ⟨g1, g2, g3, g4, g5, g6⟩ := listP_bd s hs b hb2 h0
          rw [if_pos h0, if_pos h0, room_eq l omg, zab, zab]
          by_cases hr : roomB l (alw s b).1.1 = 0
          · have hl16 : l.length < 16 := by
              unfold roomB at hr
              split at hr
              · exact absurd hr (by decide)
              · split at hr
                · exact absurd hr (by decide)
                · omega
            have ee : (alw s b).2.2.2.2 = (((alw s b).2.2.2.2.toNat : Nat) : Int) := by omega
            rw [if_pos hr]
            try simp only
            rw [if_pos hr, aad (by simp only [zai]; omega), g1, ee]
            have := ih (alw s b).2.2.2.2.toNat fk (l ++ [(alw s b).1]) omg omg omg (by simp only [zag, zai]; omega)
            rw [this]
            congr 2
          · rw [if_neg hr]
            try simp only
            rw [if_neg hr]
        · rw [if_neg h0, if_neg h0, zab]
          simp only
          rw [if_neg h0]
      · have e59 : (at_ s (j : Int) == 59) = false := by simpa using h59
        rw [e59, zaA, cond_true, if_pos h59]
def parP (s : Str) : List PP × Int × UInt8 := parM s (s.length + 1) [] 0
theorem params_eq (s : Str) (hs : s.length ≤ 4194304) : agl FU s = some (parP s) := by
  unfold agl
  exact params_lp s hs s.length 0 FU [] omg (by rw [akf]; omega) omg (by simp)
open Bool renaming and_eq_true → zax, not_false → zaA, not_true → zar, true_and → zav
open Go.Lib renaming join → zaw
open List renaming append_nil → zaC, length_append → zag, length_cons → zah, length_nil → zas, length_singleton → zai
def quoT (s : Str) : Str := 34 :: (s.flatMap aiz ++ [34])
def quoM (s : Str) : Str × UInt8 := if s.any adn = true then ([], 5) else (quoT s, 0)
theorem qstep_len (c : UInt8) : (aiz c).length ≤ 2 := by unfold aiz; split <;> simp
theorem qflat_len : ∀ s : Str, (s.flatMap aiz).length ≤ 2 * s.length
  | [] => by simp
  | c :: l => by
    have h1 := qstep_len c
    have h2 := qflat_len l
    rw [List.flatMap_cons, zag, zah]; omega
theorem quo_lp (s : Str) (hs : s.length ≤ 4194304) (l : Str) : ∀ (p : Str) (fk : Nat), s = p ++ l → l.length < fk →
    aex FU s fk (34 :: p.flatMap aiz) (p.length : Int) = some (if l.any adn = true then .inr ([], 5) else .inl (34 :: s.flatMap aiz)) := by
  induction l with
  | nil =>
    intro p fk h hf
    obtain ⟨fk, rfl⟩ := fkx fk
    rw [zaC] at h
    subst h
    rw [aex, if_neg omg]; rfl
  | cons c l ih =>
    intro p fk h hf
    obtain ⟨fk, rfl⟩ := fkx fk
    have hl := congrArg List.length h
    simp only [zag, zah] at hl hf
    have hb : (0 : Int) ≤ (p.length : Int) ∧ (p.length : Int) < (s.length : Int) := by omega
    have ha : at_ s (p.length : Int) = c := by rw [h, at_mid]
    have hq := qflat_len p
    have hih := ih (p ++ [c]) fk (by rw [h]; simp) omg
    rw [← akt p c, List.flatMap_append, List.flatMap_singleton] at hih
    rw [aex, if_pos hb.2, aad hb, ha, char_control, zab, List.any_cons]
    cases hc : adn c with
    | true => rw [cond_true, Bool.true_or, if_pos rfl]
    | false =>
      rw [cond_false, Bool.false_or]
      have hq34 : ∀ b : Bool, aiz c = (bif b then [92, c] else [c]) → (bif b then gd (((34 :: p.flatMap aiz).length + ([(92 : UInt8)] : List UInt8).length) * 1 ≤ 140737488355328) (some ((34 :: p.flatMap aiz) ++ ([(92 : UInt8)] : List UInt8))) else some (34 :: p.flatMap aiz)) = some ((34 :: p.flatMap aiz) ++ (bif b then [92] else [])) := by
        intro b _
        cases b with
        | true => rw [cond_true, cond_true, aad (by simp only [zah, zas]; omega)]
        | false => rw [cond_false, cond_false, zaC]
      have fin : ∀ b : Bool, aiz c = (bif b then [92, c] else [c]) → ((some ((34 :: p.flatMap aiz) ++ (bif b then [92] else []))).bind fun (v394 : List UInt8) => (gd (0 ≤ (p.length : Int) ∧ (p.length : Int) < (s.length : Int)) <| (gd ((v394.length + ([c] : List UInt8).length) * 1 ≤ 140737488355328) <| (gd (acy ((p.length : Int) + (1 : Int))) <| (aex FU s fk (v394 ++ ([c] : List UInt8)) ((p.length : Int) + (1 : Int))))))) = some (if l.any adn = true then .inr ([], 5) else .inl (34 :: s.flatMap aiz)) := by
        intro b hqb
        rw [zab, aad hb, aad (by cases b <;> simp only [cond_true, cond_false, zag, zah, zas] <;> omega), aad (aiq _ omg omg), ← hih, hqb]
        cases b <;> simp
      by_cases h34 : c = 34
      · have e : aiz c = (bif true then [92, c] else [c]) := by rw [h34]; rfl
        rw [if_pos h34, zab, hq34 true e, fin true e]
      · rw [if_neg h34, zab]
        by_cases h92 : c = 92
        · have e : aiz c = (bif true then [92, c] else [c]) := by rw [h92]; rfl
          rw [decide_eq_true h92, hq34 true e, fin true e]
        · have e : aiz c = (bif false then [92, c] else [c]) := by unfold aiz; rw [if_neg (by simp [h34, h92])]; rfl
          rw [decide_eq_false h92, hq34 false e, fin false e]
theorem quote_eq (s : Str) (hs : s.length ≤ 4194304) : ajr FU s = some (quoM s) := by
  have := quo_lp s hs s [] FU (by simp) (by rw [akf]; omega)
  have this' : aex FU s FU (([] : List UInt8) ++ ([(34 : UInt8)] : List UInt8)) (0 : Int) = _ := this
  have hq := qflat_len s
  unfold ajr quoM
  rw [aad (aiq _ omg omg), aad omg, aad (by decide), this', zab]
  cases s.any adn with
  | true => rfl
  | false => rw [if_neg (show ¬ (false = true) by decide), zau, aad (by simp only [zah, zas]; omega), if_neg (show ¬ (false = true) by decide)]; rfl
theorem quoT_len (s : Str) : (quoT s).length ≤ 2 * s.length + 2 := by
  have := qflat_len s
  unfold quoT
  rw [zah, zag, zai]; omega
theorem tok_nc : ∀ c : UInt8, abz c = true → adn c = false := act _ (by decide +kernel)
theorem hex_nc : ∀ c : UInt8, hexB c = true → adn (afc c) = false := act _ (by decide +kernel)
theorem lab_nc : ∀ c : UInt8, labB c = true → adn (afc c) = false := act _ (by decide +kernel)
theorem dig_nc : ∀ c : UInt8, aek c = true → adn c = false := act _ (by decide +kernel)
theorem any_f (l : Str) (h : ∀ c ∈ l, adn c = false) : l.any adn = false := by
  rw [List.any_eq_false]; intro c hc; rw [h c hc]; decide
theorem isTok_nc (s : Str) (h : air s = true) : s.any adn = false := by
  unfold air at h
  rw [zax] at h
  exact any_f s fun c hc => tok_nc c (List.all_eq_true.1 h.2 c hc)
theorem grpN_nc (g : Str) (h : akv g = true) : ∀ c ∈ amo g, adn c = false := by
  have hx : g.all hexB = true := by unfold akv at h; simp only [zax] at h; exact h.2
  intro c hc
  unfold amo at hc
  split at hc
  · rw [List.mem_singleton.1 hc]; decide
  · have hm : c ∈ lowP g := (List.dropWhile_suffix _).subset hc
    obtain ⟨d, hd, rfl⟩ := List.mem_map.1 hm
    exact hex_nc d (List.all_eq_true.1 hx d hd)
theorem join_nc : ∀ (l : List Str), (∀ x ∈ l, ∀ c ∈ x, adn c = false) → ∀ c ∈ zaw l [58], adn c = false
  | [], _, c, hc => by simp [zaw, List.intercalate] at hc
  | [a], h, c, hc => by
    simp [zaw, List.intercalate] at hc
    exact h a (by simp) c hc
  | a :: b :: l, h, c, hc => by
    have e : zaw (a :: b :: l) [58] = a ++ (58 :: zaw (b :: l) [58]) := by simp [zaw, List.intercalate, List.intersperse]
    rw [e] at hc
    rcases List.mem_append.1 hc with hc | hc
    · exact h a (by simp) c hc
    · rcases List.mem_cons.1 hc with rfl | hc
      · decide
      · exact join_nc (b :: l) (fun x hx => h x (List.mem_cons_of_mem _ hx)) c hc
theorem grpList_nc (s : Str) : ∀ x ∈ (afs s).1, ∀ c ∈ x, adn c = false := by
  intro x hx
  unfold afs at hx
  split at hx
  · rename_i ha
    obtain ⟨y, hy, rfl⟩ := List.mem_map.1 hx
    exact grpN_nc y (List.all_eq_true.1 ha y hy)
  · simp at hx
theorem grpL0_nc (s : Str) : ∀ x ∈ (ais s).1, ∀ c ∈ x, adn c = false := by
  intro x hx
  unfold ais at hx
  split at hx
  · simp at hx
  · exact grpList_nc s x hx
theorem grpsP_nc (s : Str) : ∀ c ∈ (aku s).1, adn c = false := by
  intro c hc
  unfold aku at hc
  split at hc
  · simp at hc
  · split at hc
    · exact join_nc _ (grpList_nc s) c hc
    · split at hc
      · simp at hc
      · rcases List.mem_append.1 hc with hc | hc
        · rcases List.mem_append.1 hc with hc | hc
          · exact join_nc _ (grpL0_nc _) c hc
          · have h58 : c = 58 := by simpa using hc
            rw [h58]; decide
        · exact join_nc _ (grpL0_nc _) c hc
theorem hostP_nc (s : Str) : ((acz s).1).any adn = false := by
  refine any_f _ fun c hc => ?_
  unfold acz at hc
  split at hc
  · split at hc
    · rcases List.mem_append.1 hc with hc | hc
      · rcases List.mem_append.1 hc with hc | hc
        · rw [List.mem_singleton.1 hc]; decide
        · exact grpsP_nc _ c hc
      · rw [List.mem_singleton.1 hc]; decide
    · simp at hc
  · split at hc
    · rename_i hn
      unfold numsP at hn
      simp only [zax] at hn
      rcases alz 46 aek s (fun x hx => (num_parts x (by rw [← oct_num]; exact List.all_eq_true.1 hn.1.2 x hx)).2.2) c hc with h | h
      · exact dig_nc c h
      · rw [h]; decide
    · split at hc
      · rename_i hn
        unfold anq at hn
        simp only [zax] at hn
        obtain ⟨d, hd, rfl⟩ := List.mem_map.1 hc
        rcases alz 46 labB s (fun x hx => by
          have := List.all_eq_true.1 hn.1.2 x hx
          unfold anl at this
          simp only [zax] at this
          exact this.2) d hd with h | h
        · exact lab_nc d h
        · rw [h]; decide
      · simp at hc
def brV (v : Str) : Bool := (acz v).2 && decide ((acz v).1 = v) && (at_ v 0 == 91)
def okN (pre : List PP) (p : PP) : Bool := air p.1 && decide (abr p.1 = p.1) && !(pre.any fun q => q.1 == p.1)
def okV (p : PP) : Bool := bif p.2.2 then !p.2.1.any adn else decide (p.2.1 = [])
def txt (p : PP) : Str := bif p.2.2 then 61 :: (bif air p.2.1 || brV p.2.1 then p.2.1 else quoT p.2.1) else []
def ppL : List PP → List PP → Option Str
  | _, [] => some []
  | pre, p :: r => bif okN pre p && okV p then (ppL (pre ++ [p]) r).map fun t => 59 :: (p.1 ++ (txt p ++ t)) else none
def ppM (l : List PP) : Str × UInt8 := if 16 < l.length then ([], 2) else match ppL [] l with | some t => (t, 0) | none => ([], 2)
theorem brV_nc (v : Str) (h : brV v = true) : v.any adn = false := by
  unfold brV at h
  simp only [zax, decide_eq_true_eq] at h
  rw [← h.1.2]; exact hostP_nc v
theorem host_ne (v : Str) (h : (acz v).2 = true) (h2 : (acz v).1 = v) : v ≠ [] := by
  intro e
  subst e
  exact absurd h (by decide)
theorem txt_len (p : PP) (h1 : p.2.1.length ≤ 4194304) : (txt p).length ≤ 8388611 := by
  have := quoT_len p.2.1
  unfold txt
  cases p.2.2 with
  | false => simp
  | true =>
    rw [cond_true, zah]
    cases (air p.2.1 || brV p.2.1) with
    | true => rw [cond_true]; omega
    | false => rw [cond_false]; omega
theorem pp_lp (l : List PP) (hl : l.length ≤ 16) (hb : ∀ p ∈ l, p.1.length ≤ 4194304 ∧ p.2.1.length ≤ 4194304) (r : List PP) : ∀ (pre : List PP) (fk : Nat) (out : Str), l = pre ++ r → r.length < fk → out.length ≤ pre.length * 16000000 →
    acf FU l fk (pre.length : Int) out = some (match ppL pre r with | some t => .inl (out ++ t) | none => .inr ([], 2)) := by
  induction r with
  | nil =>
    intro pre fk out h hf ho
    obtain ⟨fk, rfl⟩ := fkx fk
    rw [zaC] at h
    rw [acf, if_neg (by rw [h]; omega)]; simp [ppL]
  | cons p r ih =>
    intro pre fk out h hf ho
    obtain ⟨fk, rfl⟩ := fkx fk
    have hlen := congrArg List.length h
    simp only [zag, zah] at hlen hf
    have hin : (0 : Int) ≤ (pre.length : Int) ∧ (pre.length : Int) < (l.length : Int) := by omega
    have he : el l (pre.length : Int) = p := by rw [h]; simp [el]
    have htk : List.take (zac (pre.length : Int)) l = pre := by rw [h]; simp
    have hbp := hb p (by rw [h]; simp)
    have ht := txt_len p hbp.2
    have hok : acy ((pre.length : Int) + 1) := aiq _ omg omg
    have next : ∀ o : Str, o = out ++ (59 :: (p.1 ++ txt p)) → okN pre p = true → okV p = true → acf FU l fk ((pre.length : Int) + 1) o = some (match ppL pre (p :: r) with | some t => .inl (out ++ t) | none => .inr ([], 2)) := by
      intro o ho' h1 h2
      have hih := ih (pre ++ [p]) fk o (by rw [h]; simp) omg (by rw [ho']; simp only [zag, zah, zas]; omega)
      rw [show ((pre ++ [p]).length : Int) = (pre.length : Int) + 1 by simp] at hih
      rw [hih, ppL, h1, h2, zav, cond_true]
      cases ppL (pre ++ [p]) r with
      | none => rfl
      | some t => rw [ho']; simp
    have bad : okN pre p = false ∨ okV p = false → ppL pre (p :: r) = none := by
      rintro (h | h)
      · rw [ppL, h]; rfl
      · rw [ppL, h, Bool.and_false]; rfl
    rw [acf, if_pos hin.2, aad hin, aad hin, he, token_eq _ omg, zab]
    cases h1 : air p.1 with
    | false =>
      rw [bad (.inl (by unfold okN; rw [h1]; rfl))]; rfl
    | true =>
      rw [zar, cond_false, aml _ hbp.1, zab]
      by_cases h2 : p.1 = abr p.1
      · rw [if_pos h2, aad omg, htk, holds_eq pre omg, zab, zab]
        cases h3 : pre.any fun q => q.1 == p.1 with
        | true => rw [bad (.inl (by unfold okN; rw [h3]; simp))]; rfl
        | false =>
          have hN : okN pre p = true := by unfold okN; rw [h1, h3, decide_eq_true h2.symm]; rfl
          rw [cond_false, aad (by simp only [zai]; omega)]
          unfold abw
          rw [aad (by simp only [zag, zai]; omega), zab]
          simp only
          cases h4 : p.2.2 with
          | false =>
            rw [zaA, cond_true]
            by_cases h5 : p.2.1 = []
            · have hV : okV p = true := by unfold okV; rw [h4, cond_false]; exact decide_eq_true h5
              rw [if_pos h5, aad hok]
              refine next _ ?_ hN hV
              have : txt p = [] := by unfold txt; rw [h4]; rfl
              rw [this]; simp
            · have hV : okV p = false := by unfold okV; rw [h4, cond_false]; exact decide_eq_false h5
              rw [if_neg h5, bad (.inr hV)]
          | true =>
            have hVe : okV p = !p.2.1.any adn := by unfold okV; rw [h4]; rfl
            rw [zar, cond_false, adHost_eq _ hbp.2, zab, token_eq _ omg, zab]
            have e : (bif (!air p.2.1) then (bif (acz p.2.1).2 then (if (acz p.2.1).1 = p.2.1 then (gd (0 ≤ (0 : Int) ∧ (0 : Int) < (p.2.1.length : Int)) <| some (!decide ((at_ p.2.1 (0 : Int)) = (91 : UInt8)))) else some true) else some true) else some false) = some (!(air p.2.1 || brV p.2.1)) := by
              unfold brV
              cases air p.2.1 with
              | true => rfl
              | false =>
                rw [zaA, cond_true, Bool.false_or]
                cases h6 : (acz p.2.1).2 with
                | false => rfl
                | true =>
                  rw [cond_true, zav]
                  by_cases h7 : (acz p.2.1).1 = p.2.1
                  · have := List.length_pos_iff.2 (host_ne p.2.1 h6 h7)
                    rw [if_pos h7, decide_eq_true h7, aad omg, zav]; rfl
                  · rw [if_neg h7, decide_eq_false h7]; rfl
            rw [e, zab]
            cases h5 : (air p.2.1 || brV p.2.1) with
            | true =>
              have hnc : p.2.1.any adn = false := by
                rcases Bool.or_eq_true_iff.1 h5 with h | h
                · exact isTok_nc _ h
                · exact brV_nc _ h
              rw [zar, cond_false, zab, zau, aad (by simp only [zai]; omega), aad (by simp only [zag, zai]; omega), zab, aad hok]
              refine next _ ?_ hN (by rw [hVe, hnc]; rfl)
              have : txt p = 61 :: p.2.1 := by unfold txt; rw [h4, h5]; rfl
              rw [this]; simp
            | false =>
              rw [zaA, cond_true, quote_eq _ hbp.2, zab]
              unfold quoM
              have hq := quoT_len p.2.1
              cases h6 : p.2.1.any adn with
              | true =>
                rw [if_pos rfl, if_neg (show ¬ ((5 : UInt8) = 0) by decide), zab, Sum.elim_inr, bad (.inr (by rw [hVe, h6]; rfl))]
              | false =>
                rw [if_neg (show ¬ (false = true) by decide), if_pos rfl, zab, zau]
                simp only
                rw [aad (by simp only [zai]; omega), aad (by simp only [zag, zai]; omega), zab, aad hok]
                refine next _ ?_ hN (by rw [hVe, h6]; rfl)
                have : txt p = 61 :: quoT p.2.1 := by unfold txt; rw [h4, h5]; rfl
                rw [this]; simp
      · rw [if_neg h2, zab, cond_true, bad (.inl (by unfold okN; rw [decide_eq_false (fun h => h2 h.symm)]; simp))]
theorem ppL_len : ∀ (r pre : List PP) (t : Str), (∀ p ∈ r, p.1.length ≤ 4194304 ∧ p.2.1.length ≤ 4194304) → ppL pre r = some t → t.length ≤ r.length * 16000000
  | [], _, t, _, h => by simp [ppL] at h; subst h; simp
  | p :: r, pre, t, hb, h => by
    rw [ppL] at h
    cases hk : okN pre p && okV p with
    | false => rw [hk] at h; cases h
    | true =>
      rw [hk, cond_true, Option.map_eq_some_iff] at h
      obtain ⟨u, hu, rfl⟩ := h
      have := ppL_len r _ u (fun q hq => hb q (List.mem_cons_of_mem _ hq)) hu
      have hbp := hb p List.mem_cons_self
      have ht := txt_len p hbp.2
      simp only [zah, zag]
      omega
theorem printParams_eq (l : List PP) (hb : ∀ p ∈ l, p.1.length ≤ 4194304 ∧ p.2.1.length ≤ 4194304) : acl FU l = some (ppM l) := by
  unfold acl ppM
  by_cases h : 16 < l.length
  · rw [if_pos omg, if_pos h]
  · have := pp_lp l omg hb l [] FU [] (by simp) (by rw [akf]; omega) (by simp)
    have this' : acf FU l FU (0 : Int) [] = _ := this
    rw [if_neg omg, if_neg h, this', zab]
    cases hp : ppL [] l with
    | none => rfl
    | some t =>
      have := ppL_len l [] t hb hp
      rw [zau, List.nil_append, aad omg]
open Go.Op renaming bytesLess → zaB
open List renaming length_cons → zah
theorem room0 (pre : List PP) (nm : Str) : (roomB pre nm = 0) ↔ ((pre.any fun q => q.1 == nm) = false ∧ pre.length < 16) := by
  unfold roomB
  cases pre.any fun q => q.1 == nm with
  | true => simp
  | false =>
    rw [if_neg (show ¬ (false = true) by decide)]
    by_cases h : 16 ≤ pre.length
    · rw [if_pos h]; simp; omega
    · rw [if_neg h]; simp; omega
theorem pp_eta (x : PP) : (x.1, x.2.1, x.2.2) = x := rfl
theorem less_tri : ∀ x y : Str, zaB x y = !(zaB y x || y == x)
  | [], [] => rfl
  | [], b :: y => rfl
  | a :: x, [] => rfl
  | a :: x, b :: y => by
    have ih := less_tri x y
    rw [zaB, zaB, ih]
    rcases Nat.lt_trichotomy a.toNat b.toNat with h | h | h
    · have h1 : a < b := h
      have h2 : ¬ b < a := by rw [UInt8.lt_iff_toNat_lt]; omega
      have h3 : ¬ a = b := fun e => by subst e; omega
      have h4 : (b :: y == a :: x) = false := by simp; intro e; exact absurd e.symm h3
      rw [h4]
      simp [h1, h2, h3]
      exact .inl fun e => h3 e.symm
    · have e : a = b := UInt8.toNat_inj.1 h
      subst e
      have h1 : ¬ a < a := by rw [UInt8.lt_iff_toNat_lt]; omega
      have h4 : (a :: y == a :: x) = (y == x) := by simp [List.cons_beq_cons]
      rw [h4]
      simp [h1]
    · have h1 : b < a := h
      have h2 : ¬ a < b := by rw [UInt8.lt_iff_toNat_lt]; omega
      have h3 : ¬ a = b := fun e => by subst e; omega
      simp [h1, h2, h3]
def gtN (a b : Str) : Bool := !(zaB a b || a == b)
def insV (x : PP) : List PP → List PP
  | [] => [x]
  | a :: V => bif gtN a.1 x.1 then a :: insV x V else x :: a :: V
def insR (x : PP) (l : List PP) : List PP := (insV x l.reverse).reverse
theorem insR_snoc (x a : PP) (l : List PP) : insR x (l ++ [a]) = bif gtN a.1 x.1 then insR x l ++ [a] else l ++ [a, x] := by
  unfold insR
  rw [List.reverse_append, List.reverse_singleton, List.singleton_append, insV]
  cases gtN a.1 x.1 <;> simp
theorem insV_len (x : PP) : ∀ V : List PP, (insV x V).length = V.length + 1
  | [] => rfl
  | a :: V => by
    rw [insV]
    cases gtN a.1 x.1 with
    | true => rw [cond_true, zah, insV_len x V, zah]
    | false => rfl
theorem insR_len (x : PP) (l : List PP) : (insR x l).length = l.length + 1 := by
  unfold insR; rw [List.length_reverse, insV_len, List.length_reverse]
theorem insV_mem (x y : PP) : ∀ V : List PP, y ∈ insV x V → y = x ∨ y ∈ V
  | [], h => by left; simpa [insV] using h
  | a :: V, h => by
    rw [insV] at h
    cases hg : gtN a.1 x.1 with
    | true =>
      rw [hg, cond_true] at h
      rcases List.mem_cons.1 h with rfl | h
      · right; simp
      · rcases insV_mem x y V h with h | h
        · exact .inl h
        · right; simp [h]
    | false =>
      rw [hg, cond_false] at h
      rcases List.mem_cons.1 h with rfl | h
      · left; rfl
      · right; exact h
theorem insR_mem (x y : PP) (l : List PP) (h : y ∈ insR x l) : y = x ∨ y ∈ l := by
  unfold insR at h
  rcases insV_mem x y _ (List.mem_reverse.1 h) with h | h
  · exact .inl h
  · exact .inr (List.mem_reverse.1 h)
def agh (l : List PP) : List PP := l.foldl (fun out x => insR x out) []
theorem fold_len : ∀ (q p : List PP), (q.foldl (fun out x => insR x out) p).length = p.length + q.length
  | [], p => by simp
  | a :: q, p => by rw [List.foldl_cons, fold_len q, insR_len, zah]; omega
theorem fold_mem (y : PP) : ∀ (q p : List PP), y ∈ q.foldl (fun out x => insR x out) p → y ∈ p ∨ y ∈ q
  | [], p, h => .inl h
  | a :: q, p, h => by
    rw [List.foldl_cons] at h
    rcases fold_mem y q _ h with h | h
    · rcases insR_mem a y p h with h | h
      · right; simp [h]
      · exact .inl h
    · right; simp [h]
theorem isort_len (l : List PP) : (agh l).length = l.length := by unfold agh; rw [fold_len]; simp
theorem isort_mem (l : List PP) (y : PP) (h : y ∈ agh l) : y ∈ l := by
  rcases fold_mem y l [] h with h | h
  · simp at h
  · exact h
open Bool renaming not_true → zar
open List renaming append_nil → zaC, length_append → zag, length_cons → zah, length_singleton → zai, set → zae
def cmpV (a b : Str) : Int := bif zaB a b then -1 else bif !(zaB a b || a == b) then 1 else 0
theorem hs1_eq (fu : Nat) (x y : PP) : afl fu x y = some (cmpV x.1 y.1) := by
  unfold afl agn ahj cmpV
  rw [zab, zab, decide_eq_true rfl, decide_eq_true rfl, zar, cond_false, cond_false]
  cases zaB x.1 y.1 with
  | true => rfl
  | false =>
    rw [cond_false, cond_false]
    cases (!(false || x.1 == y.1)) <;> rfl
theorem cmp_lt (a b : Str) : decide (cmpV a b < 0) = zaB a b := by
  unfold cmpV
  cases zaB a b with
  | true => rfl
  | false =>
    rw [cond_false]
    cases (!(false || a == b)) <;> rfl
theorem coll_lp (x : List PP) (hx : x.length ≤ 4194304) (q : List PP) : ∀ (p : List PP) (fk : Nat), x = p ++ q → q.length < fk →
    aag FU x fk (p.length : Int) p = some (x, 0) := by
  induction q with
  | nil =>
    intro p fk h hf
    obtain ⟨fk, rfl⟩ := fkx fk
    rw [zaC] at h
    subst h
    rw [aag, if_neg omg]
  | cons a q ih =>
    intro p fk h hf
    obtain ⟨fk, rfl⟩ := fkx fk
    have hlen := congrArg List.length h
    simp only [zag, zah] at hlen hf
    have hin : (0 : Int) ≤ (p.length : Int) ∧ (p.length : Int) < (x.length : Int) := by omega
    have he : el x (p.length : Int) = a := by rw [h]; simp [el]
    rw [aag, if_pos hin.2, aad hin, aad hin, he]
    unfold acp
    simp only [pp_eta]
    rw [aad (by simp only [zai]; omega), zab, if_pos rfl, aad (aiq _ omg omg)]
    have := ih (p ++ [a]) fk (by rw [h]; simp) omg
    rw [show ((p ++ [a]).length : Int) = (p.length : Int) + 1 by simp] at this
    exact this
theorem collect_eq (x : List PP) (hx : x.length ≤ 4194304) : adi FU x = some x := by
  have := coll_lp x hx x [] FU (by simp) (by rw [akf]; omega)
  unfold adi ady abg
  have this' : aag FU x FU (0 : Int) [] = _ := this
  rw [this', zab, if_pos rfl]; rfl
theorem el_at (P S : List PP) (x : PP) : el (P ++ x :: S) (P.length : Int) = x := by simp [el]
theorem ins_lp1 (n : Nat) : ∀ (P S : List PP) (x : PP) (fk : Nat), P.length = n → n < fk → P.length + S.length ≤ 1048575 →
    aaf FU 0 fk (P ++ x :: S) (P.length : Int) = some (insR x P ++ S) := by
  induction n with
  | zero =>
    intro P S x fk hP hf hl
    obtain ⟨fk, rfl⟩ := fkx fk
    obtain rfl : P = [] := List.eq_nil_of_length_eq_zero hP
    rw [aaf, if_neg (by simp)]; rfl
  | succ n ih =>
    intro P S x fk hP hf hl
    obtain ⟨fk, rfl⟩ := fkx fk
    rcases List.eq_nil_or_concat P with rfl | ⟨P', a, rfl⟩
    · simp at hP
    · simp only [List.concat_eq_append] at *
      have hP' : P'.length = n := by simp at hP; omega
      have e1 : (((P' ++ [a]).length : Int) - 1) = (P'.length : Int) := by simp
      have hj : el (P' ++ [a] ++ x :: S) ((P' ++ [a]).length : Int) = x := el_at _ _ _
      have hj1 : el (P' ++ [a] ++ x :: S) (P'.length : Int) = a := by rw [List.append_assoc]; exact el_at P' (x :: S) a
      have hlen : (P' ++ [a] ++ x :: S).length = P'.length + 2 + S.length := by simp; omega
      have hin : (0 : Int) ≤ ((P' ++ [a]).length : Int) ∧ ((P' ++ [a]).length : Int) < ((P' ++ [a] ++ x :: S).length : Int) := by rw [hlen]; simp; omega
      have hin1 : (0 : Int) ≤ (P'.length : Int) ∧ (P'.length : Int) < ((P' ++ [a] ++ x :: S).length : Int) := by rw [hlen]; omega
      have hok : acy (P'.length : Int) := aiq _ omg (by simp at hl; omega)
      have ht1 : ((P' ++ [a]).length : Int).toNat = P'.length + 1 := by simp
      have ht2 : ((P'.length : Nat) : Int).toNat = P'.length := by omega
      rw [aaf, e1]
      simp only [hj, hj1, pp_eta, hs1_eq, zab, cmp_lt, aad hin, aad hin1, aad hok]
      rw [if_pos (by rw [zag, zai]; omega), zab, less_tri x.1 a.1, insR_snoc]
      have hg : (!(zaB a.1 x.1 || a.1 == x.1)) = gtN a.1 x.1 := rfl
      rw [hg]
      cases gtN a.1 x.1 with
      | false => rw [cond_false, cond_false]; simp
      | true =>
        have hset : zae (P' ++ [a] ++ x :: S) ((P' ++ [a]).length : Int).toNat a = P' ++ a :: a :: S := by
          rw [ht1, List.append_assoc, List.set_append_right _ _ omg]
          simp
        have hset2 : zae (P' ++ a :: a :: S) ((P'.length : Nat) : Int).toNat x = P' ++ x :: a :: S := by
          rw [ht2, List.set_append_right _ _ omg]
          simp
        rw [cond_true, cond_true, hset, hset2, aad (by simp; omega), aad (by simp; omega), ih P' (a :: S) x fk hP' omg (by simp at hl ⊢; omega)]
        simp
theorem ins_lp0 (R : List PP) : ∀ (P : List PP) (fk : Nat) (n : Int), n = ((P ++ R).length : Int) → (P ++ R).length ≤ 1048575 → R.length < fk →
    aac FU 0 n fk (P ++ R) (P.length : Int) = some (R.foldl (fun out x => insR x out) P) := by
  induction R with
  | nil =>
    intro P fk n hn hl hf
    obtain ⟨fk, rfl⟩ := fkx fk
    rw [aac, if_neg (by rw [hn]; simp)]; simp
  | cons a R ih =>
    intro P fk n hn hl hf
    obtain ⟨fk, rfl⟩ := fkx fk
    simp only [zag, zah] at hl hf
    rw [aac, if_pos (by rw [hn]; simp; omega), ins_lp1 P.length P R a FU rfl (by rw [akf]; omega) omg, zab, aad (aiq _ omg omg)]
    have hil := insR_len a P
    have := ih (insR a P) fk n (by rw [hn]; simp [hil]; omega) (by simp only [zag, hil]; omega) omg
    rw [hil] at this
    have e : ((P.length : Int) + 1) = ((P.length + 1 : Nat) : Int) := rfl
    rw [e, this]; rfl
theorem ins_eq (l : List PP) (hl : l.length ≤ 1048575) : aai FU l 0 (l.length : Int) = some (agh l) := by
  unfold aai
  rw [aad (aiq _ omg omg)]
  cases l with
  | nil =>
    obtain ⟨m, hm⟩ : ∃ m, FU = m + 1 := ⟨FU - 1, by rw [akf]⟩
    rw [show (aac FU 0 (([] : List PP).length : Int) FU [] (0 + 1)) = aac FU 0 (([] : List PP).length : Int) (m + 1) [] (0 + 1) by rw [← hm]]
    rw [aac, if_neg (by simp)]; rfl
  | cons a l =>
    have := ins_lp0 l [a] FU ((a :: l).length : Int) rfl hl (by rw [akf]; simp at hl; omega)
    exact this
open Go.IntKind renaming wrap → zaa
open List renaming length_set → zaq, set → zae
def Keeps (o : Option (List PP)) (n : Nat) : Prop := ∃ d, o = some d ∧ d.length = n
theorem aia (a : Int) (h0 : -1000 ≤ a) (h : a ≤ 100000) : acy a := ⟨by omega, by omega⟩
theorem tIns1 (fu : Nat) (a : Nat) (n : Nat) : ∀ (data : List PP) (fk : Nat), n < data.length → data.length ≤ 100 → n < fk → Keeps (aaf fu (a : Int) fk data (n : Int)) data.length := by
  induction n with
  | zero =>
    intro data fk hn hl hf
    obtain ⟨fk, rfl⟩ := fkx fk
    rw [aaf, if_neg omg]
    exact ⟨data, rfl, rfl⟩
  | succ n ih =>
    intro data fk hn hl hf
    obtain ⟨fk, rfl⟩ := fkx fk
    have e1 : (((n + 1 : Nat) : Int) - 1) = (n : Int) := by omega
    have hin : (0 : Int) ≤ ((n + 1 : Nat) : Int) ∧ ((n + 1 : Nat) : Int) < (data.length : Int) := by omega
    have hin1 : (0 : Int) ≤ (n : Int) ∧ (n : Int) < (data.length : Int) := by omega
    rw [aaf, e1]
    simp only [hs1_eq, zab, cmp_lt, aad hin, aad hin1, aad (aia (n : Int) omg omg), zaq]
    by_cases h : (a : Int) < ((n + 1 : Nat) : Int)
    · rw [if_pos h, zab]
      cases zaB (el data ((n + 1 : Nat) : Int)).1 (el data (n : Int)).1 with
      | false => exact ⟨data, rfl, rfl⟩
      | true =>
        rw [cond_true]
        have := ih (zae (zae data (((n + 1 : Nat) : Int).toNat) (el data (n : Int))) ((n : Int).toNat) (el data ((n + 1 : Nat) : Int))) fk (by simp only [zaq]; omega) (by simp only [zaq]; omega) omg
        rw [zaq, zaq] at this
        exact this
    · rw [if_neg h]; exact ⟨data, rfl, rfl⟩
theorem tIns0 (fu : Nat) (hfu : 1000 ≤ fu) (a b : Nat) (m : Nat) : ∀ (data : List PP) (i fk : Nat), b ≤ i + m → m < fk → b ≤ data.length → data.length ≤ 100 → Keeps (aac fu (a : Int) (b : Int) fk data (i : Int)) data.length := by
  induction m with
  | zero =>
    intro data i fk hm hf hb hl
    obtain ⟨fk, rfl⟩ := fkx fk
    rw [aac, if_neg omg]
    exact ⟨data, rfl, rfl⟩
  | succ m ih =>
    intro data i fk hm hf hb hl
    obtain ⟨fk, rfl⟩ := fkx fk
    rw [aac]
    by_cases h : (i : Int) < (b : Int)
    · obtain ⟨d, h1, h2⟩ := tIns1 fu a i data fu omg hl omg
      rw [if_pos h, h1, zab, aad (aia _ omg omg)]
      have := ih d (i + 1) fk omg omg omg omg
      rw [h2] at this
      exact this
    · rw [if_neg h]; exact ⟨data, rfl, rfl⟩
theorem tIns (fu : Nat) (hfu : 1000 ≤ fu) (a b : Nat) (data : List PP) (ha : a ≤ 100) (hb : b ≤ data.length) (hl : data.length ≤ 100) : Keeps (aai fu data (a : Int) (b : Int)) data.length := by
  unfold aai
  rw [aad (aia _ omg omg)]
  exact tIns0 fu hfu a b 100 data (a + 1) fu omg omg hb hl
theorem tSwap0 (fu : Nat) (a b n : Nat) (m : Nat) : ∀ (data : List PP) (i fk : Nat), n ≤ i + m → m < fk → a + n ≤ data.length → b + n ≤ data.length → data.length ≤ 100 → Keeps (aaq fu (a : Int) (b : Int) (n : Int) fk data (i : Int)) data.length := by
  induction m with
  | zero =>
    intro data i fk hm hf ha hb hl
    obtain ⟨fk, rfl⟩ := fkx fk
    rw [aaq, if_neg omg]
    exact ⟨data, rfl, rfl⟩
  | succ m ih =>
    intro data i fk hm hf ha hb hl
    obtain ⟨fk, rfl⟩ := fkx fk
    rw [aaq]
    by_cases h : (i : Int) < (n : Int)
    · have hA : (0 : Int) ≤ (a : Int) + (i : Int) ∧ (a : Int) + (i : Int) < (data.length : Int) := by omega
      have hB : (0 : Int) ≤ (b : Int) + (i : Int) ∧ (b : Int) + (i : Int) < (data.length : Int) := by omega
      rw [if_pos h]
      simp only [aad hA, aad hB, aad (aia ((a : Int) + (i : Int)) omg omg), aad (aia ((b : Int) + (i : Int)) omg omg), aad (aia ((i : Int) + 1) omg omg), zaq]
      have := ih (zae (zae data ((a : Int) + (i : Int)).toNat (el data ((b : Int) + (i : Int)))) ((b : Int) + (i : Int)).toNat (el data ((a : Int) + (i : Int)))) (i + 1) fk omg omg (by simp only [zaq]; omega) (by simp only [zaq]; omega) (by simp only [zaq]; omega)
      rw [zaq, zaq] at this
      exact this
    · rw [if_neg h]; exact ⟨data, rfl, rfl⟩
theorem tSwap (fu : Nat) (hfu : 1000 ≤ fu) (a b n : Int) (data : List PP) (ha0 : 0 ≤ a) (hb0 : 0 ≤ b) (hn0 : 0 ≤ n) (ha : a + n ≤ data.length) (hb : b + n ≤ data.length) (hl : data.length ≤ 100) : Keeps (aay fu data a b n) data.length := by
  obtain ⟨a, rfl⟩ : ∃ k : Nat, a = (k : Int) := ⟨a.toNat, by omega⟩
  obtain ⟨b, rfl⟩ : ∃ k : Nat, b = (k : Int) := ⟨b.toNat, by omega⟩
  obtain ⟨n, rfl⟩ : ∃ k : Nat, n = (k : Int) := ⟨n.toNat, by omega⟩
  unfold aay
  exact tSwap0 fu a b n n data 0 fu omg omg omg omg hl
theorem tRot0 (fu : Nat) (hfu : 1000 ≤ fu) (m : Nat) (t : Nat) : ∀ (data : List PP) (i j : Int) (fk : Nat), i + j ≤ (t : Int) → t < fk → 0 < i → 0 < j → i ≤ (m : Int) → (m : Int) + j ≤ (data.length : Int) → data.length ≤ 100 →
    ∃ d i', aax fu (m : Int) fk data i j = some (d, i') ∧ d.length = data.length ∧ 0 ≤ i' ∧ i' ≤ (m : Int) ∧ (m : Int) + i' ≤ (data.length : Int) := by
  induction t with
  | zero => intro data i j fk h; omega
  | succ t ih =>
    intro data i j fk h hf hi hj him hjm hl
    obtain ⟨fk, rfl⟩ := fkx fk
    rw [aax]
    by_cases hij : i = j
    · rw [if_pos hij]; exact ⟨data, i, rfl, rfl, by omega, by omega, by omega⟩
    · rw [if_neg hij]
      by_cases hlt : j < i
      · obtain ⟨d, h1, h2⟩ := tSwap fu hfu ((m : Int) - i) (m : Int) j data omg omg omg omg omg hl
        rw [if_pos hlt, aad (aia _ omg omg), h1, zab, aad (aia _ omg omg)]
        have := ih d (i - j) j fk omg omg omg omg omg omg omg
        rw [h2] at this
        exact this
      · obtain ⟨d, h1, h2⟩ := tSwap fu hfu ((m : Int) - i) ((m : Int) + j - i) i data omg omg omg omg omg hl
        rw [if_neg hlt, aad (aia _ omg omg), aad (aia _ omg omg), aad (aia _ omg omg), h1, zab, aad (aia _ omg omg)]
        have := ih d i (j - i) fk omg omg omg omg omg omg omg
        rw [h2] at this
        exact this
theorem tRot (fu : Nat) (hfu : 1000 ≤ fu) (data : List PP) (a m b : Int) (ha : 0 ≤ a) (ham : a < m) (hmb : m < b) (hb : b ≤ (data.length : Int)) (hl : data.length ≤ 100) : Keeps (abm fu data a m b) data.length := by
  obtain ⟨m, rfl⟩ : ∃ k : Nat, m = (k : Int) := ⟨m.toNat, by omega⟩
  unfold abm
  obtain ⟨d, i', h1, h2, h3, h4, h5⟩ := tRot0 fu hfu m 200 data ((m : Int) - a) (b - (m : Int)) fu omg omg omg omg omg omg hl
  obtain ⟨e, h6, h7⟩ := tSwap fu hfu ((m : Int) - i') (m : Int) i' d omg omg omg omg omg omg
  rw [aad (aia _ omg omg), aad (aia _ omg omg), h1, zab]
  simp only
  rw [aad (aia _ omg omg), h6, zab]
  exact ⟨e, rfl, by omega⟩
theorem wmid (x : Int) (h0 : 0 ≤ x) (h1 : x ≤ 100000) : zaa .i64 ((zaa .u64 x) / 2) = x / 2 := by
  rw [IntKind.wrap_u64, Int.emod_eq_of_lt h0 omg, wrap64_id omg omg]
theorem tM0 (fu : Nat) (data : List PP) (hl : data.length ≤ 100) (a : Int) (ha : 0 ≤ a ∧ a < (data.length : Int)) (t : Nat) : ∀ (i j : Int) (fk : Nat), j - i ≤ (t : Int) → t < fk → 0 ≤ i → i ≤ j → j ≤ (data.length : Int) →
    ∃ k, aan fu data a fk i j = some k ∧ i ≤ k ∧ k ≤ j := by
  induction t with
  | zero =>
    intro i j fk h hf h0 hij hj
    obtain ⟨fk, rfl⟩ := fkx fk
    rw [aan, if_neg omg]
    exact ⟨i, rfl, by omega, hij⟩
  | succ t ih =>
    intro i j fk h hf h0 hij hj
    obtain ⟨fk, rfl⟩ := fkx fk
    rw [aan]
    by_cases hlt : i < j
    · rw [if_pos hlt, aad (aia _ omg omg), wmid _ omg omg]
      have hm : 0 ≤ (i + j) / 2 ∧ (i + j) / 2 < (data.length : Int) := by omega
      simp only [aad hm, aad ha, hs1_eq, zab]
      by_cases hc : cmpV (el data ((i + j) / 2)).1 (el data a).1 < 0
      · rw [if_pos hc, aad (aia _ omg omg)]
        obtain ⟨k, h1, h2, h3⟩ := ih ((i + j) / 2 + 1) j fk omg omg omg omg hj
        exact ⟨k, h1, by omega, h3⟩
      · rw [if_neg hc]
        obtain ⟨k, h1, h2, h3⟩ := ih i ((i + j) / 2) fk omg omg omg omg omg
        exact ⟨k, h1, h2, by omega⟩
    · rw [if_neg hlt]; exact ⟨i, rfl, by omega, hij⟩
theorem tM2 (fu : Nat) (data : List PP) (hl : data.length ≤ 100) (a : Int) (ha : 0 ≤ a ∧ a < (data.length : Int)) (t : Nat) : ∀ (i j : Int) (fk : Nat), j - i ≤ (t : Int) → t < fk → 0 ≤ i → i ≤ j → j ≤ (data.length : Int) →
    ∃ k, aam fu data a fk i j = some k ∧ i ≤ k ∧ k ≤ j := by
  induction t with
  | zero =>
    intro i j fk h hf h0 hij hj
    obtain ⟨fk, rfl⟩ := fkx fk
    rw [aam, if_neg omg]
    exact ⟨i, rfl, by omega, hij⟩
  | succ t ih =>
    intro i j fk h hf h0 hij hj
    obtain ⟨fk, rfl⟩ := fkx fk
    rw [aam]
    by_cases hlt : i < j
    · rw [if_pos hlt, aad (aia _ omg omg), wmid _ omg omg]
      have hm : 0 ≤ (i + j) / 2 ∧ (i + j) / 2 < (data.length : Int) := by omega
      simp only [aad hm, aad ha, hs1_eq, zab]
      by_cases hc : cmpV (el data a).1 (el data ((i + j) / 2)).1 < 0
      · rw [if_pos hc]
        obtain ⟨k, h1, h2, h3⟩ := ih i ((i + j) / 2) fk omg omg omg omg omg
        exact ⟨k, h1, h2, by omega⟩
      · rw [if_neg hc, aad (aia _ omg omg)]
        obtain ⟨k, h1, h2, h3⟩ := ih ((i + j) / 2 + 1) j fk omg omg omg omg hj
        exact ⟨k, h1, by omega, h3⟩
    · rw [if_neg hlt]; exact ⟨i, rfl, by omega, hij⟩
theorem tM1 (fu : Nat) (v : Int) (t : Nat) : ∀ (data : List PP) (k : Int) (fk : Nat), v - k ≤ (t : Int) → t < fk → 0 ≤ k → v ≤ (data.length : Int) → 0 ≤ v → k ≤ 1000 → data.length ≤ 100 → Keeps (aat fu v fk data k) data.length := by
  induction t with
  | zero =>
    intro data k fk h hf hk hv h0 h1 hl
    obtain ⟨fk, rfl⟩ := fkx fk
    rw [aat, aad (aia _ omg omg), if_neg omg]
    exact ⟨data, rfl, rfl⟩
  | succ t ih =>
    intro data k fk h hf hk hv h0 h1 hl
    obtain ⟨fk, rfl⟩ := fkx fk
    rw [aat, aad (aia _ omg omg)]
    by_cases hlt : k < v - 1
    · have hA : (0 : Int) ≤ k ∧ k < (data.length : Int) := by omega
      have hB : (0 : Int) ≤ k + 1 ∧ k + 1 < (data.length : Int) := by omega
      rw [if_pos hlt]
      simp only [aad hA, aad hB, aad (aia (k + 1) omg omg), zaq]
      have := ih (zae (zae data k.toNat (el data (k + 1))) (k + 1).toNat (el data k)) (k + 1) fk omg omg omg (by simp only [zaq]; omega) h0 omg (by simp only [zaq]; omega)
      rw [zaq, zaq] at this
      exact this
    · rw [if_neg hlt]; exact ⟨data, rfl, rfl⟩
theorem tM3 (fu : Nat) (v : Int) (hv : 0 ≤ v) (t : Nat) : ∀ (data : List PP) (k : Int) (fk : Nat), k - v ≤ (t : Int) → t < fk → k < (data.length : Int) → data.length ≤ 100 → Keeps (aas fu v fk data k) data.length := by
  induction t with
  | zero =>
    intro data k fk h hf hk hl
    obtain ⟨fk, rfl⟩ := fkx fk
    rw [aas, if_neg omg]
    exact ⟨data, rfl, rfl⟩
  | succ t ih =>
    intro data k fk h hf hk hl
    obtain ⟨fk, rfl⟩ := fkx fk
    rw [aas]
    by_cases hlt : v < k
    · have hA : (0 : Int) ≤ k ∧ k < (data.length : Int) := by omega
      have hB : (0 : Int) ≤ k - 1 ∧ k - 1 < (data.length : Int) := by omega
      rw [if_pos hlt]
      simp only [aad hA, aad hB, aad (aia (k - 1) omg omg), zaq]
      have := ih (zae (zae data k.toNat (el data (k - 1))) (k - 1).toNat (el data k)) (k - 1) fk omg omg (by simp only [zaq]; omega) (by simp only [zaq]; omega)
      rw [zaq, zaq] at this
      exact this
    · rw [if_neg hlt]; exact ⟨data, rfl, rfl⟩
theorem tM4 (fu : Nat) (data : List PP) (hl : data.length ≤ 100) (a m b : Int) (h0 : 0 ≤ a) (hab : a + b ≤ 200) (hb0 : 0 ≤ b) (hm0 : 0 ≤ m) (hm1 : m ≤ 100) (lo hi : Int) (hlo : 0 ≤ lo) (hhi : hi ≤ (data.length : Int))
    (hp : ∀ c, lo ≤ c → c < hi → 0 ≤ ((a + b) / 2 + m - 1) - c ∧ ((a + b) / 2 + m - 1) - c < (data.length : Int)) (t : Nat) : ∀ (i j : Int) (fk : Nat), j - i ≤ (t : Int) → t < fk → lo ≤ i → i ≤ j → j ≤ hi →
    ∃ k, aal fu data a m b fk i j = some k ∧ i ≤ k ∧ k ≤ j := by
  induction t with
  | zero =>
    intro i j fk h hf h1 hij hj
    obtain ⟨fk, rfl⟩ := fkx fk
    rw [aal, if_neg omg]
    exact ⟨i, rfl, by omega, hij⟩
  | succ t ih =>
    intro i j fk h hf h1 hij hj
    obtain ⟨fk, rfl⟩ := fkx fk
    rw [aal]
    by_cases hlt : i < j
    · have hpc := hp ((i + j) / 2) omg omg
      have hm : 0 ≤ (i + j) / 2 ∧ (i + j) / 2 < (data.length : Int) := by omega
      rw [if_pos hlt, aad (aia _ omg omg), wmid (i + j) omg omg, wmid (a + b) omg omg]
      simp only [aad hm, aad hpc, aad (aia ((a + b) / 2 + m - 1 - (i + j) / 2) omg omg), hs1_eq, zab]
      by_cases hc : cmpV (el data ((a + b) / 2 + m - 1 - (i + j) / 2)).1 (el data ((i + j) / 2)).1 < 0
      · rw [if_pos hc]
        obtain ⟨k, g1, g2, g3⟩ := ih i ((i + j) / 2) fk omg omg omg omg omg
        exact ⟨k, g1, g2, by omega⟩
      · rw [if_neg hc, aad (aia _ omg omg)]
        obtain ⟨k, g1, g2, g3⟩ := ih ((i + j) / 2 + 1) j fk omg omg omg omg hj
        exact ⟨k, g1, by omega, g3⟩
    · rw [if_neg hlt]; exact ⟨i, rfl, by omega, hij⟩
theorem tSym (z : Nat) : ∀ (fu : Nat) (data : List PP) (a m b : Int), b - a ≤ (z : Int) → z + 1001 ≤ fu → 0 ≤ a → a < m → m < b → b ≤ (data.length : Int) → data.length ≤ 100 → Keeps (aaj fu data a m b) data.length := by
  induction z with
  | zero => intro fu data a m b h; omega
  | succ z ih =>
    intro fu data a m b h hf ha ham hmb hb hl
    obtain ⟨fu, rfl⟩ : ∃ k, fu = k + 1 := ⟨fu - 1, by omega⟩
    rw [aaj, aad (aia _ omg omg)]
    by_cases h1 : m - a = 1
    · obtain ⟨k, g1, g2, g3⟩ := tM0 fu data hl a omg 200 m b fu omg omg omg omg hb
      obtain ⟨d, g4, g5⟩ := tM1 fu k 200 data a fu omg omg ha omg omg omg hl
      rw [if_pos h1, g1, zab, g4, zab, zab, Sum.elim_inr]
      exact ⟨d, rfl, g5⟩
    · rw [if_neg h1, zab, zau, aad (aia _ omg omg)]
      by_cases h2 : b - m = 1
      · obtain ⟨k, g1, g2, g3⟩ := tM2 fu data hl m omg 200 a m fu omg omg ha omg omg
        obtain ⟨d, g4, g5⟩ := tM3 fu k omg 200 data m fu omg omg omg hl
        rw [if_pos h2, g1, zab, g4, zab, zab, Sum.elim_inr]
        exact ⟨d, rfl, g5⟩
      · rw [if_neg h2, zab, zau, aad (aia _ omg omg), wmid (a + b) omg omg, aad (aia _ omg omg)]
        have hpair : ∃ lo hi : Int, (if (a + b) / 2 < m then gd (acy ((a + b) / 2 + m - b)) (some ((a + b) / 2 + m - b, (a + b) / 2)) else some (a, m)) = some (lo, hi) ∧ a ≤ lo ∧ lo ≤ hi ∧ hi ≤ m ∧ hi ≤ (a + b) / 2 ∧ (∀ c, lo ≤ c → c ≤ hi → (a + b) / 2 + m - c ≤ b ∧ m ≤ (a + b) / 2 + m - c) := by
          by_cases hmm : (a + b) / 2 < m
          · exact ⟨_, _, by rw [if_pos hmm, aad (aia _ omg omg)], by omega, by omega, by omega, by omega, fun c h1 h2 => by omega⟩
          · exact ⟨a, m, by rw [if_neg hmm], by omega, by omega, by omega, by omega, fun c h1 h2 => by omega⟩
        obtain ⟨lo, hi, e, p1, p2, p3, p4, p5⟩ := hpair
        rw [e, zab, aad (aia _ omg omg)]
        simp only
        obtain ⟨st, g1, g2, g3⟩ := tM4 fu data hl a m b ha omg omg omg omg lo hi omg omg (fun c c1 c2 => by have := p5 c c1 omg; omega) 200 lo hi fu omg omg omg p2 omg
        have p6 := p5 st g2 g3
        rw [g1, zab, aad (aia _ omg omg)]
        have hrot : ∃ d1, (((if st < m then some (decide (m < (a + b) / 2 + m - st)) else some false)).bind fun (v1323 : Bool) => (bif v1323 then ((abm fu data st m ((a + b) / 2 + m - st)).bind fun (y1328 : List PP) => some y1328) else some data)) = some d1 ∧ d1.length = data.length := by
          by_cases c1 : st < m
          · rw [if_pos c1, zab]
            by_cases c2 : m < (a + b) / 2 + m - st
            · obtain ⟨d, k1, k2⟩ := tRot fu omg data st m ((a + b) / 2 + m - st) omg c1 c2 omg hl
              rw [decide_eq_true c2, cond_true, k1]; exact ⟨d, rfl, k2⟩
            · rw [decide_eq_false c2]; exact ⟨data, rfl, rfl⟩
          · rw [if_neg c1]; exact ⟨data, rfl, rfl⟩
        obtain ⟨d1, r1, r2⟩ := hrot
        rw [r1, zab]
        have hs1 : ∃ d2, (((if a < st then some (decide (st < (a + b) / 2)) else some false)).bind fun (v1360 : Bool) => (bif v1360 then ((aaj fu d1 a st ((a + b) / 2)).bind fun (y1365 : List PP) => some y1365) else some d1)) = some d2 ∧ d2.length = data.length := by
          by_cases c1 : a < st
          · rw [if_pos c1, zab]
            by_cases c2 : st < (a + b) / 2
            · obtain ⟨d, k1, k2⟩ := ih fu d1 a st ((a + b) / 2) omg omg ha c1 c2 omg omg
              rw [decide_eq_true c2, cond_true, k1]; exact ⟨d, rfl, by omega⟩
            · rw [decide_eq_false c2]; exact ⟨d1, rfl, r2⟩
          · rw [if_neg c1]; exact ⟨d1, rfl, r2⟩
        obtain ⟨d2, s1, s2⟩ := hs1
        rw [s1, zab]
        by_cases c1 : (a + b) / 2 < (a + b) / 2 + m - st
        · rw [if_pos c1, zab]
          by_cases c2 : (a + b) / 2 + m - st < b
          · obtain ⟨d, k1, k2⟩ := ih fu d2 ((a + b) / 2) ((a + b) / 2 + m - st) b omg omg omg c1 c2 omg omg
            rw [decide_eq_true c2, cond_true, k1]; exact ⟨d, rfl, by omega⟩
          · rw [decide_eq_false c2]; exact ⟨d2, rfl, s2⟩
        · rw [if_neg c1]; exact ⟨d2, rfl, s2⟩
end Go.Wk
