/-
  The law HeaderVias holds, second form: for every value and every Via of at most 1048576 values and letters the call returns true; no condition beyond the statement's own (part 3 of 8).
-/
import Derived.Test.YtpbfkeakaefenaaGreatDoorHq2
import Derived.Laws.Bits64
set_option linter.unusedVariables false
set_option linter.unusedSimpArgs false
set_option maxRecDepth 100000
namespace Go.Wk
open Go.Px
open Bool renaming and_eq_true → zav, false_or → zaJ, not_false → zaA, not_true → zar, true_and → zas
open Go.Lib renaming cut → zaK, index → zaq
open List renaming all_cons → zaG, append_nil → zaw, length → zaH, length_append → zaf, length_cons → zae, length_drop → zat, length_nil → zao, length_singleton → zag, length_take → zah
open Option renaming bind_some → zab
open Sum renaming elim → zay, elim_inl → zau
theorem rf_nlab (c : UInt8) : ((amm FU c).bind fun (y288 : Bool) => (bif (!y288) then ((aid FU c).bind fun (y295 : Bool) => (bif (!y295) then some (!decide (c = (45 : UInt8))) else some false)) else some false)) = some (!labB c) := by
  rw [rf_letter, rf_digit]
  unfold labB
  by_cases h : c = 45
  · subst h; rfl
  · rw [show (c == 45) = false by simpa using h, decide_eq_false h]
    cases letterB c <;> cases adz c <;> rfl
theorem label_lp (x : Str) (hx : x.length ≤ 4194304) (l : Str) : ∀ (p : Str) (fk : Nat) (w : Bool), x = p ++ l → l.length < fk →
    adt FU x fk w (p.length : Int) = some (if l.all labB = true then .inl (w || labW l) else .inr (false, false)) := by
  induction l with
  | nil =>
    intro p fk w h hf
    obtain ⟨fk, rfl⟩ := fkx fk
    rw [zaw] at h
    rw [adt, if_neg (by rw [h]; omega)]; simp [labW]
  | cons c l ih =>
    intro p fk w h hf
    obtain ⟨fk, rfl⟩ := fkx fk
    have hl := congrArg zaH h
    simp only [zaf, zae] at hl hf
    have hb : (0 : Int) ≤ (p.length : Int) ∧ (p.length : Int) < (x.length : Int) := by omega
    have ha : at_ x (p.length : Int) = c := by rw [h, at_mid]
    have ok : abx ((p.length : Int) + 1) := ahb _ omg omg
    have hih := ih (p ++ [c]) fk (w || !adz c) (by rw [h]; simp) omg
    rw [← aip p c] at hih
    rw [adt, if_pos hb.2]
    simp only [aac hb, ha]
    rw [rf_nlab, zab, zaG]
    cases hc : labB c with
    | false => rw [zaA, cond_true, Bool.false_and, if_neg (show ¬ (false = true) by decide)]
    | true =>
      rw [zar, cond_false, zas]
      have e : (bif w then gd (abx ((p.length : Int) + 1)) (adt FU x fk true ((p.length : Int) + 1)) else (aid FU c).bind fun (y308 : Bool) => gd (abx ((p.length : Int) + 1)) (adt FU x fk (!y308) ((p.length : Int) + 1))) = adt FU x fk (w || !adz c) ((p.length : Int) + 1) := by
        cases w with
        | true => rw [cond_true, aac ok, Bool.true_or]
        | false => rw [cond_false, rf_digit, zab, aac ok, zaJ]
      rw [e, hih]
      simp [labW, Bool.or_assoc]
theorem label_eq (x : Str) (hx : x.length ≤ 4194304) : anh FU x = some (if aqr x = true then (true, labW x) else (false, false)) := by
  have hlp := label_lp x hx x [] FU false (by simp) (by rw [ahk]; omega)
  have hlp' : adt FU x FU false (0 : Int) = _ := hlp
  unfold anh
  rw [badL_eq x hx, zab, lab_bad]
  cases hb : badL x with
  | true => rw [cond_true]; simp
  | false =>
    rw [cond_false, zaA, zas, hlp', zab]
    cases x.all labB with
    | true => simp
    | false => simp
def numOk (x : Str) : Bool := decide (1 ≤ x.length) && decide (x.length ≤ 3) && !(decide (1 < x.length) && (at_ x 0 == 48)) && x.all adz && decide (agd x ≤ 255)
theorem num_lp (x : Str) (hx : x.length ≤ 15) (l : Str) : ∀ (p : Str) (fk : Nat), x = p ++ l → l.length < fk → p.all adz = true →
    aez FU x fk (agd p : Int) (p.length : Int) = some (if l.all adz = true then .inl (agd x : Int) else .inr false) := by
  induction l with
  | nil =>
    intro p fk h hf hp
    obtain ⟨fk, rfl⟩ := fkx fk
    rw [zaw] at h
    rw [aez, if_neg (by rw [h]; omega), h]; rfl
  | cons c l ih =>
    intro p fk h hf hp
    obtain ⟨fk, rfl⟩ := fkx fk
    have hl := congrArg zaH h
    simp only [zaf, zae] at hl hf
    have hb : (0 : Int) ≤ (p.length : Int) ∧ (p.length : Int) < (x.length : Int) := by omega
    have ha : at_ x (p.length : Int) = c := by rw [h, at_mid]
    have hv := decVal_lt 14 p omg hp
    rw [aez, if_pos hb.2, aac hb, ha, rf_digit, zab, zaG]
    cases hc : adz c with
    | false => rfl
    | true =>
      have hd := dig_sub c hc
      rw [zar, cond_false, hd.1, aac (ahb _ omg omg), aac hb, aac (ahb _ omg omg), aac (ahb _ omg omg), zas]
      have e : (10 : Int) * (agd p : Int) + ((c.toNat - 48 : Nat) : Int) = (agd (p ++ [c]) : Int) := by rw [aoa]; omega
      rw [e, aip p c]
      exact ih (p ++ [c]) fk (by rw [h]; simp) omg (by rw [List.all_append, hp]; simpa using hc)
theorem num_eq (x : Str) : aml FU x = some (numOk x) := by
  unfold aml numOk
  by_cases h1 : (x.length : Int) < 1
  · rw [if_pos h1, show decide (1 ≤ x.length) = false by (rw [decide_eq_false_iff_not]; omega)]; rfl
  · rw [if_neg h1, show decide (1 ≤ x.length) = true by (rw [decide_eq_true_eq]; omega), zas]
    by_cases h2 : 3 < (x.length : Int)
    · rw [if_pos h2, show decide (x.length ≤ 3) = false by (rw [decide_eq_false_iff_not]; omega)]; rfl
    · rw [if_neg h2, show decide (x.length ≤ 3) = true by (rw [decide_eq_true_eq]; omega), zas]
      have hlp := num_lp x omg x [] FU (by simp) (by rw [ahk]; omega) rfl
      have hlp' : aez FU x FU (0 : Int) (0 : Int) = _ := hlp
      have fin : ((aez FU x FU (0 : Int) (0 : Int)).bind fun (j59 : (Int ⊕ Bool)) => zay (fun (v61 : Int) => some (decide (v61 ≤ (255 : Int)))) (fun q => some q) j59) = some (x.all adz && decide (agd x ≤ 255)) := by
        rw [hlp', zab]
        cases ha : x.all adz with
        | false => rfl
        | true =>
          rw [if_pos rfl, zau, zas]
          congr 1
          rw [Bool.eq_iff_iff]; simp; omega
      by_cases h3 : 1 < (x.length : Int)
      · rw [if_pos h3, aac omg, zab, show decide (1 < x.length) = true by (rw [decide_eq_true_eq]; omega), zas]
        by_cases h4 : at_ x 0 = 48
        · rw [decide_eq_true h4, show (at_ x 0 == 48) = true by simpa using h4]; rfl
        · rw [decide_eq_false h4, cond_false, show (at_ x 0 == 48) = false by simpa using h4, fin]; rfl
      · rw [if_neg h3, zab, cond_false, show decide (1 < x.length) = false by (rw [decide_eq_false_iff_not]; omega), fin]; rfl
def dg (n : Fin 10) : UInt8 := UInt8.ofNat (48 + n.val)
theorem dg_of : ∀ c : UInt8, adz c = true → ∃ n : Fin 10, c = dg n := aff _ (by decide +kernel)
theorem oct1 : ∀ a : Fin 10, octOk [dg a] = numOk [dg a] := by decide +kernel
theorem oct2 : ∀ a b : Fin 10, octOk [dg a, dg b] = numOk [dg a, dg b] := by decide +kernel
theorem oct3 : ∀ a b c : Fin 10, octOk [dg a, dg b, dg c] = numOk [dg a, dg b, dg c] := by decide +kernel
theorem itoa255 : ∀ n : Fin 256, (Lib.itoa (n.val : Int)).length ≤ 3 := by decide +kernel
theorem oct_num (x : Str) : octOk x = numOk x := by
  cases hd : x.all adz with
  | false => rw [octOk_no1 x hd, numOk, hd]; simp
  | true =>
    have hall := List.all_eq_true.1 hd
    match x, hd, hall with
    | [], _, _ => rfl
    | [a], _, hall =>
      obtain ⟨n, rfl⟩ := dg_of a (hall a (by simp))
      exact oct1 n
    | [a, b], _, hall =>
      obtain ⟨n, rfl⟩ := dg_of a (hall a (by simp))
      obtain ⟨m, rfl⟩ := dg_of b (hall b (by simp))
      exact oct2 n m
    | [a, b, c], _, hall =>
      obtain ⟨n, rfl⟩ := dg_of a (hall a (by simp))
      obtain ⟨m, rfl⟩ := dg_of b (hall b (by simp))
      obtain ⟨k, rfl⟩ := dg_of c (hall c (by simp))
      exact oct3 n m k
    | a :: b :: c :: d :: l, hd, _ =>
      have h1 : numOk (a :: b :: c :: d :: l) = false := by
        unfold numOk
        rw [show decide ((a :: b :: c :: d :: l).length ≤ 3) = false by (rw [decide_eq_false_iff_not]; simp only [zae]; omega)]; simp
      rw [h1]
      by_cases hv : agd (a :: b :: c :: d :: l) ≤ 255
      · refine octOk_no2 _ (.inr fun h => ?_)
        have := itoa255 ⟨agd (a :: b :: c :: d :: l), by omega⟩
        simp only at this
        rw [← h] at this
        simp only [zae] at this
        omega
      · exact octOk_no2 _ (.inl (.inr omg))
theorem host_lp (X : List Str) (hX : X.length ≤ 4194305) (hx : ∀ x ∈ X, x.length ≤ 4194304) (q : List Str) : ∀ (p : List Str) (fk : Nat) (four word : Bool), X = p ++ q → q.length < fk →
    agb FU X fk four word (p.length : Int) = some (if q.all aqr = true then .inl (four && q.all numOk, word || q.any labW) else .inr ([], false)) := by
  induction q with
  | nil =>
    intro p fk four word h hf
    obtain ⟨fk, rfl⟩ := fkx fk
    rw [zaw] at h
    rw [agb, if_neg (by rw [h]; omega)]; simp
  | cons a q ih =>
    intro p fk four word h hf
    obtain ⟨fk, rfl⟩ := fkx fk
    have hl := congrArg zaH h
    simp only [zaf, zae] at hl hf
    have hb : (0 : Int) ≤ (p.length : Int) ∧ (p.length : Int) < (X.length : Int) := by omega
    have he : el X (p.length : Int) = a := by rw [h]; simp [el]
    have ha : a.length ≤ 4194304 := hx a (by rw [h]; simp)
    have ok : abx ((p.length : Int) + 1) := ahb _ omg omg
    have hih := fun f w => ih (p ++ [a]) fk f w (by rw [h]; simp) omg
    rw [show ((p ++ [a]).length : Int) = (p.length : Int) + 1 by simp] at hih
    rw [agb, if_pos hb.2, aac hb, aac hb, he, label_eq a ha, zab, zaG]
    cases hg : aqr a with
    | false => rw [if_neg (show ¬ (false = true) by decide)]; simp
    | true =>
      rw [if_pos rfl, zar, cond_false, zas]
      have e : (bif word then some true else some (labW a)) = some (word || labW a) := by cases word <;> rfl
      simp only
      rw [e, zab]
      cases four with
      | true => rw [cond_true, aac hb, aac hb, num_eq, zab, aac ok, hih]; simp [Bool.or_assoc]
      | false => rw [cond_false, aac ok, hih]; simp [Bool.or_assoc]
def brkB (s : Str) : Bool := decide (2 ≤ s.length) && (at_ s 0 == 91) && (at_ s ((s.length : Int) - 1) == 93)
def aii (s : Str) : Str × Bool :=
  if brkB s = true then (if (grpsP (sub s 1 ((s.length : Int) - 1))).2 = true then ([91] ++ (grpsP (sub s 1 ((s.length : Int) - 1))).1 ++ [93], true) else ([], false))
  else if aqy s = true then (s, true) else if namedP s = true then (acn s, true) else ([], false)
theorem brk_eq (s : Str) (hs : s.length ≤ 4194304) : (if (2 : Int) ≤ (s.length : Int) then (gd (0 ≤ (0 : Int) ∧ (0 : Int) < (s.length : Int)) <| (if (at_ s (0 : Int)) = (91 : UInt8) then (gd (abx ((s.length : Int) - (1 : Int))) <| (gd (0 ≤ ((s.length : Int) - (1 : Int)) ∧ ((s.length : Int) - (1 : Int)) < (s.length : Int)) <| some (decide ((at_ s ((s.length : Int) - (1 : Int))) = (93 : UInt8))))) else some false)) else some false) = some (brkB s) := by
  unfold brkB
  by_cases h1 : (2 : Int) ≤ (s.length : Int)
  · rw [if_pos h1, show decide (2 ≤ s.length) = true by (rw [decide_eq_true_eq]; omega), zas, aac omg]
    by_cases h2 : at_ s 0 = 91
    · rw [if_pos h2, show (at_ s 0 == 91) = true by simpa using h2, zas, aac (ahb _ omg omg), aac omg]; rfl
    · rw [if_neg h2, show (at_ s 0 == 91) = false by simpa using h2]; rfl
  · rw [if_neg h1, show decide (2 ≤ s.length) = false by (rw [decide_eq_false_iff_not]; omega)]; rfl
theorem brk_len {s : Str} (h : brkB s = true) : 2 ≤ s.length := by
  unfold brkB at h
  simp only [zav, decide_eq_true_eq] at h
  exact h.1.1
theorem grpsP_len (s : Str) : (grpsP s).1.length ≤ 60000000 := by
  unfold grpsP
  by_cases h39 : 39 < s.length
  · rw [if_pos h39]; simp
  · rw [if_neg h39]
    have hc := cut_len s [58, 58]
    have j1 := joinL0 (zaK s [58, 58]).1 omg
    have j2 := joinL0 (zaK s [58, 58]).2.1 omg
    split
    · have h1 := grpList_bd s
      have h2 := join_len [58] 4 (aiu s).1 h1.2
      simp only [zag] at h2 ⊢
      omega
    · split
      · simp
      · simp only [zaf, zae, zao]; omega
theorem adHost_eq (s : Str) (hs : s.length ≤ 4194304) : agq FU s = some (aii s) := by
  unfold agq aii
  rw [brk_eq s hs, zab]
  cases hb : brkB s with
  | true =>
    have h2 := brk_len hb
    have hl := grpsP_len (sub s 1 ((s.length : Int) - 1))
    rw [cond_true, aac (ahb _ omg omg), aac omg, adGroups_eq, zab, if_pos rfl]
    cases hg : (grpsP (sub s 1 ((s.length : Int) - 1))).2 with
    | false => rfl
    | true => rw [zar, cond_false, aac (by simp only [zag]; omega), aac (by simp only [zaf, zag]; omega), if_pos rfl]
  | false =>
    rw [cond_false, adNumbers_eq, zab, if_neg (show ¬ (false = true) by decide)]
    cases hn : aqy s with
    | true => rfl
    | false =>
      rw [cond_false, adNamed_eq s hs, zab, if_neg (show ¬ (false = true) by decide)]
      cases hm : namedP s with
      | true => rw [cond_true, apm s hs]; rfl
      | false => rfl
theorem sum_le (l : List Str) (m : Nat) (h : ∀ x ∈ l, x.length ≤ m) : (l.map zaH).sum ≤ m * l.length := by
  induction l with
  | nil => simp
  | cons a l ih =>
    have h1 := h a List.mem_cons_self
    have h2 := ih fun x hx => h x (List.mem_cons_of_mem _ hx)
    rw [List.map_cons, List.sum_cons, zae, Nat.mul_succ]
    omega
theorem grpOk_len (g : Str) (h : anb g = true) : g.length ≤ 4 := by
  unfold anb at h
  simp only [zav, decide_eq_true_eq] at h
  exact h.1.2
theorem grpList_lens (x : Str) (h : (aiu x).2 = true) : x.length + 1 ≤ 5 * (aiu x).1.length := by
  cases ha : (spl 58 x).all anb with
  | false => rw [grpList_no x ha] at h; cases h
  | true =>
    rw [grpList_yes x ha, List.length_map]
    have h1 := sum_le (spl 58 x) 4 fun y hy => grpOk_len y (List.all_eq_true.1 ha y hy)
    have h2 := spl_lens 58 x
    omega
theorem grpL0_lens (x : Str) (h : (aji x).2 = true) : x.length ≤ 5 * (aji x).1.length := by
  by_cases hx : x = []
  · subst hx; simp
  · rw [aqz x hx] at h ⊢
    have := grpList_lens x h
    omega
theorem index2_bd : ∀ s : Str, zaq s [58, 58] ≠ -1 → zaq s [58, 58] + 2 ≤ (s.length : Int)
  | [], h => absurd rfl h
  | b :: l, h => by
    rw [index_cons] at h ⊢
    by_cases hp : ([58, 58] : Str).isPrefixOf (b :: l) = true
    · rw [if_pos hp]
      cases l with
      | nil => simp [List.isPrefixOf] at hp
      | cons c l => simp only [zae]; omega
    · rw [if_neg hp] at h ⊢
      by_cases hi : zaq l [58, 58] = -1
      · rw [if_pos hi] at h; exact absurd rfl h
      · have := index2_bd l hi
        rw [if_neg hi, zae]; omega
theorem six_grps (s : Str) : (sixQ s).2 = (grpsP s).2 ∧ ((grpsP s).2 = true → (sixQ s).1 = (grpsP s).1) := by
  unfold sixQ grpsP
  by_cases h39 : 39 < s.length
  · rw [if_pos h39]
    refine ⟨?_, fun h => by cases h⟩
    have hne : s ≠ [] := by intro e; subst e; simp at h39
    split
    · rw [aqz s hne]
      cases h2 : (aiu s).2 with
      | false => rfl
      | true =>
        have := grpList_lens s h2
        rw [zas, decide_eq_false_iff_not]
        omega
    · rename_i hcut
      unfold sixP
      have hi : zaq s [58, 58] ≠ -1 := by
        intro e; rw [cut_eq, if_pos e] at hcut; exact hcut rfl
      have hbd := index2_bd s hi
      have hge := index_ge [58, 58] s
      have h1 : (zaK s [58, 58]).1.length + 2 + (zaK s [58, 58]).2.1.length = s.length := by
        rw [cut_eq, if_neg hi]
        simp only [zah, zat, zae, zao]
        omega
      cases ha : (aji (zaK s [58, 58]).1).2 with
      | false => rfl
      | true =>
        cases hb : (aji (zaK s [58, 58]).2.1).2 with
        | false => rfl
        | true =>
          have la := grpL0_lens _ ha
          have lb := grpL0_lens _ hb
          rw [decide_eq_true omg]; rfl
  · rw [if_neg h39]
    split
    · by_cases hs : s = []
      · subst hs
        exact ⟨rfl, fun h => by cases h⟩
      · rw [aqz s hs]; exact ⟨rfl, fun _ => rfl⟩
    · unfold sixP
      split <;> exact ⟨rfl, fun _ => rfl⟩
theorem spl_all (c : UInt8) (p : UInt8 → Bool) : ∀ s : Str, (∀ x ∈ spl c s, x.all p = true) → ∀ b ∈ s, p b = true ∨ b = c
  | [], _, b, hb => by simp at hb
  | d :: l, h, b, hb => by
    by_cases hd : d = c
    · subst hd
      rw [arj] at h
      rcases List.mem_cons.1 hb with rfl | hb
      · exact .inr rfl
      · exact spl_all d p l (fun x hx => h x (List.mem_cons_of_mem _ hx)) b hb
    · rw [ari c d l hd] at h
      cases hx : spl c l with
      | nil => exact absurd hx (spl_ne c l)
      | cons y r =>
        rw [hx] at h
        have h0 := h ([d] ++ y) List.mem_cons_self
        rw [List.all_append, zav] at h0
        rcases List.mem_cons.1 hb with rfl | hb
        · left; simpa using h0.1
        · refine spl_all c p l (fun x hx' => ?_) b hb
          rw [hx] at hx'
          rcases List.mem_cons.1 hx' with rfl | hx'
          · exact h0.2
          · exact h x (List.mem_cons_of_mem _ hx')
theorem dig_low : ∀ c : UInt8, adz c = true → akq c = c := aff _ (by decide +kernel)
theorem dig_lab : ∀ c : UInt8, adz c = true → labB c = true ∧ c ≠ 45 := aff _ (by decide +kernel)
theorem num_parts (x : Str) (h : numOk x = true) : 1 ≤ x.length ∧ x.length ≤ 3 ∧ x.all adz = true := by
  unfold numOk at h
  simp only [zav, decide_eq_true_eq] at h
  exact ⟨h.1.1.1.1, h.1.1.1.2, h.1.2⟩
theorem at_mem (x : Str) (k : Nat) (h : k < x.length) : at_ x (k : Int) ∈ x := by
  simp [at_, h]
theorem num_lab (x : Str) (h : numOk x = true) : aqr x = true := by
  obtain ⟨h1, h2, h3⟩ := num_parts x h
  have hall := List.all_eq_true.1 h3
  have e0 := (dig_lab _ (hall _ (at_mem x 0 omg))).2
  have e1 := (dig_lab _ (hall _ (at_mem x (x.length - 1) omg))).2
  have ei : (((x.length - 1 : Nat)) : Int) = (x.length : Int) - 1 := by omega
  rw [ei] at e1
  unfold aqr
  rw [decide_eq_true h1, decide_eq_true omg, show (at_ x 0 == 45) = false by simpa using e0, show (at_ x ((x.length : Int) - 1) == 45) = false by simpa using e1, List.all_eq_true.2 fun c hc => (dig_lab c (hall c hc)).1]
  rfl
theorem lowerL_id (s : Str) (h : ∀ b ∈ s, akq b = b) : acn s = s := by
  unfold acn
  conv => rhs; rw [← List.map_id s]
  exact List.map_congr_left fun b hb => h b hb
theorem rfHost_eq (s : Str) (hs : s.length ≤ 4194304) : ake FU s = some (aii s) := by
  unfold ake aii
  rw [brk_eq s hs, zab]
  cases hb : brkB s with
  | true =>
    have h2 := brk_len hb
    have hl := grpsP_len (sub s 1 ((s.length : Int) - 1))
    have hsl : (sub s 1 ((s.length : Int) - 1)).length ≤ 4194304 := by rw [anx]; omega
    obtain ⟨g1, g2⟩ := six_grps (sub s 1 ((s.length : Int) - 1))
    rw [cond_true, aac (ahb _ omg omg), aac omg, six_eq _ hsl, zab, if_pos rfl, g1]
    cases hg : (grpsP (sub s 1 ((s.length : Int) - 1))).2 with
    | false => rfl
    | true => rw [zar, cond_false, g2 hg, aac (by simp only [zag]; omega), aac (by simp only [zaf, zag]; omega), if_pos rfl]
  | false =>
    have hsum := arh 46 s
    have hlp := host_lp (spl 46 s) omg (fun x hx => Nat.le_trans (hsum.2 x hx) hs) (spl 46 s) [] FU (decide (((spl 46 s).length : Int) = 4)) false (by simp) (by rw [ahk]; omega)
    have hlp' : agb FU (spl 46 s) FU (decide (((spl 46 s).length : Int) = 4)) false (0 : Int) = _ := hlp
    rw [cond_false, pieces_eq s 46 hs, zab, hlp', zab, if_neg (show ¬ (false = true) by decide), alp s omg]
    have hlens := spl_lens 46 s
    cases hall : (spl 46 s).all aqr with
    | false =>
      have hn : aqy s = false := by
        cases hn : aqy s with
        | false => rfl
        | true =>
          exfalso
          unfold aqy at hn
          simp only [zav] at hn
          have : (spl 46 s).all aqr = true := List.all_eq_true.2 fun x hx => num_lab x (by rw [← oct_num]; exact List.all_eq_true.1 hn.1.2 x hx)
          rw [hall] at this; cases this
      have hm : namedP s = false := by unfold namedP; rw [hall]; simp
      rw [hn, hm]; rfl
    | true =>
      rw [if_pos rfl, zau, zaJ]
      simp only
      cases hn : aqy s with
      | true =>
        have hn' := hn
        unfold aqy at hn'
        simp only [zav, decide_eq_true_eq] at hn'
        have hnum : (spl 46 s).all numOk = true := List.all_eq_true.2 fun x hx => by rw [← oct_num]; exact List.all_eq_true.1 hn'.1.2 x hx
        have hlow : acn s = s := lowerL_id s fun b hb' => by
          rcases spl_all 46 adz s (fun x hx => (num_parts x (List.all_eq_true.1 hnum x hx)).2.2) b hb' with h | h
          · exact dig_low b h
          · subst h; rfl
        rw [hnum, decide_eq_true omg, if_neg omg, hlow]
        cases (spl 46 s).any labW <;> rfl
      | false =>
        have hfour : (decide (((spl 46 s).length : Int) = 4) && (spl 46 s).all numOk) = false := by
          cases hf : (decide (((spl 46 s).length : Int) = 4) && (spl 46 s).all numOk) with
          | false => rfl
          | true =>
            exfalso
            simp only [zav, decide_eq_true_eq] at hf
            have hl := sum_le (spl 46 s) 3 fun x hx => (num_parts x (List.all_eq_true.1 hf.2 x hx)).2.1
            have hoct : (spl 46 s).all octOk = true := List.all_eq_true.2 fun x hx => by rw [oct_num]; exact List.all_eq_true.1 hf.2 x hx
            have : aqy s = true := by
              unfold aqy
              rw [hoct, decide_eq_true (show s.length ≤ 15 by omega), decide_eq_true (show (spl 46 s).length = 4 by omega)]; rfl
            rw [hn] at this; cases this
        have h1 : 1 ≤ s.length := by
          cases s with
          | nil => simp [spl, aqr] at hall
          | cons _ _ => simp
        rw [hfour, if_neg (show ¬ (false = true) by decide)]
        unfold namedP
        rw [hall, decide_eq_true h1, zas, Bool.and_true]
        by_cases h2 : 255 < (s.length : Int)
        · rw [if_pos h2, decide_eq_false (show ¬ s.length ≤ 255 by omega)]; rfl
        · rw [if_neg h2, decide_eq_true (show s.length ≤ 255 by omega), zas]
          cases (spl 46 s).any labW <;> rfl
theorem hostP_len (s : Str) : (aii s).1.length ≤ 60000002 + s.length := by
  have := grpsP_len (sub s 1 ((s.length : Int) - 1))
  unfold aii
  split
  · split
    · simp only [zaf, zag]; omega
    · simp
  · split
    · show s.length ≤ _; omega
    · split
      · simp [acn]
      · simp
open Bool renaming and_eq_true → zav, not_false → zaA, not_true → zar, true_and → zas
open Go.Lib renaming indexAny → zaC
open List renaming drop_length → zaE, eq_nil_of_length_eq_zero → zaI, length_append → zaf, length_cons → zae, length_drop → zat, length_nil → zao, length_singleton → zag
open Nat renaming le_refl → zaL
open Sum renaming elim_inl → zau
theorem step_eq (s : Str) (hs : s.length ≤ 4194304) (k : Nat) : aor FU s (k : Int) = some (if s.length ≤ k then (0, (s.length : Int), 6) else if ach (at_ s (k : Int)) = true then (0, (k : Int), 5) else if at_ s (k : Int) = 92 then (if s.length ≤ k + 1 then (0, (s.length : Int), 6) else if aqi (at_ s ((k + 1 : Nat) : Int)) = true then (2, 0, 0) else (0, (k : Int), 5)) else (1, 0, 0)) := by
  unfold aor
  by_cases h : s.length ≤ k
  · rw [if_pos omg, if_pos h]
  · rw [if_neg omg, if_neg h, gok, ark, zab]
    cases hc : ach (at_ s (k : Int)) with
    | true => rw [cond_true, if_pos rfl]
    | false =>
      rw [cond_false, if_neg (show ¬ (false = true) by decide), gok]
      by_cases h9 : at_ s (k : Int) = 92
      · rw [if_pos h9, if_pos h9, gok]
        by_cases h1 : s.length ≤ k + 1
        · rw [if_pos omg, if_pos h1]
        · rw [if_neg omg, if_neg h1, gok, aac omg, akf]
          have he : aqi (at_ s ((k + 1 : Nat) : Int)) = (decide (32 ≤ at_ s ((k + 1 : Nat) : Int)) && decide (at_ s ((k + 1 : Nat) : Int) ≤ 126)) := rfl
          by_cases ha : at_ s ((k + 1 : Nat) : Int) < 32
          · rw [if_pos ha, zab, cond_true, he, decide_eq_false (UInt8.not_le.2 ha)]; rfl
          · rw [if_neg ha, gok, aac omg, zab, he, decide_eq_true (UInt8.not_lt.1 ha), zas]
            by_cases hb : 126 < at_ s ((k + 1 : Nat) : Int)
            · rw [decide_eq_true hb, cond_true, decide_eq_false (UInt8.not_le.2 hb)]; rfl
            · rw [decide_eq_false hb, cond_false, decide_eq_true (UInt8.not_lt.1 hb)]; rfl
      · rw [if_neg h9, if_neg h9]
theorem ctl34 : ach 34 = false := by decide
theorem ctl92 : ach 92 = false := by decide
theorem rfUnq_lp (s : Str) (hs : s.length ≤ 4194304) (n : Nat) : ∀ (k fk : Nat) (acc : Str), s.length - k ≤ n → n < fk → k ≤ s.length → acc.length ≤ k →
    acy FU s fk acc (k : Int) = some (unqL (s.drop k) k acc) := by
  have f6 : ¬ ((6 : UInt8) = 0) := by decide
  have f5 : ¬ ((5 : UInt8) = 0) := by decide
  have ff : ¬ (false = true) := by decide
  induction n with
  | zero =>
    intro k fk acc hn hf hk ha
    obtain ⟨fk, rfl⟩ := fkx fk
    obtain rfl : k = s.length := by omega
    have st := step_eq s hs s.length
    rw [if_pos (zaL _)] at st
    rw [acy, st, zab]
    simp only
    rw [if_neg f6, zaE]; rfl
  | succ n ih =>
    intro k fk acc hn hf hk ha
    obtain ⟨fk, rfl⟩ := fkx fk
    have st := step_eq s hs k
    by_cases hl : k < s.length
    · rw [if_neg (show ¬ s.length ≤ k by omega)] at st
      rw [aox s k hl, unqL_cons]
      by_cases h1 : at_ s (k : Int) = 34
      · rw [h1, ctl34, if_neg ff, if_neg (show ¬ ((34 : UInt8) = 92) by decide)] at st
        rw [acy, st, zab]
        simp only
        rw [if_pos trivial, if_pos trivial, aac omg, zab, decide_eq_true h1, cond_true, gok, if_pos h1]; rfl
      · rw [if_neg h1]
        by_cases h2 : at_ s (k : Int) = 92
        · rw [h2, ctl92, if_neg ff, if_pos rfl] at st
          rw [if_pos h2]
          by_cases h3 : s.length ≤ k + 1
          · have e : s.drop (k + 1) = [] := (aqj s (k + 1)).2 h3
            have e2 : s.length = k + 1 := by omega
            rw [if_pos h3] at st
            rw [acy, st, zab]
            simp only
            rw [if_neg f6, if_pos e, e2]
          · rw [if_neg h3] at st
            rw [if_neg (fun h => h3 ((aqj s (k + 1)).1 h)), at_drop1]
            cases h4 : aqi (at_ s ((k + 1 : Nat) : Int)) with
            | false =>
              rw [h4, if_neg ff] at st
              rw [acy, st, zab]
              simp only
              rw [if_neg f5, if_neg ff]
            | true =>
              have ei : (k : Int) + 2 - 1 = ((k + 1 : Nat) : Int) := by omega
              have ej : (k : Int) + 2 = ((k + 2 : Nat) : Int) := by omega
              rw [h4, if_pos rfl] at st
              rw [acy, st, zab]
              simp only
              rw [if_pos trivial, if_neg (show ¬ ((2 : Int) = 1) by decide), zab, cond_false, gok, gok, ei, aac omg, gok, gok, ej, ih (k + 2) fk _ omg omg omg (by simp; omega), List.drop_drop, if_pos trivial]
        · rw [if_neg h2]
          cases h4 : ach (at_ s (k : Int)) with
          | true =>
            rw [h4, if_pos rfl] at st
            rw [acy, st, zab]
            simp only
            rw [if_neg f5, if_pos trivial]
          | false =>
            have ei : (k : Int) + 1 - 1 = (k : Int) := by omega
            rw [h4, if_neg ff, if_neg h2] at st
            rw [acy, st, zab]
            simp only
            rw [if_pos trivial, if_pos trivial, aac omg, zab, decide_eq_false h1, cond_false, if_neg ff, gok, gok, ei, aac omg, gok, gok, akf, ih (k + 1) fk _ omg omg omg (by simp; omega)]
    · obtain rfl : k = s.length := by omega
      rw [if_pos (zaL _)] at st
      rw [acy, st, zab]
      simp only
      rw [if_neg f6, zaE]; rfl
theorem rfUnquote_eq (s : Str) (hs : s.length ≤ 4194304) (i : Int) : alr FU s i = some (unqP8 s i) := by
  unfold alr aph unqP8
  by_cases h1 : i < 0
  · rw [if_pos h1, if_pos (show i < 0 ∨ (s.length : Int) < i from .inl h1)]; rfl
  · rw [if_neg h1, zab]
    by_cases h2 : (s.length : Int) < i
    · rw [decide_eq_true h2, if_pos (show i < 0 ∨ (s.length : Int) < i from .inr h2)]; rfl
    · rw [decide_eq_false h2, cond_false, if_neg (show ¬ (i < 0 ∨ (s.length : Int) < i) by omega)]
      by_cases h3 : i = (s.length : Int)
      · rw [if_pos h3, if_pos (show i = (s.length : Int) ∨ at_ s i ≠ 34 from .inl h3)]; rfl
      · rw [if_neg h3, gok, zab]
        by_cases h4 : at_ s i = 34
        · rw [decide_eq_true h4, zar, cond_false, if_neg (by simp [h3, h4]), zab, if_pos rfl, gok]
          obtain ⟨k, rfl⟩ : ∃ k : Nat, i = (k : Int) := ⟨i.toNat, by omega⟩
          exact rfUnq_lp s hs s.length (k + 1) FU [] omg (by rw [ahk]; omega) omg (by simp)
        · rw [decide_eq_false h4, if_pos (show i = (s.length : Int) ∨ at_ s i ≠ 34 from .inr h4)]; rfl
theorem unqL_bd (n : Nat) : ∀ (l : Str) (k : Nat) (acc : Str), l.length ≤ n → (unqL l k acc).1.length ≤ acc.length + l.length ∧ ((unqL l k acc).2.2 = 0 → (k : Int) + 1 ≤ (unqL l k acc).2.1 ∧ (unqL l k acc).2.1 ≤ ((k + l.length : Nat) : Int)) := by
  induction n with
  | zero =>
    intro l k acc hl
    obtain rfl : l = [] := zaI omg
    exact ⟨by simp [unqL], fun h => absurd h (show ¬ ((6 : UInt8) = 0) by decide)⟩
  | succ n ih =>
    intro l k acc hl
    cases l with
    | nil => exact ⟨by simp [unqL], fun h => absurd h (show ¬ ((6 : UInt8) = 0) by decide)⟩
    | cons c l =>
      simp only [zae] at hl
      rw [unqL_cons]
      by_cases h1 : c = 34
      · rw [if_pos h1]; exact ⟨by simp, fun _ => ⟨by simp, by simp only [zae]; omega⟩⟩
      · rw [if_neg h1]
        by_cases h2 : c = 92
        · rw [if_pos h2]
          by_cases h3 : l = []
          · rw [if_pos h3]; exact ⟨by simp, fun h => absurd h (show ¬ ((6 : UInt8) = 0) by decide)⟩
          · rw [if_neg h3]
            have hpos : 0 < l.length := List.length_pos_iff.2 h3
            cases h4 : aqi (at_ l 0) with
            | true =>
              rw [if_pos rfl]
              have := ih (l.drop 1) (k + 2) (acc ++ [at_ l 0]) (by rw [zat]; omega)
              rw [zaf, zag, zat] at this
              exact ⟨by simp only [zae]; omega, fun h => ⟨by have := (this.2 h).1; omega, by have := (this.2 h).2; simp only [zae]; omega⟩⟩
            | false => rw [if_neg (by decide)]; exact ⟨by simp, fun h => absurd h (show ¬ ((5 : UInt8) = 0) by decide)⟩
        · rw [if_neg h2]
          cases h4 : ach c with
          | true => rw [if_pos rfl]; exact ⟨by simp, fun h => absurd h (show ¬ ((5 : UInt8) = 0) by decide)⟩
          | false =>
            rw [if_neg (by decide)]
            have := ih l (k + 1) (acc ++ [c]) omg
            rw [zaf, zag] at this
            exact ⟨by simp only [zae]; omega, fun h => ⟨by have := (this.2 h).1; omega, by have := (this.2 h).2; simp only [zae]; omega⟩⟩
theorem unqP8_bd (s : Str) (k : Nat) (h34 : at_ s (k : Int) = 34) (hk : k < s.length) : (unqP8 s (k : Int)).1.length ≤ s.length ∧ ((unqP8 s (k : Int)).2.2 = 0 → (k : Int) + 2 ≤ (unqP8 s (k : Int)).2.1 ∧ (unqP8 s (k : Int)).2.1 ≤ (s.length : Int)) := by
  unfold unqP8
  rw [if_neg omg, if_neg (by rintro (h | h); omega; exact h h34)]
  have e : ((k : Int).toNat + 1) = k + 1 := by omega
  rw [e]
  have := unqL_bd _ (s.drop (k + 1)) (k + 1) [] (zaL _)
  rw [zat, zao] at this
  exact ⟨by omega, fun h => ⟨by have := (this.2 h).1; omega, by have := (this.2 h).2; omega⟩⟩
theorem ara (s : Str) (hs : s.length ≤ 4194304) (i : Int) : adc FU (s, i) = some (s, ((ace abd s i : Nat) : Int)) := by
  unfold adc; simp only; rw [blanks_eq s hs]; rfl
theorem ended_eq (s : Str) (i : Int) : aex FU (s, i) = some (decide ((s.length : Int) ≤ i)) := rfl
def seesB (s : Str) (k : Nat) (b : UInt8) : Bool := decide (k < s.length) && (at_ s (k : Int) == b)
theorem sees_eq (s : Str) (k : Nat) (b : UInt8) : abn FU (s, (k : Int)) b = some (seesB s k b) := by
  unfold abn seesB
  rw [ended_eq, zab]
  by_cases h : k < s.length
  · rw [decide_eq_false (show ¬ (s.length : Int) ≤ (k : Int) by omega), zaA, cond_true, aac (by simp only; omega), decide_eq_true h]; rfl
  · rw [decide_eq_true (show (s.length : Int) ≤ (k : Int) by omega), decide_eq_false h]; rfl
theorem tokEndP_eq (s : Str) (hs : s.length ≤ 4194304) (i : Int) : ahg FU s i = some ((ace acz s i : Nat) : Int) := by
  unfold ahg; rw [skipTok_eq s omg]; rfl
theorem ahr (p : UInt8 → Bool) (s : Str) (k : Nat) (h : k ≤ s.length) : k ≤ ace p s (k : Int) := by
  unfold ace; rw [arn k _ h]; omega
theorem token2_eq (s : Str) (hs : s.length ≤ 4194304) (k : Nat) (hk : k ≤ s.length) : aew FU (s, (k : Int)) = some (sub s (k : Int) ((ace acz s (k : Int) : Nat) : Int), (s, ((ace acz s (k : Int) : Nat) : Int))) := by
  have h1 := ahr acz s k hk
  have h2 := afe acz s (k : Int)
  unfold aew
  simp only
  rw [tokEndP_eq s hs, zab, aac omg]
theorem arg (s : Str) (a b : Nat) (h : b ≤ s.length) (hab : a ≤ b) : sub s (a : Int) (b : Int) = [] ↔ b = a := by
  have := anx s (a : Int) (b : Int)
  constructor
  · intro h'; rw [h'] at this; simp at this; omega
  · intro h'; apply zaI; rw [this]; omega
theorem span_not_ixb (c : UInt8) (l : Str) : (if (0 : Int) ≤ ixb (· == c) l then ixb (· == c) l else (l.length : Int)) = (ait (fun b => !(b == c)) l : Int) := by
  rcases ixb_spec (· == c) l with ⟨h1, h2⟩ | ⟨h1, h2, h3⟩
  · rw [if_neg omg, h2]
  · rw [if_pos h1, h3]
theorem contains1 (c : UInt8) : (fun b => ([c] : Str).contains b) = (· == c) := by
  funext b
  simp [List.contains_cons]
  rfl
theorem until1_eq (s : Str) (hs : s.length ≤ 4194304) (k : Nat) (hk : k ≤ s.length) (c : UInt8) (hc : c.toNat < 128) : aeu FU s (k : Int) [c] = some ((k + ait (fun b => !(b == c)) (s.drop k) : Nat) : Int) := by
  have e : ((k : Nat) : Int).toNat = k := by omega
  have hd : (s.drop k).length = s.length - k := zat
  have h1 := span_not_ixb c (s.drop k)
  have hi : zaC (s.drop k) [c] = ixb (· == c) (s.drop k) := by rw [aqg, contains1]
  have hsp := ixb_spec (· == c) (s.drop k)
  unfold aeu
  rw [aac omg, e, aac ⟨by omega, by simp, by simpa using hc⟩, hi]
  by_cases h : (0 : Int) ≤ ixb (· == c) (s.drop k)
  · rw [if_pos h] at h1 ⊢
    rw [aac (ahb _ omg omg), h1]; rfl
  · rw [if_neg h] at h1 ⊢
    congr 1
    omega
def valP (s : Str) (k : Nat) : Str × Int × UInt8 :=
  if seesB s k 34 = true then unqP8 s (k : Int)
  else if seesB s k 91 = true then
    (if (aii (sub s (k : Int) (min ((k + ait (fun b => !(b == 93)) (s.drop k) : Nat) + 1 : Int) (s.length : Int)))).2 = true then
      ((aii (sub s (k : Int) (min ((k + ait (fun b => !(b == 93)) (s.drop k) : Nat) + 1 : Int) (s.length : Int)))).1, ((k + ait (fun b => !(b == 93)) (s.drop k) : Nat) : Int) + 1, 0) else ([], (k : Int), 5))
  else if ace acz s (k : Int) = k then ([], (k : Int), 5) else (sub s (k : Int) ((ace acz s (k : Int) : Nat) : Int), ((ace acz s (k : Int) : Nat) : Int), 0)
theorem seesB_at {s : Str} {k : Nat} {b : UInt8} (h : seesB s k b = true) : k < s.length ∧ at_ s (k : Int) = b := by
  unfold seesB at h
  simp only [zav, decide_eq_true_eq, beq_iff_eq] at h
  exact h
theorem valP_bd (s : Str) (hs : s.length ≤ 4194304) (k : Nat) (hk : k ≤ s.length) : (valP s k).1.length ≤ 90000000 ∧ ((valP s k).2.2 = 0 → (k : Int) + 1 ≤ (valP s k).2.1 ∧ (valP s k).2.1 ≤ (s.length : Int) + 1) := by
  unfold valP
  have h1 := ahr acz s k hk
  have h2 := afe acz s (k : Int)
  have hsp := aqo (fun b => !(b == 93)) (s.drop k)
  rw [zat] at hsp
  split
  · rename_i h
    have := unqP8_bd s k (seesB_at h).2 (seesB_at h).1
    exact ⟨by omega, fun h => ⟨by have := (this.2 h).1; omega, by have := (this.2 h).2; omega⟩⟩
  · split
    · split
      · have hh := hostP_len (sub s (k : Int) (min ((k + ait (fun b => !(b == 93)) (s.drop k) : Nat) + 1 : Int) (s.length : Int)))
        rw [anx] at hh
        exact ⟨by simp only; omega, fun _ => ⟨by simp only; omega, by simp only; omega⟩⟩
      · exact ⟨by simp, fun h => absurd h (show ¬ ((5 : UInt8) = 0) by decide)⟩
    · split
      · exact ⟨by simp, fun h => absurd h (show ¬ ((5 : UInt8) = 0) by decide)⟩
      · rename_i h
        exact ⟨by simp only [anx]; omega, fun _ => ⟨by simp only; omega, by simp only; omega⟩⟩
theorem rfSees (s : Str) (k : Nat) (b : UInt8) : (if (k : Int) < (s.length : Int) then (gd (0 ≤ (k : Int) ∧ (k : Int) < (s.length : Int)) <| some (decide ((at_ s (k : Int)) = b))) else some false) = some (seesB s k b) := by
  unfold seesB
  by_cases h : k < s.length
  · rw [if_pos omg, aac omg, decide_eq_true h]; rfl
  · rw [if_neg omg, decide_eq_false h]; rfl
theorem value_lp (s : Str) (hs : s.length ≤ 4194304) (k : Nat) (hk : k ≤ s.length) : afj FU s FU (k : Int) = some ((k + ait (fun b => !(b == 93)) (s.drop k) : Nat) : Int) := by
  refine skip_gen (fun b => !(b == 93)) s (afj FU s) ?_ ?_ ?_ (s.length - k) k FU omg (by rw [ahk]; omega)
  · intro fk; rw [afj, if_neg omg]; rfl
  · intro fk k hk h
    have h' : at_ s (k : Int) = 93 := by simpa using h
    rw [afj, if_pos omg, aac omg, zab, decide_eq_true h', zar, cond_false]
  · intro fk k hk h
    have h' : ¬ at_ s (k : Int) = 93 := by simpa using h
    rw [afj, if_pos omg, aac omg, zab, decide_eq_false h', zaA, cond_true, gok]
theorem value_eq (s : Str) (hs : s.length ≤ 4194304) (k : Nat) (hk : k ≤ s.length) : ang FU s (k : Int) = some (valP s k) := by
  have h1 := ahr acz s k hk
  have h2 := afe acz s (k : Int)
  have hsp := aqo (fun b => !(b == 93)) (s.drop k)
  rw [zat] at hsp
  unfold ang valP
  rw [rfSees, zab, rfSees]
  cases h34 : seesB s k 34 with
  | true => rw [cond_true, if_pos rfl, rfUnquote_eq s hs]; rfl
  | false =>
    rw [cond_false, zab, if_neg (show ¬ (false = true) by decide)]
    cases h91 : seesB s k 91 with
    | true =>
      rw [cond_true, value_lp s hs k hk, zab, gok, aac omg, rfHost_eq _ (by rw [anx]; omega), zab, if_pos rfl]
      cases hh : (aii (sub s (k : Int) (min ((k + ait (fun b => !(b == 93)) (s.drop k) : Nat) + 1 : Int) (s.length : Int)))).2 with
      | false => rfl
      | true => rw [zar, cond_false, gok, zab, Sum.elim_inr, if_pos rfl]
    | false =>
      rw [cond_false, zab, zau, aqf s omg, zab, if_neg (show ¬ (false = true) by decide)]
      by_cases ht : ace acz s (k : Int) = k
      · rw [if_pos omg, if_pos ht]
      · rw [if_neg omg, if_neg ht, aac omg]
theorem lower_nil (l : Str) : acn l = [] ↔ l = [] := by unfold acn; simp
theorem skip_add1 (p : UInt8 → Bool) (s : Str) (y : Nat) : ace p s ((y : Int) + 1) = ace p s ((y + 1 : Nat) : Int) := rfl
def zPrm : Str × Str × Bool := ([], [], false)
def aow (s : Str) (b : Nat) : PQ × Int × UInt8 × (Str × Int) :=
  if ace acz s (b : Int) = b then (zPrm, (b : Int), 5, (s, (b : Int)))
  else if seesB s (ace abd s ((ace acz s (b : Int) : Nat) : Int)) 61 = false then ((acn (sub s (b : Int) ((ace acz s (b : Int) : Nat) : Int)), [], false), 0, 0, (s, ((ace abd s ((ace acz s (b : Int) : Nat) : Int) : Nat) : Int)))
  else if (valP s (ace abd s ((ace abd s ((ace acz s (b : Int) : Nat) : Int) + 1 : Nat) : Int))).2.2 = 0 then ((acn (sub s (b : Int) ((ace acz s (b : Int) : Nat) : Int)), (valP s (ace abd s ((ace abd s ((ace acz s (b : Int) : Nat) : Int) + 1 : Nat) : Int))).1, true), 0, 0, (s, (valP s (ace abd s ((ace abd s ((ace acz s (b : Int) : Nat) : Int) + 1 : Nat) : Int))).2.1))
  else (zPrm, (valP s (ace abd s ((ace abd s ((ace acz s (b : Int) : Nat) : Int) + 1 : Nat) : Int))).2.1, (valP s (ace abd s ((ace abd s ((ace acz s (b : Int) : Nat) : Int) + 1 : Nat) : Int))).2.2, (s, ((ace abd s ((ace abd s ((ace acz s (b : Int) : Nat) : Int) + 1 : Nat) : Int) : Nat) : Int)))
theorem listed_eq (s : Str) (hs : s.length ≤ 4194304) (b : Nat) (hb : b ≤ s.length) : agz FU (s, (b : Int)) = some (aow s b) := by
  unfold agz aow
  have ht1 := ahr acz s b hb
  have ht2 := afe acz s (b : Int)
  rw [token2_eq s hs b hb, zab]
  simp only
  generalize ht : ace acz s (b : Int) = t at ht1 ht2 ⊢
  have hy2 := afe abd s (t : Int)
  have hy1 := ahr abd s t ht2
  rw [apm _ (by rw [anx]; omega), zab]
  by_cases hn : t = b
  · have : acn (sub s (b : Int) (t : Int)) = [] := (lower_nil _).2 ((arg s b t ht2 ht1).2 hn)
    rw [if_pos this, if_pos hn, hn]; rfl
  · have : ¬ acn (sub s (b : Int) (t : Int)) = [] := fun h => hn ((arg s b t ht2 ht1).1 ((lower_nil _).1 h))
    rw [if_neg this, if_neg hn, ara s hs, zab]
    generalize hy : ace abd s (t : Int) = y at hy1 hy2 ⊢
    rw [sees_eq, zab]
    cases h61 : seesB s y 61 with
    | false => rw [zaA, cond_true, if_pos rfl]
    | true =>
      rw [zar, cond_false, if_neg (show ¬ (true = false) by decide), gok, ara s hs, zab, skip_add1]
      have hz2 := afe abd s ((y + 1 : Nat) : Int)
      generalize hz : ace abd s ((y + 1 : Nat) : Int) = z at hz2 ⊢
      have hq1 := ahr acz s z hz2
      have hq2 := afe acz s (z : Int)
      have hsp := aqo (fun b => !(b == 93)) (s.drop z)
      rw [zat] at hsp
      rw [sees_eq, zab]
      unfold valP
      cases h34 : seesB s z 34 with
      | true =>
        rw [cond_true, if_pos rfl, unquote_eq s hs, zab]
        by_cases he : (unqP8 s (z : Int)).2.2 = 0
        · rw [if_pos he, if_pos he]
        · rw [if_neg he, if_neg he]; rfl
      | false =>
        rw [cond_false, if_neg (show ¬ (false = true) by decide), sees_eq, zab]
        cases h91 : seesB s z 91 with
        | true =>
          rw [cond_true, if_pos rfl, until1_eq s hs z hz2 93 (by decide), zab]
          simp only
          rw [gok, aac omg, adHost_eq _ (by rw [anx]; omega), zab]
          cases hh : (aii (sub s (z : Int) (min ((z + ait (fun b => !(b == 93)) (s.drop z) : Nat) + 1 : Int) (s.length : Int)))).2 with
          | false => rw [zaA, cond_true, if_neg (show ¬ (false = true) by decide), if_neg (show ¬ ((5 : UInt8) = 0) by decide)]; rfl
          | true => rw [zar, cond_false, gok, if_pos rfl, if_pos rfl]
        | false =>
          rw [cond_false, if_neg (show ¬ (false = true) by decide), token2_eq s hs z hz2, zab]
          simp only
          by_cases hq : ace acz s (z : Int) = z
          · rw [if_pos ((arg s z _ hq2 hq1).2 hq), if_pos hq, if_neg (show ¬ ((5 : UInt8) = 0) by decide), hq]; rfl
          · rw [if_neg (fun h => hq ((arg s z _ hq2 hq1).1 h)), if_neg hq, if_pos rfl]
open Bool renaming not_false → zaA, not_true → zar, true_and → zas
open List renaming drop_length → zaE, length_append → zaf, length_cons → zae, length_drop → zat, length_singleton → zag
abbrev PP := Str × Str × Bool
theorem find_gen {α : Type} [Inhabited α] (p : α → Bool) (l : List α) (F : Nat → Int → Option (Unit ⊕ Int))
    (h0 : ∀ fk, F (fk + 1) (l.length : Int) = some (.inl ()))
    (h1 : ∀ fk (k : Nat), k < l.length → p (el l k) = true → F (fk + 1) (k : Int) = some (.inr (k : Int)))
    (h2 : ∀ fk (k : Nat), k < l.length → p (el l k) = false → F (fk + 1) (k : Int) = F fk ((k : Int) + 1)) (n : Nat) :
    ∀ (k fk : Nat), k + n = l.length → n < fk → F fk (k : Int) = some (match (l.drop k).findIdx? p with | none => .inl () | some j => .inr ((k + j : Nat) : Int)) := by
  induction n with
  | zero =>
    intro k fk hk hf
    obtain ⟨fk, rfl⟩ := fkx fk
    obtain rfl : k = l.length := by omega
    rw [h0, zaE]; rfl
  | succ n ih =>
    intro k fk hk hf
    obtain ⟨fk, rfl⟩ := fkx fk
    have hlt : k < l.length := by omega
    have hd : l.drop k = el l (k : Int) :: l.drop (k + 1) := by rw [el_nat _ _ hlt, List.drop_eq_getElem_cons hlt]
    rw [hd, List.findIdx?_cons]
    cases h : p (el l (k : Int)) with
    | true => rw [h1 fk k hlt h]; rfl
    | false =>
      rw [h2 fk k hlt h, akf, ih (k + 1) fk omg omg]
      cases (l.drop (k + 1)).findIdx? p with
      | none => rfl
      | some j =>
        show some (Sum.inr _) = some (Sum.inr _)
        congr 2
        show ((k + 1 + j : Nat) : Int) = ((k + (j + 1) : Nat) : Int)
        omega
theorem find_gen0 {α : Type} [Inhabited α] (p : α → Bool) (l : List α) (hl : l.length ≤ 4194304) (F : Nat → Int → Option (Unit ⊕ Int))
    (h0 : ∀ fk, F (fk + 1) (l.length : Int) = some (.inl ()))
    (h1 : ∀ fk (k : Nat), k < l.length → p (el l k) = true → F (fk + 1) (k : Int) = some (.inr (k : Int)))
    (h2 : ∀ fk (k : Nat), k < l.length → p (el l k) = false → F (fk + 1) (k : Int) = F fk ((k : Int) + 1)) : F FU 0 = some (match l.findIdx? p with | none => .inl () | some j => .inr ((j : Nat) : Int)) := by
  have := find_gen p l F h0 h1 h2 l.length 0 FU omg (by rw [ahk]; omega)
  rw [List.drop_zero] at this
  have this' : F FU (0 : Int) = _ := this
  rw [this']
  cases l.findIdx? p with
  | none => rfl
  | some j =>
    show some (Sum.inr _) = some (Sum.inr _)
    congr 2
    show ((0 + j : Nat) : Int) = _
    omega
def fIdx (o : Option Nat) : Int := match o with | none => -1 | some j => (j : Int)
theorem fIdx_any {α : Type} (p : α → Bool) (l : List α) : decide ((0 : Int) ≤ fIdx (l.findIdx? p)) = l.any p := by
  rw [← List.findIdx?_isSome]
  cases l.findIdx? p with
  | none => rfl
  | some j => show decide ((0 : Int) ≤ (j : Int)) = true; rw [decide_eq_true_eq]; omega
theorem holds_eq (l : List PP) (hl : l.length ≤ 4194304) (name : Str) : ain FU l name = some (l.any fun p => p.1 == name) := by
  have h := find_gen0 (fun p : PP => p.1 == name) l hl (aax FU l name)
    (fun fk => by rw [aax, if_neg omg])
    (fun fk k hk h => by
      have h' : (el l (k : Int)).1 = name := by simpa using h
      rw [aax, if_pos omg, aac omg, aac omg]
      unfold ajz
      rw [zab, decide_eq_true h', cond_true])
    (fun fk k hk h => by
      have h' : ¬ (el l (k : Int)).1 = name := by simpa using h
      rw [aax, if_pos omg, aac omg, aac omg]
      unfold ajz
      rw [zab, decide_eq_false h', cond_false, gok])
  unfold ain adh adq
  rw [h, zab]
  have e : zay (fun (v38 : Unit) => some (-1 : Int)) (fun q => some q) (match l.findIdx? (fun p : PP => p.1 == name) with | none => (Sum.inl () : Unit ⊕ Int) | some j => Sum.inr ((j : Nat) : Int)) = some (fIdx (l.findIdx? (fun p : PP => p.1 == name))) := by
    cases l.findIdx? (fun p : PP => p.1 == name) <;> rfl
  rw [e, zab, fIdx_any]; rfl
def roomB (l : List PP) (name : Str) : UInt8 := if (l.any fun p => p.1 == name) = true then 7 else if 16 ≤ l.length then 4 else 0
theorem room_eq (l : List PP) (hl : l.length ≤ 4194304) (name : Str) : aky FU l name = some (roomB l name) := by
  unfold aky roomB
  rw [holds_eq l hl, zab]
  cases l.any fun p => p.1 == name with
  | true => rfl
  | false =>
    rw [cond_false, if_neg (show ¬ (false = true) by decide)]
    by_cases h : 16 ≤ l.length
    · rw [if_pos omg, if_pos h]
    · rw [if_neg omg, if_neg h]
theorem el_mem2 (l : List PP) (k : Nat) (h : k < l.length) : el l (k : Int) ∈ l := el_mem' l k h
theorem rfFind_eq (l : List PP) (hl : l.length ≤ 4194304) (hn : ∀ p ∈ l, p.1.length ≤ 4194304) (name : Str) (hm : name.length ≤ 4194304) : amy FU l name = some (fIdx (l.findIdx? fun p => acn p.1 == acn name)) := by
  have h := find_gen0 (fun p : PP => acn p.1 == acn name) l hl (ahe FU l name)
    (fun fk => by rw [ahe, if_neg omg])
    (fun fk k hk h => by
      have h' : acn (el l (k : Int)).1 = acn name := by simpa using h
      have := hn _ (el_mem2 l k hk)
      rw [ahe, if_pos omg, aac omg, aac omg, alp _ omg, zab, alp _ omg, zab, if_pos h'])
    (fun fk k hk h => by
      have h' : ¬ acn (el l (k : Int)).1 = acn name := by simpa using h
      have := hn _ (el_mem2 l k hk)
      rw [ahe, if_pos omg, aac omg, aac omg, alp _ omg, zab, alp _ omg, zab, if_neg h', gok])
  unfold amy
  rw [h, zab]
  cases l.findIdx? (fun p : PP => acn p.1 == acn name) <;> rfl
theorem rfRoom_eq (l : List PP) (hl : l.length ≤ 4194304) (hn : ∀ p ∈ l, p.1.length ≤ 4194304) (name : Str) (hm : name.length ≤ 4194304) (h1 : ∀ p ∈ l, acn p.1 = p.1) (h2 : acn name = name) : aif FU l name = some (roomB l name) := by
  unfold aif roomB
  have e : l.any (fun p => p.1 == name) = l.any (fun p => acn p.1 == acn name) := by
    rw [Bool.eq_iff_iff, List.any_eq_true, List.any_eq_true]
    constructor
    · rintro ⟨p, hp, h⟩; exact ⟨p, hp, by rw [h1 p hp, h2]; exact h⟩
    · rintro ⟨p, hp, h⟩; exact ⟨p, hp, by rw [h1 p hp, h2] at h; exact h⟩
  rw [rfFind_eq l hl hn name hm, zab, e]
  have hf := fIdx_any (fun p : PP => acn p.1 == acn name) l
  cases ha : l.any (fun p => acn p.1 == acn name) with
  | true =>
    rw [ha, decide_eq_true_eq] at hf
    rw [if_pos hf, if_pos rfl]
  | false =>
    rw [ha, decide_eq_false_iff_not] at hf
    rw [if_neg hf, if_neg (show ¬ (false = true) by decide)]
    by_cases h : 16 ≤ l.length
    · rw [if_pos omg, if_pos h]
    · rw [if_neg omg, if_neg h]
def parM (s : Str) : Nat → List PP → Nat → List PP × Int × UInt8
  | 0, _, _ => ([], 0, 0)
  | f + 1, l, i =>
    if s.length ≤ ace abd s (i : Int) then (l, 0, 0)
    else if ¬ at_ s ((ace abd s (i : Int) : Nat) : Int) = 59 then ([], ((ace abd s (i : Int) : Nat) : Int), 5)
    else if (aow s (ace abd s ((ace abd s (i : Int) + 1 : Nat) : Int))).2.2.1 = 0 then
      (if roomB l (aow s (ace abd s ((ace abd s (i : Int) + 1 : Nat) : Int))).1.1 = 0 then parM s f (l ++ [(aow s (ace abd s ((ace abd s (i : Int) + 1 : Nat) : Int))).1]) (aow s (ace abd s ((ace abd s (i : Int) + 1 : Nat) : Int))).2.2.2.2.toNat
       else ([], ((ace abd s ((ace abd s (i : Int) + 1 : Nat) : Int) : Nat) : Int), roomB l (aow s (ace abd s ((ace abd s (i : Int) + 1 : Nat) : Int))).1.1))
    else ([], (aow s (ace abd s ((ace abd s (i : Int) + 1 : Nat) : Int))).2.1, (aow s (ace abd s ((ace abd s (i : Int) + 1 : Nat) : Int))).2.2.1)
theorem low2 : ∀ c : UInt8, akq (akq c) = akq c := aff _ (by decide +kernel)
theorem lowlowL (l : Str) : acn (acn l) = acn l := by
  unfold acn
  rw [List.map_map]
  apply List.map_congr_left
  intro c _
  exact low2 c
theorem listP_bd (s : Str) (hs : s.length ≤ 4194304) (b : Nat) (hb : b ≤ s.length) (h0 : (aow s b).2.2.1 = 0) : (aow s b).2.2.2.1 = s ∧ (b : Int) + 1 ≤ (aow s b).2.2.2.2 ∧ (aow s b).2.2.2.2 ≤ (s.length : Int) + 1 ∧ acn (aow s b).1.1 = (aow s b).1.1 ∧ (aow s b).1.1.length ≤ s.length ∧ (aow s b).1.2.1.length ≤ 90000000 := by
  have ht1 := ahr acz s b hb
  have ht2 := afe acz s (b : Int)
  unfold aow at h0 ⊢
  generalize ht : ace acz s (b : Int) = t at ht1 ht2 h0 ⊢
  have hy2 := afe abd s (t : Int)
  have hy1 := ahr abd s t ht2
  have hlen : (acn (sub s (b : Int) (t : Int))).length ≤ s.length := by
    unfold acn; rw [List.length_map, anx]; omega
  by_cases hn : t = b
  · rw [if_pos hn] at h0; exact absurd h0 (show ¬ ((5 : UInt8) = 0) by decide)
  · rw [if_neg hn] at h0 ⊢
    generalize hy : ace abd s (t : Int) = y at hy1 hy2 h0 ⊢
    cases h61 : seesB s y 61 with
    | false =>
      rw [if_pos rfl]
      exact ⟨rfl, by simp only; omega, by simp only; omega, lowlowL _, hlen, by simp⟩
    | true =>
      have hyl := (seesB_at h61).1
      rw [h61, if_neg (show ¬ (true = false) by decide)] at h0
      rw [if_neg (show ¬ (true = false) by decide)]
      have hz1 := ahr abd s (y + 1) omg
      have hz2 := afe abd s ((y + 1 : Nat) : Int)
      generalize hz : ace abd s ((y + 1 : Nat) : Int) = z at hz1 hz2 h0 ⊢
      by_cases hv : (valP s z).2.2 = 0
      · have := valP_bd s hs z hz2
        rw [if_pos hv]
        exact ⟨rfl, by simp only; have := (this.2 hv).1; omega, by simp only; exact (this.2 hv).2, lowlowL _, hlen, this.1⟩
      · rw [if_neg hv] at h0
        exact absurd h0 hv
theorem params_lp (s : Str) (hs : s.length ≤ 4194304) (n : Nat) : ∀ (k fk : Nat) (l : List PP), s.length - k ≤ n → n < fk → k ≤ 4194305 → l.length ≤ 16 →
    afo FU fk l s (k : Int) = some (parM s (n + 1) l k) := by
  have ff : ¬ (false = true) := by decide
  induction n with
  | zero =>
    intro k fk l hn hf hk hl
    obtain ⟨fk, rfl⟩ := fkx fk
    have h1 := afe abd s (k : Int)
    have h2 : s.length ≤ ace abd s (k : Int) := by
      unfold ace akd
      omega
    rw [afo, ara s hs, zab, ended_eq, zab, decide_eq_true omg, cond_true, parM, if_pos h2]
  | succ n ih =>
    intro k fk l hn hf hk hl
    obtain ⟨fk, rfl⟩ := fkx fk
    have h1 := afe abd s (k : Int)
    have hge : k ≤ s.length → k ≤ ace abd s (k : Int) := ahr abd s k
    rw [parM, afo, ara s hs, zab, ended_eq, zab]
    generalize hj : ace abd s (k : Int) = j at h1 hge ⊢
    by_cases he : s.length ≤ j
    · rw [decide_eq_true omg, cond_true, if_pos he]
    · have hkl : k ≤ s.length := by
        rcases Nat.lt_or_ge s.length k with h | h
        · exfalso
          have : ace abd s (k : Int) = s.length := by
            have a := afe abd s (k : Int)
            unfold ace akd at a ⊢
            omega
          omega
        · exact h
      rw [decide_eq_false omg, cond_false, if_neg he, sees_eq, zab]
      have hjl : j < s.length := by omega
      unfold seesB
      rw [decide_eq_true hjl, zas]
      by_cases h59 : at_ s (j : Int) = 59
      · have e59 : (at_ s (j : Int) == 59) = true := by simpa using h59
        rw [e59, zar, cond_false, if_neg (by simpa using h59)]
        simp only
        rw [gok, ara s hs, zab, skip_add1]
        have hb2 := afe abd s ((j + 1 : Nat) : Int)
        have hb1 := ahr abd s (j + 1) omg
        generalize hb : ace abd s ((j + 1 : Nat) : Int) = b at hb1 hb2 ⊢
        rw [listed_eq s hs b hb2, zab]
        by_cases h0 : (aow s b).2.2.1 = 0
        · obtain ⟨g1, g2, g3, g4, g5, g6⟩ := listP_bd s hs b hb2 h0
          rw [if_pos h0, if_pos h0, room_eq l omg, zab, zab]
          by_cases hr : roomB l (aow s b).1.1 = 0
          · have hl16 : l.length < 16 := by
              unfold roomB at hr
              split at hr
              · exact absurd hr (by decide)
              · split at hr
                · exact absurd hr (by decide)
                · omega
            have ee : (aow s b).2.2.2.2 = (((aow s b).2.2.2.2.toNat : Nat) : Int) := by omega
            rw [if_pos hr]
            try simp only
            rw [if_pos hr, aac (by simp only [zag]; omega), g1, ee]
            have := ih (aow s b).2.2.2.2.toNat fk (l ++ [(aow s b).1]) omg omg omg (by simp only [zaf, zag]; omega)
            rw [this]
            congr 2
          · rw [if_neg hr]
            try simp only
            rw [if_neg hr]
        · rw [if_neg h0, if_neg h0, zab]
          simp only
          rw [if_neg h0]
      · have e59 : (at_ s (j : Int) == 59) = false := by simpa using h59
        rw [e59, zaA, cond_true, if_pos h59]
def parP (s : Str) : List PP × Int × UInt8 := parM s (s.length + 1) [] 0
theorem params_eq (s : Str) (hs : s.length ≤ 4194304) : ahw FU s = some (parP s) := by
  unfold ahw
  exact params_lp s hs s.length 0 FU [] omg (by rw [ahk]; omega) omg (by simp)
theorem skip_idem (p : UInt8 → Bool) (s : Str) (i : Int) : ace p s ((ace p s i : Nat) : Int) = ace p s i := by
  have hle := afe p s i
  by_cases h : ace p s i < s.length
  · refine skipL_stop p s _ h ?_
    unfold ace at h ⊢
    generalize akd i s.length = c at h ⊢
    have : ∀ l : Str, ait p l < l.length → p (at_ l (ait p l : Int)) = false := by
      intro l
      induction l with
      | nil => intro h; simp [ait] at h
      | cons a l ih =>
        intro h
        cases ha : p a with
        | false => simp [ait, ha, at_]
        | true =>
          have e : ait p (a :: l) = ait p l + 1 := by simp [ait, ha]
          rw [e] at h ⊢
          have := ih (by simp only [zae] at h; omega)
          simpa [at_] using this
    have h2 := this (s.drop c) (by rw [zat]; omega)
    have e : at_ (s.drop c) (ait p (s.drop c) : Int) = at_ s ((c + ait p (s.drop c) : Nat) : Int) := by
      simp only [at_, List.getD_eq_getElem?_getD, List.getElem?_drop]
      congr 2
    rw [e] at h2
    exact h2
  · have : ace p s i = s.length := by omega
    rw [this]
    exact skipL_end p s
def parFin (j : (List PP) ⊕ ((List PP) × Int × UInt8)) : Option ((List PP) × Int × UInt8) := zay (fun (v376 : List PP) => some (v376, (0 : Int), (0 : UInt8))) (fun q => some q) j
theorem rfParams_lp (s : Str) (hs : s.length ≤ 4194304) (n : Nat) : ∀ (k fk : Nat) (l : List PP), s.length - k ≤ n → n < fk → k ≤ 4194305 → l.length ≤ 16 → (∀ p ∈ l, acn p.1 = p.1 ∧ p.1.length ≤ 4194304) →
    ((afs FU s fk l ((ace abd s (k : Int) : Nat) : Int)).bind parFin) = some (parM s (n + 1) l k) := by
  have ff : ¬ (false = true) := by decide
  induction n with
  | zero =>
    intro k fk l hn hf hk hl hp
    obtain ⟨fk, rfl⟩ := fkx fk
    have h1 := afe abd s (k : Int)
    have h2 : s.length ≤ ace abd s (k : Int) := by
      unfold ace akd
      omega
    rw [afs, if_neg omg, parM, if_pos h2]; rfl
  | succ n ih =>
    intro k fk l hn hf hk hl hp
    obtain ⟨fk, rfl⟩ := fkx fk
    have h1 := afe abd s (k : Int)
    have hge : k ≤ s.length → k ≤ ace abd s (k : Int) := ahr abd s k
    rw [parM, afs]
    by_cases he : s.length ≤ ace abd s (k : Int)
    · rw [if_neg omg, if_pos he]; rfl
    · have hkl : k ≤ s.length := by
        rcases Nat.lt_or_ge s.length k with h | h
        · exfalso
          have : ace abd s (k : Int) = s.length := by
            have a := afe abd s (k : Int)
            unfold ace akd at a ⊢
            omega
          omega
        · exact h
      generalize hj : ace abd s (k : Int) = j at h1 hge he ⊢
      rw [if_pos omg, if_neg he, aac omg]
      have hjl : j < s.length := by omega
      by_cases h59 : at_ s (j : Int) = 59
      · rw [if_pos h59, if_neg (by simpa using h59), gok, alq s hs, zab, skip_add1]
        have hb2 := afe abd s ((j + 1 : Nat) : Int)
        have hb1 := ahr abd s (j + 1) omg
        generalize hb : ace abd s ((j + 1 : Nat) : Int) = b at hb1 hb2 ⊢
        have ht1 := ahr acz s b hb2
        have ht2 := afe acz s (b : Int)
        rw [aqf s omg, zab]
        have app : ∀ (v : Str) (hs' : Bool) (pos : Nat), (b : Int) + 1 ≤ (pos : Int) → (pos : Int) ≤ (s.length : Int) + 1 → ∀ nm : Str, acn nm = nm → nm.length ≤ 4194304 →
            (((aif FU l nm).bind fun (y726 : UInt8) => (if y726 = (0 : UInt8) then (gd ((l.length + ([(nm, v, hs')] : List PP).length) * 40 ≤ 140737488355328) <| (afs FU s fk (l ++ ([(nm, v, hs')] : List PP)) ((ace abd s (pos : Int) : Nat) : Int))) else some (.inr (([] : List PP), (b : Int), y726)))).bind parFin) = some (if roomB l nm = 0 then parM s (n + 1) (l ++ [(nm, v, hs')]) pos else ([], (b : Int), roomB l nm)) := by
          intro v hs' pos hp1 hp2 nm hnm hnl
          rw [rfRoom_eq l omg (fun p hp' => (hp p hp').2) nm hnl (fun p hp' => (hp p hp').1) hnm, zab]
          by_cases hr : roomB l nm = 0
          · have hl16 : l.length < 16 := by
              unfold roomB at hr
              split at hr
              · exact absurd hr (by decide)
              · split at hr
                · exact absurd hr (by decide)
                · omega
            rw [if_pos hr, if_pos hr, aac (by simp only [zag]; omega)]
            exact ih pos fk (l ++ [(nm, v, hs')]) omg omg omg (by simp only [zaf, zag]; omega) (fun p hp' => by
              rcases List.mem_append.1 hp' with h | h
              · exact hp p h
              · rw [List.mem_singleton.1 h]; exact ⟨hnm, hnl⟩)
          · rw [if_neg hr, if_neg hr]; rfl
        unfold aow
        generalize ht : ace acz s (b : Int) = t at ht1 ht2 ⊢
        by_cases hn' : t = b
        · rw [if_pos omg, if_pos hn', if_neg (show ¬ ((5 : UInt8) = 0) by decide)]; rfl
        · have hy2 := afe abd s (t : Int)
          have hy1 := ahr abd s t ht2
          have hlen : (acn (sub s (b : Int) (t : Int))).length ≤ 4194304 := by
            unfold acn; rw [List.length_map, anx]; omega
          rw [if_neg omg, if_neg hn', aac omg, alp _ (by rw [anx]; omega), zab, alq s hs, zab]
          have hid := skip_idem abd s (t : Int)
          generalize hy : ace abd s (t : Int) = y at hy1 hy2 hid ⊢
          rw [rfSees, zab]
          cases h61 : seesB s y 61 with
          | false =>
            rw [cond_false, zab, zau, if_pos rfl, if_pos rfl]
            have := app [] false y omg omg (acn (sub s (b : Int) (t : Int))) (lowlowL _) hlen
            rw [hid] at this
            exact this
          | true =>
            have hyl := (seesB_at h61).1
            rw [cond_true, if_neg (show ¬ (true = false) by decide), gok, alq s hs, zab, skip_add1]
            have hz1 := ahr abd s (y + 1) omg
            have hz2 := afe abd s ((y + 1 : Nat) : Int)
            generalize hz : ace abd s ((y + 1 : Nat) : Int) = z at hz1 hz2 ⊢
            rw [value_eq s hs z hz2, zab]
            by_cases hv : (valP s z).2.2 = 0
            · have hbd := (valP_bd s hs z hz2).2 hv
              obtain ⟨pos, hpos⟩ : ∃ pos : Nat, (valP s z).2.1 = (pos : Int) := ⟨(valP s z).2.1.toNat, by omega⟩
              rw [if_pos hv, alq s hs, zab, zab, zau, if_pos hv, if_pos rfl, hpos]
              have := app (valP s z).1 true pos omg omg (acn (sub s (b : Int) (t : Int))) (lowlowL _) hlen
              exact this
            · rw [if_neg hv, zab, Sum.elim_inr, if_neg hv, if_neg hv]; rfl
      · rw [if_neg h59, if_pos h59]; rfl
theorem rfParams_eq (s : Str) (hs : s.length ≤ 4194304) : akw FU s = some (parP s) := by
  unfold akw
  rw [alq s hs, zab]
  exact rfParams_lp s hs s.length 0 FU [] omg (by rw [ahk]; omega) omg (by simp) (by simp)
open Go.Lib renaming join → zaB
open Int renaming toNat → zac
open List renaming append_nil → zaw, length → zaH, length_append → zaf, length_cons → zae, length_nil → zao, length_singleton → zag, take → zaz
def quoT (s : Str) : Str := 34 :: (s.flatMap amj ++ [34])
def quoM (s : Str) : Str × UInt8 := if s.any ach = true then ([], 5) else (quoT s, 0)
theorem qstep_len (c : UInt8) : (amj c).length ≤ 2 := by unfold amj; split <;> simp
theorem aqx : ∀ s : Str, (s.flatMap amj).length ≤ 2 * s.length
  | [] => by simp
  | c :: l => by
    have h1 := qstep_len c
    have h2 := aqx l
    rw [List.flatMap_cons, zaf, zae]; omega
theorem quo_lp (s : Str) (hs : s.length ≤ 4194304) (l : Str) : ∀ (p : Str) (fk : Nat), s = p ++ l → l.length < fk →
    afl FU s fk (34 :: p.flatMap amj) (p.length : Int) = some (if l.any ach = true then .inr ([], 5) else .inl (34 :: s.flatMap amj)) := by
  induction l with
  | nil =>
    intro p fk h hf
    obtain ⟨fk, rfl⟩ := fkx fk
    rw [zaw] at h
    subst h
    rw [afl, if_neg omg]; rfl
  | cons c l ih =>
    intro p fk h hf
    obtain ⟨fk, rfl⟩ := fkx fk
    have hl := congrArg zaH h
    simp only [zaf, zae] at hl hf
    have hb : (0 : Int) ≤ (p.length : Int) ∧ (p.length : Int) < (s.length : Int) := by omega
    have ha : at_ s (p.length : Int) = c := by rw [h, at_mid]
    have hq := aqx p
    have hih := ih (p ++ [c]) fk (by rw [h]; simp) omg
    rw [← aip p c, List.flatMap_append, List.flatMap_singleton] at hih
    rw [afl, if_pos hb.2, aac hb, ha, char_control, zab, List.any_cons]
    cases hc : ach c with
    | true => rw [cond_true, Bool.true_or, if_pos rfl]
    | false =>
      rw [cond_false, zaJ]
      have hq34 : ∀ b : Bool, amj c = (bif b then [92, c] else [c]) → (bif b then gd (((34 :: p.flatMap amj).length + ([(92 : UInt8)] : List UInt8).length) * 1 ≤ 140737488355328) (some ((34 :: p.flatMap amj) ++ ([(92 : UInt8)] : List UInt8))) else some (34 :: p.flatMap amj)) = some ((34 :: p.flatMap amj) ++ (bif b then [92] else [])) := by
        intro b _
        cases b with
        | true => rw [cond_true, cond_true, aac (by simp only [zae, zao]; omega)]
        | false => rw [cond_false, cond_false, zaw]
      have fin : ∀ b : Bool, amj c = (bif b then [92, c] else [c]) → ((some ((34 :: p.flatMap amj) ++ (bif b then [92] else []))).bind fun (v394 : List UInt8) => (gd (0 ≤ (p.length : Int) ∧ (p.length : Int) < (s.length : Int)) <| (gd ((v394.length + ([c] : List UInt8).length) * 1 ≤ 140737488355328) <| (gd (abx ((p.length : Int) + (1 : Int))) <| (afl FU s fk (v394 ++ ([c] : List UInt8)) ((p.length : Int) + (1 : Int))))))) = some (if l.any ach = true then .inr ([], 5) else .inl (34 :: s.flatMap amj)) := by
        intro b hqb
        rw [zab, aac hb, aac (by cases b <;> simp only [cond_true, cond_false, zaf, zae, zao] <;> omega), aac (ahb _ omg omg), ← hih, hqb]
        cases b <;> simp
      by_cases h34 : c = 34
      · have e : amj c = (bif true then [92, c] else [c]) := by rw [h34]; rfl
        rw [if_pos h34, zab, hq34 true e, fin true e]
      · rw [if_neg h34, zab]
        by_cases h92 : c = 92
        · have e : amj c = (bif true then [92, c] else [c]) := by rw [h92]; rfl
          rw [decide_eq_true h92, hq34 true e, fin true e]
        · have e : amj c = (bif false then [92, c] else [c]) := by unfold amj; rw [if_neg (by simp [h34, h92])]; rfl
          rw [decide_eq_false h92, hq34 false e, fin false e]
theorem quote_eq (s : Str) (hs : s.length ≤ 4194304) : alx FU s = some (quoM s) := by
  have := quo_lp s hs s [] FU (by simp) (by rw [ahk]; omega)
  have this' : afl FU s FU (([] : List UInt8) ++ ([(34 : UInt8)] : List UInt8)) (0 : Int) = _ := this
  have hq := aqx s
  unfold alx quoM
  rw [aac (ahb _ omg omg), aac omg, aac (by decide), this', zab]
  cases s.any ach with
  | true => rfl
  | false => rw [if_neg (show ¬ (false = true) by decide), zau, aac (by simp only [zae, zao]; omega), if_neg (show ¬ (false = true) by decide)]; rfl
theorem rfQuo_lp (s : Str) (hs : s.length ≤ 4194304) (l : Str) : ∀ (p : Str) (fk : Nat), s = p ++ l → l.length < fk →
    afk FU s fk (34 :: p.flatMap amj) (p.length : Int) = some (if l.any ach = true then .inr ([], 5) else .inl (34 :: s.flatMap amj)) := by
  induction l with
  | nil =>
    intro p fk h hf
    obtain ⟨fk, rfl⟩ := fkx fk
    rw [zaw] at h
    subst h
    rw [afk, if_neg omg]; rfl
  | cons c l ih =>
    intro p fk h hf
    obtain ⟨fk, rfl⟩ := fkx fk
    have hl := congrArg zaH h
    simp only [zaf, zae] at hl hf
    have hb : (0 : Int) ≤ (p.length : Int) ∧ (p.length : Int) < (s.length : Int) := by omega
    have ha : at_ s (p.length : Int) = c := by rw [h, at_mid]
    have hq := aqx p
    have hih := ih (p ++ [c]) fk (by rw [h]; simp) omg
    rw [← aip p c, List.flatMap_append, List.flatMap_singleton] at hih
    rw [afk, if_pos hb.2]
    simp only [aac hb, ha]
    rw [ark, zab, List.any_cons]
    cases hc : ach c with
    | true => rw [cond_true, Bool.true_or, if_pos rfl]
    | false =>
      rw [cond_false, zaJ]
      have hq34 : ∀ b : Bool, amj c = (bif b then [92, c] else [c]) → (bif b then gd (((34 :: p.flatMap amj).length + ([(92 : UInt8)] : List UInt8).length) * 1 ≤ 140737488355328) (some ((34 :: p.flatMap amj) ++ ([(92 : UInt8)] : List UInt8))) else some (34 :: p.flatMap amj)) = some ((34 :: p.flatMap amj) ++ (bif b then [92] else [])) := by
        intro b _
        cases b with
        | true => rw [cond_true, cond_true, aac (by simp only [zae, zao]; omega)]
        | false => rw [cond_false, cond_false, zaw]
      have fin : ∀ b : Bool, amj c = (bif b then [92, c] else [c]) → ((some ((34 :: p.flatMap amj) ++ (bif b then [92] else []))).bind fun (v429 : List UInt8) => (gd ((v429.length + ([c] : List UInt8).length) * 1 ≤ 140737488355328) <| (gd (abx ((p.length : Int) + (1 : Int))) <| (afk FU s fk (v429 ++ ([c] : List UInt8)) ((p.length : Int) + (1 : Int)))))) = some (if l.any ach = true then .inr ([], 5) else .inl (34 :: s.flatMap amj)) := by
        intro b hqb
        rw [zab, aac (by cases b <;> simp only [cond_true, cond_false, zaf, zae, zao] <;> omega), aac (ahb _ omg omg), ← hih, hqb]
        cases b <;> simp
      by_cases h34 : c = 34
      · have e : amj c = (bif true then [92, c] else [c]) := by rw [h34]; rfl
        rw [if_pos h34, zab, hq34 true e, fin true e]
      · rw [if_neg h34, zab]
        by_cases h92 : c = 92
        · have e : amj c = (bif true then [92, c] else [c]) := by rw [h92]; rfl
          rw [decide_eq_true h92, hq34 true e, fin true e]
        · have e : amj c = (bif false then [92, c] else [c]) := by unfold amj; rw [if_neg (by simp [h34, h92])]; rfl
          rw [decide_eq_false h92, hq34 false e, fin false e]
theorem rfQuote_eq (s : Str) (hs : s.length ≤ 4194304) : anj FU s = some (quoM s) := by
  have := rfQuo_lp s hs s [] FU (by simp) (by rw [ahk]; omega)
  have this' : afk FU s FU ([(34 : UInt8)] : List UInt8) (0 : Int) = _ := this
  have hq := aqx s
  unfold anj quoM
  rw [this', zab]
  cases s.any ach with
  | true => rfl
  | false => rw [if_neg (show ¬ (false = true) by decide), zau, aac (by simp only [zae, zao]; omega), if_neg (show ¬ (false = true) by decide)]; rfl
theorem quoT_len (s : Str) : (quoT s).length ≤ 2 * s.length + 2 := by
  have := aqx s
  unfold quoT
  rw [zae, zaf, zag]; omega
theorem plain_eq (s : Str) (hs : s.length ≤ 4194304) : alw FU s = some (!s.any ach) := by
  have h := all_gen0 (fun c => !ach c) s hs false (agi FU s)
    (fun fk => by rw [agi, if_neg omg])
    (fun fk k hk h => by
      have h' : ach (at_ s (k : Int)) = true := by simpa using h
      rw [agi, if_pos omg, gok, ark, zab, h', cond_true])
    (fun fk k hk h => by
      have h' : ach (at_ s (k : Int)) = false := by simpa using h
      rw [agi, if_pos omg, gok, ark, zab, h', cond_false, gok])
  unfold alw
  rw [h, zab]
  have e : s.all (fun c => !ach c) = !s.any ach := by rw [List.not_any_eq_all_not]
  rw [e]
  cases s.any ach <;> rfl
theorem tok_nc : ∀ c : UInt8, acz c = true → ach c = false := aff _ (by decide +kernel)
theorem hex_nc : ∀ c : UInt8, hexB c = true → ach (akq c) = false := aff _ (by decide +kernel)
theorem lab_nc : ∀ c : UInt8, labB c = true → ach (akq c) = false := aff _ (by decide +kernel)
theorem dig_nc : ∀ c : UInt8, adz c = true → ach c = false := aff _ (by decide +kernel)
theorem any_f (l : Str) (h : ∀ c ∈ l, ach c = false) : l.any ach = false := by
  rw [List.any_eq_false]; intro c hc; rw [h c hc]; decide
theorem isTok_nc (s : Str) (h : aop s = true) : s.any ach = false := by
  unfold aop at h
  rw [zav] at h
  exact any_f s fun c hc => tok_nc c (List.all_eq_true.1 h.2 c hc)
theorem grpN_nc (g : Str) (h : anb g = true) : ∀ c ∈ grpN g, ach c = false := by
  have hx : g.all hexB = true := by unfold anb at h; simp only [zav] at h; exact h.2
  intro c hc
  unfold grpN at hc
  split at hc
  · rw [List.mem_singleton.1 hc]; decide
  · have hm : c ∈ lowP g := (List.dropWhile_suffix _).subset hc
    obtain ⟨d, hd, rfl⟩ := List.mem_map.1 hm
    exact hex_nc d (List.all_eq_true.1 hx d hd)
theorem join_nc : ∀ (l : List Str), (∀ x ∈ l, ∀ c ∈ x, ach c = false) → ∀ c ∈ zaB l [58], ach c = false
  | [], _, c, hc => by simp [zaB, List.intercalate] at hc
  | [a], h, c, hc => by
    simp [zaB, List.intercalate] at hc
    exact h a (by simp) c hc
  | a :: b :: l, h, c, hc => by
    have e : zaB (a :: b :: l) [58] = a ++ (58 :: zaB (b :: l) [58]) := by simp [zaB, List.intercalate, List.intersperse]
    rw [e] at hc
    rcases List.mem_append.1 hc with hc | hc
    · exact h a (by simp) c hc
    · rcases List.mem_cons.1 hc with rfl | hc
      · decide
      · exact join_nc (b :: l) (fun x hx => h x (List.mem_cons_of_mem _ hx)) c hc
theorem grpList_nc (s : Str) : ∀ x ∈ (aiu s).1, ∀ c ∈ x, ach c = false := by
  intro x hx
  unfold aiu at hx
  split at hx
  · rename_i ha
    obtain ⟨y, hy, rfl⟩ := List.mem_map.1 hx
    exact grpN_nc y (List.all_eq_true.1 ha y hy)
  · simp at hx
theorem grpL0_nc (s : Str) : ∀ x ∈ (aji s).1, ∀ c ∈ x, ach c = false := by
  intro x hx
  unfold aji at hx
  split at hx
  · simp at hx
  · exact grpList_nc s x hx
theorem grpsP_nc (s : Str) : ∀ c ∈ (grpsP s).1, ach c = false := by
  intro c hc
  unfold grpsP at hc
  split at hc
  · simp at hc
  · split at hc
    · exact join_nc _ (grpList_nc s) c hc
    · split at hc
      · simp at hc
      · rcases List.mem_append.1 hc with hc | hc
        · rcases List.mem_append.1 hc with hc | hc
          · exact join_nc _ (grpL0_nc _) c hc
          · have h58 : c = 58 := by simpa using hc
            rw [h58]; decide
        · exact join_nc _ (grpL0_nc _) c hc
theorem hostP_nc (s : Str) : ((aii s).1).any ach = false := by
  refine any_f _ fun c hc => ?_
  unfold aii at hc
  split at hc
  · split at hc
    · rcases List.mem_append.1 hc with hc | hc
      · rcases List.mem_append.1 hc with hc | hc
        · rw [List.mem_singleton.1 hc]; decide
        · exact grpsP_nc _ c hc
      · rw [List.mem_singleton.1 hc]; decide
    · simp at hc
  · split at hc
    · rename_i hn
      unfold aqy at hn
      simp only [zav] at hn
      rcases spl_all 46 adz s (fun x hx => (num_parts x (by rw [← oct_num]; exact List.all_eq_true.1 hn.1.2 x hx)).2.2) c hc with h | h
      · exact dig_nc c h
      · rw [h]; decide
    · split at hc
      · rename_i hn
        unfold namedP at hn
        simp only [zav] at hn
        obtain ⟨d, hd, rfl⟩ := List.mem_map.1 hc
        rcases spl_all 46 labB s (fun x hx => by
          have := List.all_eq_true.1 hn.1.2 x hx
          unfold aqr at this
          simp only [zav] at this
          exact this.2) d hd with h | h
        · exact lab_nc d h
        · rw [h]; decide
      · simp at hc
def brV (v : Str) : Bool := (aii v).2 && decide ((aii v).1 = v) && (at_ v 0 == 91)
def okN (pre : List PP) (p : PP) : Bool := aop p.1 && decide (acn p.1 = p.1) && !(pre.any fun q => q.1 == p.1)
def okV (p : PP) : Bool := bif p.2.2 then !p.2.1.any ach else decide (p.2.1 = [])
def txt (p : PP) : Str := bif p.2.2 then 61 :: (bif aop p.2.1 || brV p.2.1 then p.2.1 else quoT p.2.1) else []
def ppL : List PP → List PP → Option Str
  | _, [] => some []
  | pre, p :: r => bif okN pre p && okV p then (ppL (pre ++ [p]) r).map fun t => 59 :: (p.1 ++ (txt p ++ t)) else none
def ppM (l : List PP) : Str × UInt8 := if 16 < l.length then ([], 2) else match ppL [] l with | some t => (t, 0) | none => ([], 2)
theorem brV_nc (v : Str) (h : brV v = true) : v.any ach = false := by
  unfold brV at h
  simp only [zav, decide_eq_true_eq] at h
  rw [← h.1.2]; exact hostP_nc v
theorem host_ne (v : Str) (h : (aii v).2 = true) (h2 : (aii v).1 = v) : v ≠ [] := by
  intro e
  subst e
  exact absurd h (by decide)
theorem txt_len (p : PP) (h1 : p.2.1.length ≤ 4194304) : (txt p).length ≤ 8388611 := by
  have := quoT_len p.2.1
  unfold txt
  cases p.2.2 with
  | false => simp
  | true =>
    rw [cond_true, zae]
    cases (aop p.2.1 || brV p.2.1) with
    | true => rw [cond_true]; omega
    | false => rw [cond_false]; omega
theorem pp_lp (l : List PP) (hl : l.length ≤ 16) (hb : ∀ p ∈ l, p.1.length ≤ 4194304 ∧ p.2.1.length ≤ 4194304) (r : List PP) : ∀ (pre : List PP) (fk : Nat) (out : Str), l = pre ++ r → r.length < fk → out.length ≤ pre.length * 16000000 →
    aco FU l fk (pre.length : Int) out = some (match ppL pre r with | some t => .inl (out ++ t) | none => .inr ([], 2)) := by
  induction r with
  | nil =>
    intro pre fk out h hf ho
    obtain ⟨fk, rfl⟩ := fkx fk
    rw [zaw] at h
    rw [aco, if_neg (by rw [h]; omega)]; simp [ppL]
  | cons p r ih =>
    intro pre fk out h hf ho
    obtain ⟨fk, rfl⟩ := fkx fk
    have hlen := congrArg zaH h
    simp only [zaf, zae] at hlen hf
    have hin : (0 : Int) ≤ (pre.length : Int) ∧ (pre.length : Int) < (l.length : Int) := by omega
    have he : el l (pre.length : Int) = p := by rw [h]; simp [el]
    have htk : zaz (zac (pre.length : Int)) l = pre := by rw [h]; simp
    have hbp := hb p (by rw [h]; simp)
    have ht := txt_len p hbp.2
    have hok : abx ((pre.length : Int) + 1) := ahb _ omg omg
    have next : ∀ o : Str, o = out ++ (59 :: (p.1 ++ txt p)) → okN pre p = true → okV p = true → aco FU l fk ((pre.length : Int) + 1) o = some (match ppL pre (p :: r) with | some t => .inl (out ++ t) | none => .inr ([], 2)) := by
      intro o ho' h1 h2
      have hih := ih (pre ++ [p]) fk o (by rw [h]; simp) omg (by rw [ho']; simp only [zaf, zae, zao]; omega)
      rw [show ((pre ++ [p]).length : Int) = (pre.length : Int) + 1 by simp] at hih
      rw [hih, ppL, h1, h2, zas, cond_true]
      cases ppL (pre ++ [p]) r with
      | none => rfl
      | some t => rw [ho']; simp
    have bad : okN pre p = false ∨ okV p = false → ppL pre (p :: r) = none := by
      rintro (h | h)
      · rw [ppL, h]; rfl
      · rw [ppL, h, Bool.and_false]; rfl
    rw [aco, if_pos hin.2, aac hin, aac hin, he, token_eq _ omg, zab]
    cases h1 : aop p.1 with
    | false =>
      rw [bad (.inl (by unfold okN; rw [h1]; rfl))]; rfl
    | true =>
      rw [zar, cond_false, apm _ hbp.1, zab]
      by_cases h2 : p.1 = acn p.1
      · rw [if_pos h2, aac omg, htk, holds_eq pre omg, zab, zab]
        cases h3 : pre.any fun q => q.1 == p.1 with
        | true => rw [bad (.inl (by unfold okN; rw [h3]; simp))]; rfl
        | false =>
          have hN : okN pre p = true := by unfold okN; rw [h1, h3, decide_eq_true h2.symm]; rfl
          rw [cond_false, aac (by simp only [zag]; omega)]
          unfold acf
          rw [aac (by simp only [zaf, zag]; omega), zab]
          simp only
          cases h4 : p.2.2 with
          | false =>
            rw [zaA, cond_true]
            by_cases h5 : p.2.1 = []
            · have hV : okV p = true := by unfold okV; rw [h4, cond_false]; exact decide_eq_true h5
              rw [if_pos h5, aac hok]
              refine next _ ?_ hN hV
              have : txt p = [] := by unfold txt; rw [h4]; rfl
              rw [this]; simp
            · have hV : okV p = false := by unfold okV; rw [h4, cond_false]; exact decide_eq_false h5
              rw [if_neg h5, bad (.inr hV)]
          | true =>
            have hVe : okV p = !p.2.1.any ach := by unfold okV; rw [h4]; rfl
            rw [zar, cond_false, adHost_eq _ hbp.2, zab, token_eq _ omg, zab]
            have e : (bif (!aop p.2.1) then (bif (aii p.2.1).2 then (if (aii p.2.1).1 = p.2.1 then (gd (0 ≤ (0 : Int) ∧ (0 : Int) < (p.2.1.length : Int)) <| some (!decide ((at_ p.2.1 (0 : Int)) = (91 : UInt8)))) else some true) else some true) else some false) = some (!(aop p.2.1 || brV p.2.1)) := by
              unfold brV
              cases aop p.2.1 with
              | true => rfl
              | false =>
                rw [zaA, cond_true, zaJ]
                cases h6 : (aii p.2.1).2 with
                | false => rfl
                | true =>
                  rw [cond_true, zas]
                  by_cases h7 : (aii p.2.1).1 = p.2.1
                  · have := List.length_pos_iff.2 (host_ne p.2.1 h6 h7)
                    rw [if_pos h7, decide_eq_true h7, aac omg, zas]; rfl
                  · rw [if_neg h7, decide_eq_false h7]; rfl
            rw [e, zab]
            cases h5 : (aop p.2.1 || brV p.2.1) with
            | true =>
              have hnc : p.2.1.any ach = false := by
                rcases Bool.or_eq_true_iff.1 h5 with h | h
                · exact isTok_nc _ h
                · exact brV_nc _ h
              rw [zar, cond_false, zab, zau, aac (by simp only [zag]; omega), aac (by simp only [zaf, zag]; omega), zab, aac hok]
              refine next _ ?_ hN (by rw [hVe, hnc]; rfl)
              have : txt p = 61 :: p.2.1 := by unfold txt; rw [h4, h5]; rfl
              rw [this]; simp
            | false =>
              rw [zaA, cond_true, quote_eq _ hbp.2, zab]
              unfold quoM
              have hq := quoT_len p.2.1
              cases h6 : p.2.1.any ach with
              | true =>
                rw [if_pos rfl, if_neg (show ¬ ((5 : UInt8) = 0) by decide), zab, Sum.elim_inr, bad (.inr (by rw [hVe, h6]; rfl))]
              | false =>
                rw [if_neg (show ¬ (false = true) by decide), if_pos rfl, zab, zau]
                simp only
                rw [aac (by simp only [zag]; omega), aac (by simp only [zaf, zag]; omega), zab, aac hok]
                refine next _ ?_ hN (by rw [hVe, h6]; rfl)
                have : txt p = 61 :: quoT p.2.1 := by unfold txt; rw [h4, h5]; rfl
                rw [this]; simp
      · rw [if_neg h2, zab, cond_true, bad (.inl (by unfold okN; rw [decide_eq_false (fun h => h2 h.symm)]; simp))]
theorem ppL_len : ∀ (r pre : List PP) (t : Str), (∀ p ∈ r, p.1.length ≤ 4194304 ∧ p.2.1.length ≤ 4194304) → ppL pre r = some t → t.length ≤ r.length * 16000000
  | [], _, t, _, h => by simp [ppL] at h; subst h; simp
  | p :: r, pre, t, hb, h => by
    rw [ppL] at h
    cases hk : okN pre p && okV p with
    | false => rw [hk] at h; cases h
    | true =>
      rw [hk, cond_true, Option.map_eq_some_iff] at h
      obtain ⟨u, hu, rfl⟩ := h
      have := ppL_len r _ u (fun q hq => hb q (List.mem_cons_of_mem _ hq)) hu
      have hbp := hb p List.mem_cons_self
      have ht := txt_len p hbp.2
      simp only [zae, zaf]
      omega
theorem printParams_eq (l : List PP) (hb : ∀ p ∈ l, p.1.length ≤ 4194304 ∧ p.2.1.length ≤ 4194304) : acu FU l = some (ppM l) := by
  unfold acu ppM
  by_cases h : 16 < l.length
  · rw [if_pos omg, if_pos h]
  · have := pp_lp l omg hb l [] FU [] (by simp) (by rw [ahk]; omega) (by simp)
    have this' : aco FU l FU (0 : Int) [] = _ := this
    rw [if_neg omg, if_neg h, this', zab]
    cases hp : ppL [] l with
    | none => rfl
    | some t =>
      have := ppL_len l [] t hb hp
      rw [zau, List.nil_append, aac omg]
open Go.Op renaming bytesLess → zaF
open List renaming append_nil → zaw, length → zaH, length_append → zaf, length_cons → zae, length_drop → zat, length_nil → zao, length_singleton → zag, length_take → zah, take → zaz
theorem brk2_eq (v : Str) (hv : v.length ≤ 4194304) : aij FU v = some (brV v) := by
  unfold aij brV
  rw [rfHost_eq v hv, zab]
  cases h6 : (aii v).2 with
  | false => rfl
  | true =>
    rw [cond_true, zas]
    by_cases h7 : (aii v).1 = v
    · have := List.length_pos_iff.2 (host_ne v h6 h7)
      rw [if_pos h7, decide_eq_true h7, aac omg, zas]; rfl
    · rw [if_neg h7, decide_eq_false h7]; rfl
def ppR : List PP → List PP → Option Str
  | _, [] => some []
  | pre, p :: r => bif okN pre p && okV p && decide (pre.length < 16) then (ppR (pre ++ [p]) r).map fun t => 59 :: (p.1 ++ (txt p ++ t)) else none
theorem ppR_eq : ∀ (r pre : List PP), pre.length + r.length ≤ 16 → ppR pre r = ppL pre r
  | [], _, _ => rfl
  | p :: r, pre, h => by
    simp only [zae] at h
    rw [ppR, ppL, decide_eq_true (show pre.length < 16 by omega), Bool.and_true, ppR_eq r _ (by simp only [zaf, zag]; omega)]
theorem ppR_none : ∀ (r pre : List PP), pre.length ≤ 16 → 16 < pre.length + r.length → ppR pre r = none
  | [], pre, h1, h2 => by simp only [zao] at h2; omega
  | p :: r, pre, h1, h2 => by
    simp only [zae] at h2
    rw [ppR]
    by_cases h : pre.length < 16
    · rw [ppR_none r _ (by simp only [zaf, zag]; omega) (by simp only [zaf, zag]; omega)]
      cases (okN pre p && okV p && decide (pre.length < 16)) <;> rfl
    · rw [decide_eq_false h, Bool.and_false]; rfl
theorem room0 (pre : List PP) (nm : Str) : (roomB pre nm = 0) ↔ ((pre.any fun q => q.1 == nm) = false ∧ pre.length < 16) := by
  unfold roomB
  cases pre.any fun q => q.1 == nm with
  | true => simp
  | false =>
    rw [if_neg (show ¬ (false = true) by decide)]
    by_cases h : 16 ≤ pre.length
    · rw [if_pos h]; simp; omega
    · rw [if_neg h]; simp; omega
theorem rfpp_lp (l : List PP) (hl : l.length ≤ 100) (hb : ∀ p ∈ l, p.1.length ≤ 4194304 ∧ p.2.1.length ≤ 4194304) (r : List PP) : ∀ (pre : List PP) (fk : Nat) (out : Str), l = pre ++ r → r.length < fk → out.length ≤ pre.length * 16000000 → (∀ q ∈ pre, acn q.1 = q.1) →
    acr FU l fk out (pre.length : Int) = some (match ppR pre r with | some t => .inl (out ++ t) | none => .inr ([], 2)) := by
  induction r with
  | nil =>
    intro pre fk out h hf ho hlow
    obtain ⟨fk, rfl⟩ := fkx fk
    rw [zaw] at h
    rw [acr, if_neg (by rw [h]; omega)]; simp [ppR]
  | cons p r ih =>
    intro pre fk out h hf ho hlow
    obtain ⟨fk, rfl⟩ := fkx fk
    have hlen := congrArg zaH h
    simp only [zaf, zae] at hlen hf
    have hin : (0 : Int) ≤ (pre.length : Int) ∧ (pre.length : Int) < (l.length : Int) := by omega
    have hin2 : (0 : Int) ≤ (pre.length : Int) ∧ (pre.length : Int) ≤ (l.length : Int) := by omega
    have he : el l (pre.length : Int) = p := by rw [h]; simp [el]
    have htk : zaz (zac (pre.length : Int)) l = pre := by rw [h]; simp
    have hbp := hb p (by rw [h]; simp)
    have ht := txt_len p hbp.2
    have hq := quoT_len p.2.1
    have hok : abx ((pre.length : Int) + 1) := ahb _ omg omg
    have next : ∀ o : Str, o = out ++ (59 :: (p.1 ++ txt p)) → okN pre p = true → okV p = true → pre.length < 16 → acr FU l fk o ((pre.length : Int) + 1) = some (match ppR pre (p :: r) with | some t => .inl (out ++ t) | none => .inr ([], 2)) := by
      intro o ho' h1 h2 h3
      have hpl : acn p.1 = p.1 := by
        unfold okN at h1
        simp only [zav, decide_eq_true_eq] at h1
        exact h1.1.2
      have hih := ih (pre ++ [p]) fk o (by rw [h]; simp) omg (by rw [ho']; simp only [zaf, zae, zao]; omega) (fun q hq' => by
        rcases List.mem_append.1 hq' with hx | hx
        · exact hlow q hx
        · rw [List.mem_singleton.1 hx]; exact hpl)
      rw [show ((pre ++ [p]).length : Int) = (pre.length : Int) + 1 by simp] at hih
      rw [hih, ppR, h1, h2, decide_eq_true h3, zas, zas, cond_true]
      cases ppR (pre ++ [p]) r with
      | none => rfl
      | some t => rw [ho']; simp
    have bad : okN pre p = false ∨ okV p = false ∨ ¬ pre.length < 16 → ppR pre (p :: r) = none := by
      rintro (h | h | h)
      · rw [ppR, h]; rfl
      · rw [ppR, h, Bool.and_false]; rfl
      · rw [ppR, decide_eq_false h, Bool.and_false]; rfl
    have chk : (((aja FU p.1).bind fun (y818 : Bool) => (bif (!y818) then some true else ((agx FU p.1).bind fun (y826 : Str) => (if y826 = p.1 then ((alw FU p.2.1).bind fun (y832 : Bool) => (bif (!y832) then some true else (bif (!p.2.2) then (if p.2.1 = ([] : Str) then (gd (0 ≤ (pre.length : Int) ∧ (pre.length : Int) ≤ (l.length : Int)) <| ((aif FU pre p.1).bind fun (y845 : UInt8) => some (!decide (y845 = (0 : UInt8))))) else some true) else (gd (0 ≤ (pre.length : Int) ∧ (pre.length : Int) ≤ (l.length : Int)) <| ((aif FU pre p.1).bind fun (y855 : UInt8) => some (!decide (y855 = (0 : UInt8)))))))) else some true))))) = some (!(okN pre p && okV p && decide (pre.length < 16))) := by
      rw [refToken_eq _ omg, zab, alp _ omg, zab, plain_eq _ hbp.2]
      unfold okN okV
      cases h1 : aop p.1 with
      | false => rfl
      | true =>
        rw [zar, cond_false, zas]
        by_cases h2 : acn p.1 = p.1
        · have hroom := rfRoom_eq pre omg (fun q hq' => (hb q (by rw [h]; simp [hq'])).1) p.1 hbp.1 hlow h2
          have hr0 := room0 pre p.1
          have hr : some (!decide (roomB pre p.1 = 0)) = some (!(!(pre.any fun q => q.1 == p.1) && decide (pre.length < 16))) := by
            congr 2
            rw [Bool.eq_iff_iff, decide_eq_true_eq, hr0]
            simp
          rw [if_pos h2, zab, decide_eq_true h2, zas, aac hin2, hroom, zab, hr, Bool.not_not]
          cases h3 : p.2.2 with
          | false =>
            rw [zaA, cond_true, cond_false]
            by_cases h4 : p.2.1 = []
            · rw [if_pos h4, h4, decide_eq_true rfl, Bool.and_true]; rfl
            · rw [if_neg h4, decide_eq_false h4, Bool.and_false, Bool.false_and]
              cases p.2.1.any ach <;> rfl
          | true =>
            rw [zar, cond_false, cond_true]
            cases p.2.1.any ach with
            | true => rw [cond_true, zar, Bool.and_false, Bool.false_and]; rfl
            | false => rw [cond_false, zaA, Bool.and_true]
        · rw [if_neg h2, decide_eq_false h2]; rfl
    rw [acr, if_pos hin.2, aac hin, aac hin, he, htk, chk, zab]
    cases hall : (okN pre p && okV p && decide (pre.length < 16)) with
    | false =>
      have hbad : ppR pre (p :: r) = none := by rw [ppR, hall]; rfl
      rw [zaA, cond_true, hbad]
    | true =>
      simp only [zav, decide_eq_true_eq] at hall
      obtain ⟨⟨hN, hV⟩, h16⟩ := hall
      rw [zar, cond_false, aac (by simp only [zag]; omega), aac (by simp only [zaf, zag]; omega)]
      cases h3 : p.2.2 with
      | false =>
        rw [cond_false, zab, cond_false, cond_false, aac hok]
        refine next _ ?_ hN hV h16
        have : txt p = [] := by unfold txt; rw [h3]; rfl
        rw [this]; simp
      | true =>
        rw [cond_true, refToken_eq _ omg, zab]
        have e : (bif aop p.2.1 then some true else (aij FU p.2.1).bind fun (y890 : Bool) => some y890) = some (aop p.2.1 || brV p.2.1) := by
          rw [brk2_eq _ hbp.2]
          cases aop p.2.1 <;> rfl
        rw [e, zab]
        cases h5 : (aop p.2.1 || brV p.2.1) with
        | true =>
          rw [cond_true, aac (by simp only [zaf, zag]; omega), aac (by simp only [zaf, zag]; omega), aac hok]
          refine next _ ?_ hN hV h16
          have : txt p = 61 :: p.2.1 := by unfold txt; rw [h3, h5]; rfl
          rw [this]; simp
        | false =>
          have hnc : p.2.1.any ach = false := by
            unfold okV at hV
            rw [h3, cond_true] at hV
            simpa using hV
          rw [cond_false, cond_true, rfQuote_eq _ hbp.2, zab]
          unfold quoM
          rw [hnc, if_neg (show ¬ (false = true) by decide)]
          simp only
          rw [aac (by simp only [zaf, zag]; omega), aac (by simp only [zaf, zag]; omega), aac hok]
          refine next _ ?_ hN hV h16
          have : txt p = 61 :: quoT p.2.1 := by unfold txt; rw [h3, h5]; rfl
          rw [this]; simp
theorem rfPrintParams_eq (l : List PP) (hl : l.length ≤ 100) (hb : ∀ p ∈ l, p.1.length ≤ 4194304 ∧ p.2.1.length ≤ 4194304) : ail FU l = some (ppM l) := by
  have := rfpp_lp l hl hb l [] FU [] (by simp) (by rw [ahk]; omega) (by simp) (by simp)
  have this' : acr FU l FU [] (0 : Int) = _ := this
  unfold ail ppM
  rw [this', zab]
  by_cases h : 16 < l.length
  · rw [if_pos h, ppR_none l [] (by simp) (by simpa using h)]; rfl
  · rw [if_neg h, ppR_eq l [] (by simp; omega)]
    cases ppL [] l <;> rfl
theorem pp_eta (x : PP) : (x.1, x.2.1, x.2.2) = x := rfl
theorem less_tri : ∀ x y : Str, zaF x y = !(zaF y x || y == x)
  | [], [] => rfl
  | [], b :: y => rfl
  | a :: x, [] => rfl
  | a :: x, b :: y => by
    have ih := less_tri x y
    rw [zaF, zaF, ih]
    rcases Nat.lt_trichotomy a.toNat b.toNat with h | h | h
    · have h1 : a < b := h
      have h2 : ¬ b < a := by rw [UInt8.lt_iff_toNat_lt]; omega
      have h3 : ¬ a = b := fun e => by subst e; omega
      have h4 : (b :: y == a :: x) = false := by simp; intro e; exact absurd e.symm h3
      rw [h4]
      simp [h1, h2, h3]
      exact .inl fun e => h3 e.symm
    · have e : a = b := UInt8.toNat_inj.1 h
      subst e
      have h1 : ¬ a < a := by rw [UInt8.lt_iff_toNat_lt]; omega
      have h4 : (a :: y == a :: x) = (y == x) := by simp [List.cons_beq_cons]
      rw [h4]
      simp [h1]
    · have h1 : b < a := h
      have h2 : ¬ a < b := by rw [UInt8.lt_iff_toNat_lt]; omega
      have h3 : ¬ a = b := fun e => by subst e; omega
      simp [h1, h2, h3]
def gtN (a b : Str) : Bool := !(zaF a b || a == b)
def insV (x : PP) : List PP → List PP
  | [] => [x]
  | a :: V => bif gtN a.1 x.1 then a :: insV x V else x :: a :: V
def insR (x : PP) (l : List PP) : List PP := (insV x l.reverse).reverse
theorem insR_snoc (x a : PP) (l : List PP) : insR x (l ++ [a]) = bif gtN a.1 x.1 then insR x l ++ [a] else l ++ [a, x] := by
  unfold insR
  rw [List.reverse_append, List.reverse_singleton, List.singleton_append, insV]
  cases gtN a.1 x.1 <;> simp
theorem insV_len (x : PP) : ∀ V : List PP, (insV x V).length = V.length + 1
  | [] => rfl
  | a :: V => by
    rw [insV]
    cases gtN a.1 x.1 with
    | true => rw [cond_true, zae, insV_len x V, zae]
    | false => rfl
theorem insR_len (x : PP) (l : List PP) : (insR x l).length = l.length + 1 := by
  unfold insR; rw [List.length_reverse, insV_len, List.length_reverse]
theorem insV_mem (x y : PP) : ∀ V : List PP, y ∈ insV x V → y = x ∨ y ∈ V
  | [], h => by left; simpa [insV] using h
  | a :: V, h => by
    rw [insV] at h
    cases hg : gtN a.1 x.1 with
    | true =>
      rw [hg, cond_true] at h
      rcases List.mem_cons.1 h with rfl | h
      · right; simp
      · rcases insV_mem x y V h with h | h
        · exact .inl h
        · right; simp [h]
    | false =>
      rw [hg, cond_false] at h
      rcases List.mem_cons.1 h with rfl | h
      · left; rfl
      · right; exact h
theorem insR_mem (x y : PP) (l : List PP) (h : y ∈ insR x l) : y = x ∨ y ∈ l := by
  unfold insR at h
  rcases insV_mem x y _ (List.mem_reverse.1 h) with h | h
  · exact .inl h
  · exact .inr (List.mem_reverse.1 h)
def apq (l : List PP) : List PP := l.foldl (fun out x => insR x out) []
theorem fold_len : ∀ (q p : List PP), (q.foldl (fun out x => insR x out) p).length = p.length + q.length
  | [], p => by simp
  | a :: q, p => by rw [List.foldl_cons, fold_len q, insR_len, zae]; omega
theorem fold_mem (y : PP) : ∀ (q p : List PP), y ∈ q.foldl (fun out x => insR x out) p → y ∈ p ∨ y ∈ q
  | [], p, h => .inl h
  | a :: q, p, h => by
    rw [List.foldl_cons] at h
    rcases fold_mem y q _ h with h | h
    · rcases insR_mem a y p h with h | h
      · right; simp [h]
      · exact .inl h
    · right; simp [h]
theorem isort_len (l : List PP) : (apq l).length = l.length := by unfold apq; rw [fold_len]; simp
theorem isort_mem (l : List PP) (y : PP) (h : y ∈ apq l) : y ∈ l := by
  rcases fold_mem y l [] h with h | h
  · simp at h
  · exact h
theorem rfSort_lp1 (l : List PP) (out : List PP) (i : Int) (x : PP) (hx : el l i = x) (hi : 0 ≤ i ∧ i < (l.length : Int)) (ho : out.length ≤ 4194304) (n : Nat) : ∀ fk, n ≤ out.length → n < fk →
    ∃ k : Nat, k ≤ n ∧ agw FU l out i fk (n : Int) = some (k : Int) ∧ (out.take n).take k ++ ([x] ++ (out.take n).drop k) = insR x (out.take n) := by
  induction n with
  | zero =>
    intro fk hn hf
    obtain ⟨fk, rfl⟩ := fkx fk
    exact ⟨0, zaL _, by rw [agw, if_neg omg]; rfl, rfl⟩
  | succ n ih =>
    intro fk hn hf
    obtain ⟨fk, rfl⟩ := fkx fk
    have e : (((n + 1 : Nat) : Int) - 1) = (n : Int) := by omega
    have hlt : n < out.length := by omega
    have ht : out.take (n + 1) = out.take n ++ [el out (n : Int)] := take_snoc' out n hlt
    rw [agw, if_pos omg, e, aac (ahb _ omg omg), aac omg, aac omg, aac hi, aac hi, hx, zab, ht, insR_snoc]
    have hg : (!(zaF (el out (n : Int)).1 x.1 || (el out (n : Int)).1 == x.1)) = gtN (el out (n : Int)).1 x.1 := rfl
    rw [hg]
    have htl : (out.take n).length = n := by rw [zah]; omega
    cases h : gtN (el out (n : Int)).1 x.1 with
    | true =>
      obtain ⟨k, h1, h2, h3⟩ := ih fk omg omg
      refine ⟨k, by omega, by rw [cond_true, aac (ahb _ omg omg), h2], ?_⟩
      rw [cond_true, ← h3, List.take_append_of_le_length omg, List.drop_append_of_le_length omg]
      simp
    | false =>
      refine ⟨n + 1, zaL _, by rw [cond_false], ?_⟩
      rw [cond_false, List.take_of_length_le (by simp only [zaf, zag]; omega), List.drop_eq_nil_of_le (by simp only [zaf, zag]; omega)]
      simp
theorem rfSort_lp (l : List PP) (hl : l.length ≤ 4194304) (q : List PP) : ∀ (p : List PP) (fk : Nat) (out : List PP), l = p ++ q → q.length < fk → out.length = p.length →
    afr FU l fk out (p.length : Int) = some (q.foldl (fun out x => insR x out) out) := by
  induction q with
  | nil =>
    intro p fk out h hf ho
    obtain ⟨fk, rfl⟩ := fkx fk
    rw [zaw] at h
    rw [afr, if_neg (by rw [h]; omega)]; rfl
  | cons a q ih =>
    intro p fk out h hf ho
    obtain ⟨fk, rfl⟩ := fkx fk
    have hlen := congrArg zaH h
    simp only [zaf, zae] at hlen hf
    have hin : (0 : Int) ≤ (p.length : Int) ∧ (p.length : Int) < (l.length : Int) := by omega
    have he : el l (p.length : Int) = a := by rw [h]; simp [el]
    obtain ⟨k, h1, h2, h3⟩ := rfSort_lp1 l out (p.length : Int) a he hin omg out.length FU (zaL _) (by rw [ahk]; omega)
    rw [List.take_length] at h3
    have et : ((k : Nat) : Int).toNat = k := by omega
    have hil := insR_len a out
    rw [afr, if_pos hin.2, h2, zab, aac omg, et, aac (by simp only [zao, zah]; omega), aac hin, aac hin, he]
    simp only [pp_eta, List.nil_append]
    rw [aac (by simp only [zah, zag]; omega), aac omg, aac (by simp only [zaf, zah, zat, zag]; omega), zab, aac (ahb _ omg omg), List.append_assoc, h3, List.foldl_cons]
    have := ih (p ++ [a]) fk (insR a out) (by rw [h]; simp) omg (by rw [hil, zaf, zag]; omega)
    rw [show ((p ++ [a]).length : Int) = (p.length : Int) + 1 by simp] at this
    exact this
theorem rfSorted_eq (l : List PP) (hl : l.length ≤ 4194304) : amn FU l = some (apq l) := by
  have := rfSort_lp l hl l [] FU [] (by simp) (by rw [ahk]; omega) rfl
  have this' : afr FU l FU [] (0 : Int) = _ := this
  unfold amn
  rw [this']; rfl
open Bool renaming not_true → zar
open List renaming append_nil → zaw, eq_nil_of_length_eq_zero → zaI, length → zaH, length_append → zaf, length_cons → zae, length_singleton → zag, set → zal
def cmpV (a b : Str) : Int := bif zaF a b then -1 else bif !(zaF a b || a == b) then 1 else 0
theorem hs1_eq (fu : Nat) (x y : PP) : agl fu x y = some (cmpV x.1 y.1) := by
  unfold agl aia aje cmpV
  rw [zab, zab, decide_eq_true rfl, decide_eq_true rfl, zar, cond_false, cond_false]
  cases zaF x.1 y.1 with
  | true => rfl
  | false =>
    rw [cond_false, cond_false]
    cases (!(false || x.1 == y.1)) <;> rfl
theorem cmp_lt (a b : Str) : decide (cmpV a b < 0) = zaF a b := by
  unfold cmpV
  cases zaF a b with
  | true => rfl
  | false =>
    rw [cond_false]
    cases (!(false || a == b)) <;> rfl
theorem coll_lp (x : List PP) (hx : x.length ≤ 4194304) (q : List PP) : ∀ (p : List PP) (fk : Nat), x = p ++ q → q.length < fk →
    aah FU x fk (p.length : Int) p = some (x, 0) := by
  induction q with
  | nil =>
    intro p fk h hf
    obtain ⟨fk, rfl⟩ := fkx fk
    rw [zaw] at h
    subst h
    rw [aah, if_neg omg]
  | cons a q ih =>
    intro p fk h hf
    obtain ⟨fk, rfl⟩ := fkx fk
    have hlen := congrArg zaH h
    simp only [zaf, zae] at hlen hf
    have hin : (0 : Int) ≤ (p.length : Int) ∧ (p.length : Int) < (x.length : Int) := by omega
    have he : el x (p.length : Int) = a := by rw [h]; simp [el]
    rw [aah, if_pos hin.2, aac hin, aac hin, he]
    unfold ada
    simp only [pp_eta]
    rw [aac (by simp only [zag]; omega), zab, if_pos rfl, aac (ahb _ omg omg)]
    have := ih (p ++ [a]) fk (by rw [h]; simp) omg
    rw [show ((p ++ [a]).length : Int) = (p.length : Int) + 1 by simp] at this
    exact this
theorem collect_eq (x : List PP) (hx : x.length ≤ 4194304) : adp FU x = some x := by
  have := coll_lp x hx x [] FU (by simp) (by rw [ahk]; omega)
  unfold adp aeg abj
  have this' : aah FU x FU (0 : Int) [] = _ := this
  rw [this', zab, if_pos rfl]; rfl
theorem el_at (P S : List PP) (x : PP) : el (P ++ x :: S) (P.length : Int) = x := by simp [el]
theorem ins_lp1 (n : Nat) : ∀ (P S : List PP) (x : PP) (fk : Nat), P.length = n → n < fk → P.length + S.length ≤ 1048575 →
    aag FU 0 fk (P ++ x :: S) (P.length : Int) = some (insR x P ++ S) := by
  induction n with
  | zero =>
    intro P S x fk hP hf hl
    obtain ⟨fk, rfl⟩ := fkx fk
    obtain rfl : P = [] := zaI hP
    rw [aag, if_neg (by simp)]; rfl
  | succ n ih =>
    intro P S x fk hP hf hl
    obtain ⟨fk, rfl⟩ := fkx fk
    rcases List.eq_nil_or_concat P with rfl | ⟨P', a, rfl⟩
    · simp at hP
    · simp only [List.concat_eq_append] at *
      have hP' : P'.length = n := by simp at hP; omega
      have e1 : (((P' ++ [a]).length : Int) - 1) = (P'.length : Int) := by simp
      have hj : el (P' ++ [a] ++ x :: S) ((P' ++ [a]).length : Int) = x := el_at _ _ _
      have hj1 : el (P' ++ [a] ++ x :: S) (P'.length : Int) = a := by rw [List.append_assoc]; exact el_at P' (x :: S) a
      have hlen : (P' ++ [a] ++ x :: S).length = P'.length + 2 + S.length := by simp; omega
      have hin : (0 : Int) ≤ ((P' ++ [a]).length : Int) ∧ ((P' ++ [a]).length : Int) < ((P' ++ [a] ++ x :: S).length : Int) := by rw [hlen]; simp; omega
      have hin1 : (0 : Int) ≤ (P'.length : Int) ∧ (P'.length : Int) < ((P' ++ [a] ++ x :: S).length : Int) := by rw [hlen]; omega
      have hok : abx (P'.length : Int) := ahb _ omg (by simp at hl; omega)
      have ht1 : ((P' ++ [a]).length : Int).toNat = P'.length + 1 := by simp
      have ht2 : ((P'.length : Nat) : Int).toNat = P'.length := by omega
      rw [aag, e1]
      simp only [hj, hj1, pp_eta, hs1_eq, zab, cmp_lt, aac hin, aac hin1, aac hok]
      rw [if_pos (by rw [zaf, zag]; omega), zab, less_tri x.1 a.1, insR_snoc]
      have hg : (!(zaF a.1 x.1 || a.1 == x.1)) = gtN a.1 x.1 := rfl
      rw [hg]
      cases gtN a.1 x.1 with
      | false => rw [cond_false, cond_false]; simp
      | true =>
        have hset : zal (P' ++ [a] ++ x :: S) ((P' ++ [a]).length : Int).toNat a = P' ++ a :: a :: S := by
          rw [ht1, List.append_assoc, List.set_append_right _ _ omg]
          simp
        have hset2 : zal (P' ++ a :: a :: S) ((P'.length : Nat) : Int).toNat x = P' ++ x :: a :: S := by
          rw [ht2, List.set_append_right _ _ omg]
          simp
        rw [cond_true, cond_true, hset, hset2, aac (by simp; omega), aac (by simp; omega), ih P' (a :: S) x fk hP' omg (by simp at hl ⊢; omega)]
        simp
theorem ins_lp0 (R : List PP) : ∀ (P : List PP) (fk : Nat) (n : Int), n = ((P ++ R).length : Int) → (P ++ R).length ≤ 1048575 → R.length < fk →
    aad FU 0 n fk (P ++ R) (P.length : Int) = some (R.foldl (fun out x => insR x out) P) := by
  induction R with
  | nil =>
    intro P fk n hn hl hf
    obtain ⟨fk, rfl⟩ := fkx fk
    rw [aad, if_neg (by rw [hn]; simp)]; simp
  | cons a R ih =>
    intro P fk n hn hl hf
    obtain ⟨fk, rfl⟩ := fkx fk
    simp only [zaf, zae] at hl hf
    rw [aad, if_pos (by rw [hn]; simp; omega), ins_lp1 P.length P R a FU rfl (by rw [ahk]; omega) omg, zab, aac (ahb _ omg omg)]
    have hil := insR_len a P
    have := ih (insR a P) fk n (by rw [hn]; simp [hil]; omega) (by simp only [zaf, hil]; omega) omg
    rw [hil] at this
    have e : ((P.length : Int) + 1) = ((P.length + 1 : Nat) : Int) := rfl
    rw [e, this]; rfl
theorem ins_eq (l : List PP) (hl : l.length ≤ 1048575) : aan FU l 0 (l.length : Int) = some (apq l) := by
  unfold aan
  rw [aac (ahb _ omg omg)]
  cases l with
  | nil =>
    obtain ⟨m, hm⟩ : ∃ m, FU = m + 1 := ⟨FU - 1, by rw [ahk]⟩
    rw [show (aad FU 0 (([] : List PP).length : Int) FU [] (0 + 1)) = aad FU 0 (([] : List PP).length : Int) (m + 1) [] (0 + 1) by rw [← hm]]
    rw [aad, if_neg (by simp)]; rfl
  | cons a l =>
    have := ins_lp0 l [a] FU ((a :: l).length : Int) rfl hl (by rw [ahk]; simp at hl; omega)
    exact this
open Go.IntKind renaming wrap → zaa
open List renaming length_set → zax, set → zal
def Keeps (o : Option (List PP)) (n : Nat) : Prop := ∃ d, o = some d ∧ d.length = n
theorem ajv (a : Int) (h0 : -1000 ≤ a) (h : a ≤ 100000) : abx a := ⟨by omega, by omega⟩
theorem tIns1 (fu : Nat) (a : Nat) (n : Nat) : ∀ (data : List PP) (fk : Nat), n < data.length → data.length ≤ 100 → n < fk → Keeps (aag fu (a : Int) fk data (n : Int)) data.length := by
  induction n with
  | zero =>
    intro data fk hn hl hf
    obtain ⟨fk, rfl⟩ := fkx fk
    rw [aag, if_neg omg]
    exact ⟨data, rfl, rfl⟩
  | succ n ih =>
    intro data fk hn hl hf
    obtain ⟨fk, rfl⟩ := fkx fk
    have e1 : (((n + 1 : Nat) : Int) - 1) = (n : Int) := by omega
    have hin : (0 : Int) ≤ ((n + 1 : Nat) : Int) ∧ ((n + 1 : Nat) : Int) < (data.length : Int) := by omega
    have hin1 : (0 : Int) ≤ (n : Int) ∧ (n : Int) < (data.length : Int) := by omega
    rw [aag, e1]
    simp only [hs1_eq, zab, cmp_lt, aac hin, aac hin1, aac (ajv (n : Int) omg omg), zax]
    by_cases h : (a : Int) < ((n + 1 : Nat) : Int)
    · rw [if_pos h, zab]
      cases zaF (el data ((n + 1 : Nat) : Int)).1 (el data (n : Int)).1 with
      | false => exact ⟨data, rfl, rfl⟩
      | true =>
        rw [cond_true]
        have := ih (zal (zal data (((n + 1 : Nat) : Int).toNat) (el data (n : Int))) ((n : Int).toNat) (el data ((n + 1 : Nat) : Int))) fk (by simp only [zax]; omega) (by simp only [zax]; omega) omg
        rw [zax, zax] at this
        exact this
    · rw [if_neg h]; exact ⟨data, rfl, rfl⟩
theorem tIns0 (fu : Nat) (hfu : 1000 ≤ fu) (a b : Nat) (m : Nat) : ∀ (data : List PP) (i fk : Nat), b ≤ i + m → m < fk → b ≤ data.length → data.length ≤ 100 → Keeps (aad fu (a : Int) (b : Int) fk data (i : Int)) data.length := by
  induction m with
  | zero =>
    intro data i fk hm hf hb hl
    obtain ⟨fk, rfl⟩ := fkx fk
    rw [aad, if_neg omg]
    exact ⟨data, rfl, rfl⟩
  | succ m ih =>
    intro data i fk hm hf hb hl
    obtain ⟨fk, rfl⟩ := fkx fk
    rw [aad]
    by_cases h : (i : Int) < (b : Int)
    · obtain ⟨d, h1, h2⟩ := tIns1 fu a i data fu omg hl omg
      rw [if_pos h, h1, zab, aac (ajv _ omg omg)]
      have := ih d (i + 1) fk omg omg omg omg
      rw [h2] at this
      exact this
    · rw [if_neg h]; exact ⟨data, rfl, rfl⟩
theorem tIns (fu : Nat) (hfu : 1000 ≤ fu) (a b : Nat) (data : List PP) (ha : a ≤ 100) (hb : b ≤ data.length) (hl : data.length ≤ 100) : Keeps (aan fu data (a : Int) (b : Int)) data.length := by
  unfold aan
  rw [aac (ajv _ omg omg)]
  exact tIns0 fu hfu a b 100 data (a + 1) fu omg omg hb hl
theorem tSwap0 (fu : Nat) (a b n : Nat) (m : Nat) : ∀ (data : List PP) (i fk : Nat), n ≤ i + m → m < fk → a + n ≤ data.length → b + n ≤ data.length → data.length ≤ 100 → Keeps (aau fu (a : Int) (b : Int) (n : Int) fk data (i : Int)) data.length := by
  induction m with
  | zero =>
    intro data i fk hm hf ha hb hl
    obtain ⟨fk, rfl⟩ := fkx fk
    rw [aau, if_neg omg]
    exact ⟨data, rfl, rfl⟩
  | succ m ih =>
    intro data i fk hm hf ha hb hl
    obtain ⟨fk, rfl⟩ := fkx fk
    rw [aau]
    by_cases h : (i : Int) < (n : Int)
    · have hA : (0 : Int) ≤ (a : Int) + (i : Int) ∧ (a : Int) + (i : Int) < (data.length : Int) := by omega
      have hB : (0 : Int) ≤ (b : Int) + (i : Int) ∧ (b : Int) + (i : Int) < (data.length : Int) := by omega
      rw [if_pos h]
      simp only [aac hA, aac hB, aac (ajv ((a : Int) + (i : Int)) omg omg), aac (ajv ((b : Int) + (i : Int)) omg omg), aac (ajv ((i : Int) + 1) omg omg), zax]
      have := ih (zal (zal data ((a : Int) + (i : Int)).toNat (el data ((b : Int) + (i : Int)))) ((b : Int) + (i : Int)).toNat (el data ((a : Int) + (i : Int)))) (i + 1) fk omg omg (by simp only [zax]; omega) (by simp only [zax]; omega) (by simp only [zax]; omega)
      rw [zax, zax] at this
      exact this
    · rw [if_neg h]; exact ⟨data, rfl, rfl⟩
theorem tSwap (fu : Nat) (hfu : 1000 ≤ fu) (a b n : Int) (data : List PP) (ha0 : 0 ≤ a) (hb0 : 0 ≤ b) (hn0 : 0 ≤ n) (ha : a + n ≤ data.length) (hb : b + n ≤ data.length) (hl : data.length ≤ 100) : Keeps (abb fu data a b n) data.length := by
  obtain ⟨a, rfl⟩ : ∃ k : Nat, a = (k : Int) := ⟨a.toNat, by omega⟩
  obtain ⟨b, rfl⟩ : ∃ k : Nat, b = (k : Int) := ⟨b.toNat, by omega⟩
  obtain ⟨n, rfl⟩ : ∃ k : Nat, n = (k : Int) := ⟨n.toNat, by omega⟩
  unfold abb
  exact tSwap0 fu a b n n data 0 fu omg omg omg omg hl
theorem tRot0 (fu : Nat) (hfu : 1000 ≤ fu) (m : Nat) (t : Nat) : ∀ (data : List PP) (i j : Int) (fk : Nat), i + j ≤ (t : Int) → t < fk → 0 < i → 0 < j → i ≤ (m : Int) → (m : Int) + j ≤ (data.length : Int) → data.length ≤ 100 →
    ∃ d i', aaz fu (m : Int) fk data i j = some (d, i') ∧ d.length = data.length ∧ 0 ≤ i' ∧ i' ≤ (m : Int) ∧ (m : Int) + i' ≤ (data.length : Int) := by
  induction t with
  | zero => intro data i j fk h; omega
  | succ t ih =>
    intro data i j fk h hf hi hj him hjm hl
    obtain ⟨fk, rfl⟩ := fkx fk
    rw [aaz]
    by_cases hij : i = j
    · rw [if_pos hij]; exact ⟨data, i, rfl, rfl, by omega, by omega, by omega⟩
    · rw [if_neg hij]
      by_cases hlt : j < i
      · obtain ⟨d, h1, h2⟩ := tSwap fu hfu ((m : Int) - i) (m : Int) j data omg omg omg omg omg hl
        rw [if_pos hlt, aac (ajv _ omg omg), h1, zab, aac (ajv _ omg omg)]
        have := ih d (i - j) j fk omg omg omg omg omg omg omg
        rw [h2] at this
        exact this
      · obtain ⟨d, h1, h2⟩ := tSwap fu hfu ((m : Int) - i) ((m : Int) + j - i) i data omg omg omg omg omg hl
        rw [if_neg hlt, aac (ajv _ omg omg), aac (ajv _ omg omg), aac (ajv _ omg omg), h1, zab, aac (ajv _ omg omg)]
        have := ih d i (j - i) fk omg omg omg omg omg omg omg
        rw [h2] at this
        exact this
theorem tRot (fu : Nat) (hfu : 1000 ≤ fu) (data : List PP) (a m b : Int) (ha : 0 ≤ a) (ham : a < m) (hmb : m < b) (hb : b ≤ (data.length : Int)) (hl : data.length ≤ 100) : Keeps (abo fu data a m b) data.length := by
  obtain ⟨m, rfl⟩ : ∃ k : Nat, m = (k : Int) := ⟨m.toNat, by omega⟩
  unfold abo
  obtain ⟨d, i', h1, h2, h3, h4, h5⟩ := tRot0 fu hfu m 200 data ((m : Int) - a) (b - (m : Int)) fu omg omg omg omg omg omg hl
  obtain ⟨e, h6, h7⟩ := tSwap fu hfu ((m : Int) - i') (m : Int) i' d omg omg omg omg omg omg
  rw [aac (ajv _ omg omg), aac (ajv _ omg omg), h1, zab]
  simp only
  rw [aac (ajv _ omg omg), h6, zab]
  exact ⟨e, rfl, by omega⟩
theorem wmid (x : Int) (h0 : 0 ≤ x) (h1 : x ≤ 100000) : zaa .i64 ((zaa .u64 x) / 2) = x / 2 := by
  rw [IntKind.wrap_u64, Int.emod_eq_of_lt h0 omg, aqv omg omg]
theorem tM0 (fu : Nat) (data : List PP) (hl : data.length ≤ 100) (a : Int) (ha : 0 ≤ a ∧ a < (data.length : Int)) (t : Nat) : ∀ (i j : Int) (fk : Nat), j - i ≤ (t : Int) → t < fk → 0 ≤ i → i ≤ j → j ≤ (data.length : Int) →
    ∃ k, aar fu data a fk i j = some k ∧ i ≤ k ∧ k ≤ j := by
  induction t with
  | zero =>
    intro i j fk h hf h0 hij hj
    obtain ⟨fk, rfl⟩ := fkx fk
    rw [aar, if_neg omg]
    exact ⟨i, rfl, by omega, hij⟩
  | succ t ih =>
    intro i j fk h hf h0 hij hj
    obtain ⟨fk, rfl⟩ := fkx fk
    rw [aar]
    by_cases hlt : i < j
    · rw [if_pos hlt, aac (ajv _ omg omg), wmid _ omg omg]
      have hm : 0 ≤ (i + j) / 2 ∧ (i + j) / 2 < (data.length : Int) := by omega
      simp only [aac hm, aac ha, hs1_eq, zab]
      by_cases hc : cmpV (el data ((i + j) / 2)).1 (el data a).1 < 0
      · rw [if_pos hc, aac (ajv _ omg omg)]
        obtain ⟨k, h1, h2, h3⟩ := ih ((i + j) / 2 + 1) j fk omg omg omg omg hj
        exact ⟨k, h1, by omega, h3⟩
      · rw [if_neg hc]
        obtain ⟨k, h1, h2, h3⟩ := ih i ((i + j) / 2) fk omg omg omg omg omg
        exact ⟨k, h1, h2, by omega⟩
    · rw [if_neg hlt]; exact ⟨i, rfl, by omega, hij⟩
theorem tM2 (fu : Nat) (data : List PP) (hl : data.length ≤ 100) (a : Int) (ha : 0 ≤ a ∧ a < (data.length : Int)) (t : Nat) : ∀ (i j : Int) (fk : Nat), j - i ≤ (t : Int) → t < fk → 0 ≤ i → i ≤ j → j ≤ (data.length : Int) →
    ∃ k, aaq fu data a fk i j = some k ∧ i ≤ k ∧ k ≤ j := by
  induction t with
  | zero =>
    intro i j fk h hf h0 hij hj
    obtain ⟨fk, rfl⟩ := fkx fk
    rw [aaq, if_neg omg]
    exact ⟨i, rfl, by omega, hij⟩
  | succ t ih =>
    intro i j fk h hf h0 hij hj
    obtain ⟨fk, rfl⟩ := fkx fk
    rw [aaq]
    by_cases hlt : i < j
    · rw [if_pos hlt, aac (ajv _ omg omg), wmid _ omg omg]
      have hm : 0 ≤ (i + j) / 2 ∧ (i + j) / 2 < (data.length : Int) := by omega
      simp only [aac hm, aac ha, hs1_eq, zab]
      by_cases hc : cmpV (el data a).1 (el data ((i + j) / 2)).1 < 0
      · rw [if_pos hc]
        obtain ⟨k, h1, h2, h3⟩ := ih i ((i + j) / 2) fk omg omg omg omg omg
        exact ⟨k, h1, h2, by omega⟩
      · rw [if_neg hc, aac (ajv _ omg omg)]
        obtain ⟨k, h1, h2, h3⟩ := ih ((i + j) / 2 + 1) j fk omg omg omg omg hj
        exact ⟨k, h1, by omega, h3⟩
    · rw [if_neg hlt]; exact ⟨i, rfl, by omega, hij⟩
theorem tM1 (fu : Nat) (v : Int) (t : Nat) : ∀ (data : List PP) (k : Int) (fk : Nat), v - k ≤ (t : Int) → t < fk → 0 ≤ k → v ≤ (data.length : Int) → 0 ≤ v → k ≤ 1000 → data.length ≤ 100 → Keeps (aaw fu v fk data k) data.length := by
  induction t with
  | zero =>
    intro data k fk h hf hk hv h0 h1 hl
    obtain ⟨fk, rfl⟩ := fkx fk
    rw [aaw, aac (ajv _ omg omg), if_neg omg]
    exact ⟨data, rfl, rfl⟩
  | succ t ih =>
    intro data k fk h hf hk hv h0 h1 hl
    obtain ⟨fk, rfl⟩ := fkx fk
    rw [aaw, aac (ajv _ omg omg)]
    by_cases hlt : k < v - 1
    · have hA : (0 : Int) ≤ k ∧ k < (data.length : Int) := by omega
      have hB : (0 : Int) ≤ k + 1 ∧ k + 1 < (data.length : Int) := by omega
      rw [if_pos hlt]
      simp only [aac hA, aac hB, aac (ajv (k + 1) omg omg), zax]
      have := ih (zal (zal data k.toNat (el data (k + 1))) (k + 1).toNat (el data k)) (k + 1) fk omg omg omg (by simp only [zax]; omega) h0 omg (by simp only [zax]; omega)
      rw [zax, zax] at this
      exact this
    · rw [if_neg hlt]; exact ⟨data, rfl, rfl⟩
theorem tM3 (fu : Nat) (v : Int) (hv : 0 ≤ v) (t : Nat) : ∀ (data : List PP) (k : Int) (fk : Nat), k - v ≤ (t : Int) → t < fk → k < (data.length : Int) → data.length ≤ 100 → Keeps (aav fu v fk data k) data.length := by
  induction t with
  | zero =>
    intro data k fk h hf hk hl
    obtain ⟨fk, rfl⟩ := fkx fk
    rw [aav, if_neg omg]
    exact ⟨data, rfl, rfl⟩
  | succ t ih =>
    intro data k fk h hf hk hl
    obtain ⟨fk, rfl⟩ := fkx fk
    rw [aav]
    by_cases hlt : v < k
    · have hA : (0 : Int) ≤ k ∧ k < (data.length : Int) := by omega
      have hB : (0 : Int) ≤ k - 1 ∧ k - 1 < (data.length : Int) := by omega
      rw [if_pos hlt]
      simp only [aac hA, aac hB, aac (ajv (k - 1) omg omg), zax]
      have := ih (zal (zal data k.toNat (el data (k - 1))) (k - 1).toNat (el data k)) (k - 1) fk omg omg (by simp only [zax]; omega) (by simp only [zax]; omega)
      rw [zax, zax] at this
      exact this
    · rw [if_neg hlt]; exact ⟨data, rfl, rfl⟩
theorem tM4 (fu : Nat) (data : List PP) (hl : data.length ≤ 100) (a m b : Int) (h0 : 0 ≤ a) (hab : a + b ≤ 200) (hb0 : 0 ≤ b) (hm0 : 0 ≤ m) (hm1 : m ≤ 100) (lo hi : Int) (hlo : 0 ≤ lo) (hhi : hi ≤ (data.length : Int))
    (hp : ∀ c, lo ≤ c → c < hi → 0 ≤ ((a + b) / 2 + m - 1) - c ∧ ((a + b) / 2 + m - 1) - c < (data.length : Int)) (t : Nat) : ∀ (i j : Int) (fk : Nat), j - i ≤ (t : Int) → t < fk → lo ≤ i → i ≤ j → j ≤ hi →
    ∃ k, aap fu data a m b fk i j = some k ∧ i ≤ k ∧ k ≤ j := by
  induction t with
  | zero =>
    intro i j fk h hf h1 hij hj
    obtain ⟨fk, rfl⟩ := fkx fk
    rw [aap, if_neg omg]
    exact ⟨i, rfl, by omega, hij⟩
  | succ t ih =>
    intro i j fk h hf h1 hij hj
    obtain ⟨fk, rfl⟩ := fkx fk
    rw [aap]
    by_cases hlt : i < j
    · have hpc := hp ((i + j) / 2) omg omg
      have hm : 0 ≤ (i + j) / 2 ∧ (i + j) / 2 < (data.length : Int) := by omega
      rw [if_pos hlt, aac (ajv _ omg omg), wmid (i + j) omg omg, wmid (a + b) omg omg]
      simp only [aac hm, aac hpc, aac (ajv ((a + b) / 2 + m - 1 - (i + j) / 2) omg omg), hs1_eq, zab]
      by_cases hc : cmpV (el data ((a + b) / 2 + m - 1 - (i + j) / 2)).1 (el data ((i + j) / 2)).1 < 0
      · rw [if_pos hc]
        obtain ⟨k, g1, g2, g3⟩ := ih i ((i + j) / 2) fk omg omg omg omg omg
        exact ⟨k, g1, g2, by omega⟩
      · rw [if_neg hc, aac (ajv _ omg omg)]
        obtain ⟨k, g1, g2, g3⟩ := ih ((i + j) / 2 + 1) j fk omg omg omg omg hj
        exact ⟨k, g1, by omega, g3⟩
    · rw [if_neg hlt]; exact ⟨i, rfl, by omega, hij⟩
theorem tSym (z : Nat) : ∀ (fu : Nat) (data : List PP) (a m b : Int), b - a ≤ (z : Int) → z + 1001 ≤ fu → 0 ≤ a → a < m → m < b → b ≤ (data.length : Int) → data.length ≤ 100 → Keeps (aao fu data a m b) data.length := by
  induction z with
  | zero => intro fu data a m b h; omega
  | succ z ih =>
    intro fu data a m b h hf ha ham hmb hb hl
    obtain ⟨fu, rfl⟩ : ∃ k, fu = k + 1 := ⟨fu - 1, by omega⟩
    rw [aao, aac (ajv _ omg omg)]
    by_cases h1 : m - a = 1
    · obtain ⟨k, g1, g2, g3⟩ := tM0 fu data hl a omg 200 m b fu omg omg omg omg hb
      obtain ⟨d, g4, g5⟩ := tM1 fu k 200 data a fu omg omg ha omg omg omg hl
      rw [if_pos h1, g1, zab, g4, zab, zab, Sum.elim_inr]
      exact ⟨d, rfl, g5⟩
    · rw [if_neg h1, zab, zau, aac (ajv _ omg omg)]
      by_cases h2 : b - m = 1
      · obtain ⟨k, g1, g2, g3⟩ := tM2 fu data hl m omg 200 a m fu omg omg ha omg omg
        obtain ⟨d, g4, g5⟩ := tM3 fu k omg 200 data m fu omg omg omg hl
        rw [if_pos h2, g1, zab, g4, zab, zab, Sum.elim_inr]
        exact ⟨d, rfl, g5⟩
      · rw [if_neg h2, zab, zau, aac (ajv _ omg omg), wmid (a + b) omg omg, aac (ajv _ omg omg)]
        have hpair : ∃ lo hi : Int, (if (a + b) / 2 < m then gd (abx ((a + b) / 2 + m - b)) (some ((a + b) / 2 + m - b, (a + b) / 2)) else some (a, m)) = some (lo, hi) ∧ a ≤ lo ∧ lo ≤ hi ∧ hi ≤ m ∧ hi ≤ (a + b) / 2 ∧ (∀ c, lo ≤ c → c ≤ hi → (a + b) / 2 + m - c ≤ b ∧ m ≤ (a + b) / 2 + m - c) := by
          by_cases hmm : (a + b) / 2 < m
          · exact ⟨_, _, by rw [if_pos hmm, aac (ajv _ omg omg)], by omega, by omega, by omega, by omega, fun c h1 h2 => by omega⟩
          · exact ⟨a, m, by rw [if_neg hmm], by omega, by omega, by omega, by omega, fun c h1 h2 => by omega⟩
        obtain ⟨lo, hi, e, p1, p2, p3, p4, p5⟩ := hpair
        rw [e, zab, aac (ajv _ omg omg)]
        simp only
        obtain ⟨st, g1, g2, g3⟩ := tM4 fu data hl a m b ha omg omg omg omg lo hi omg omg (fun c c1 c2 => by have := p5 c c1 omg; omega) 200 lo hi fu omg omg omg p2 omg
        have p6 := p5 st g2 g3
        rw [g1, zab, aac (ajv _ omg omg)]
        have hrot : ∃ d1, (((if st < m then some (decide (m < (a + b) / 2 + m - st)) else some false)).bind fun (v1323 : Bool) => (bif v1323 then ((abo fu data st m ((a + b) / 2 + m - st)).bind fun (y1328 : List PP) => some y1328) else some data)) = some d1 ∧ d1.length = data.length := by
          by_cases c1 : st < m
          · rw [if_pos c1, zab]
            by_cases c2 : m < (a + b) / 2 + m - st
            · obtain ⟨d, k1, k2⟩ := tRot fu omg data st m ((a + b) / 2 + m - st) omg c1 c2 omg hl
              rw [decide_eq_true c2, cond_true, k1]; exact ⟨d, rfl, k2⟩
            · rw [decide_eq_false c2]; exact ⟨data, rfl, rfl⟩
          · rw [if_neg c1]; exact ⟨data, rfl, rfl⟩
        obtain ⟨d1, r1, r2⟩ := hrot
        rw [r1, zab]
        have hs1 : ∃ d2, (((if a < st then some (decide (st < (a + b) / 2)) else some false)).bind fun (v1360 : Bool) => (bif v1360 then ((aao fu d1 a st ((a + b) / 2)).bind fun (y1365 : List PP) => some y1365) else some d1)) = some d2 ∧ d2.length = data.length := by
          by_cases c1 : a < st
          · rw [if_pos c1, zab]
            by_cases c2 : st < (a + b) / 2
            · obtain ⟨d, k1, k2⟩ := ih fu d1 a st ((a + b) / 2) omg omg ha c1 c2 omg omg
              rw [decide_eq_true c2, cond_true, k1]; exact ⟨d, rfl, by omega⟩
            · rw [decide_eq_false c2]; exact ⟨d1, rfl, r2⟩
          · rw [if_neg c1]; exact ⟨d1, rfl, r2⟩
        obtain ⟨d2, s1, s2⟩ := hs1
        rw [s1, zab]
        by_cases c1 : (a + b) / 2 < (a + b) / 2 + m - st
        · rw [if_pos c1, zab]
          by_cases c2 : (a + b) / 2 + m - st < b
          · obtain ⟨d, k1, k2⟩ := ih fu d2 ((a + b) / 2) ((a + b) / 2 + m - st) b omg omg omg c1 c2 omg omg
            rw [decide_eq_true c2, cond_true, k1]; exact ⟨d, rfl, by omega⟩
          · rw [decide_eq_false c2]; exact ⟨d2, rfl, s2⟩
        · rw [if_neg c1]; exact ⟨d2, rfl, s2⟩
open Go.Lib renaming index → zaq
open List renaming length_append → zaf, length_cons → zae, length_singleton → zag
theorem tSt0 (n : Nat) (t : Nat) : ∀ (data : List PP) (a b fk : Nat), n < b + t → t < fk → a ≤ n → n = data.length → data.length ≤ 100 →
    ∃ d a' : _, aai FU (n : Int) fk data (a : Int) (b : Int) = some (d, ((a' : Nat) : Int)) ∧ d.length = data.length ∧ a' ≤ n := by
  induction t with
  | zero =>
    intro data a b fk h hf ha hn hl
    obtain ⟨fk, rfl⟩ := fkx fk
    rw [aai, if_neg omg]
    exact ⟨data, a, rfl, rfl, ha⟩
  | succ t ih =>
    intro data a b fk h hf ha hn hl
    obtain ⟨fk, rfl⟩ := fkx fk
    rw [aai]
    by_cases hb : (b : Int) ≤ (n : Int)
    · obtain ⟨d, h1, h2⟩ := tIns FU (by rw [ahk]; omega) a b data omg omg hl
      rw [if_pos hb, h1, zab, aac (ajv _ omg omg)]
      have := ih d b (b + 20) fk omg omg omg omg omg
      rw [h2] at this
      exact this
    · rw [if_neg hb]; exact ⟨data, a, rfl, rfl, ha⟩
theorem tSt2 (n bs : Nat) (hbs : 1 ≤ bs) (hbs2 : bs ≤ 1000) (t : Nat) : ∀ (data : List PP) (a b fk : Nat), n < b + t → t < fk → a ≤ n → b = a + 2 * bs → n = data.length → data.length ≤ 100 →
    ∃ d a' : _, aas FU (n : Int) (bs : Int) fk data (a : Int) (b : Int) = some (d, ((a' : Nat) : Int)) ∧ d.length = data.length ∧ a' ≤ n := by
  induction t with
  | zero =>
    intro data a b fk h hf ha hab hn hl
    obtain ⟨fk, rfl⟩ := fkx fk
    rw [aas, if_neg omg]
    exact ⟨data, a, rfl, rfl, ha⟩
  | succ t ih =>
    intro data a b fk h hf ha hab hn hl
    obtain ⟨fk, rfl⟩ := fkx fk
    rw [aas]
    by_cases hb : (b : Int) ≤ (n : Int)
    · obtain ⟨d, h1, h2⟩ := tSym 100 FU data (a : Int) ((a : Int) + (bs : Int)) (b : Int) omg (by rw [ahk]; omega) omg omg omg omg hl
      rw [if_pos hb, aac (ajv _ omg omg), h1, zab, aac (ajv _ omg omg), aac (ajv _ omg omg)]
      have := ih d b (b + 2 * bs) fk omg omg omg rfl omg omg
      rw [h2] at this
      have e : (b : Int) + 2 * (bs : Int) = ((b + 2 * bs : Nat) : Int) := by omega
      rw [e]
      exact this
    · rw [if_neg hb]; exact ⟨data, a, rfl, rfl, ha⟩
theorem tSt1 (n : Nat) (t : Nat) : ∀ (data : List PP) (bs fk : Nat), n < bs + t → t < fk → 1 ≤ bs → bs ≤ 200 → n = data.length → data.length ≤ 100 → Keeps (aaf FU (n : Int) fk data (bs : Int)) data.length := by
  induction t with
  | zero =>
    intro data bs fk h hf h1 h2 hn hl
    obtain ⟨fk, rfl⟩ := fkx fk
    rw [aaf, if_neg omg]
    exact ⟨data, rfl, rfl⟩
  | succ t ih =>
    intro data bs fk h hf h1 h2 hn hl
    obtain ⟨fk, rfl⟩ := fkx fk
    rw [aaf]
    by_cases hb : (bs : Int) < (n : Int)
    · obtain ⟨d, a', g1, g2, g3⟩ := tSt2 n bs h1 omg 200 data 0 (2 * bs) FU omg (by rw [ahk]; omega) omg omg hn hl
      have g1' : aas FU (n : Int) (bs : Int) FU data (0 : Int) ((2 : Int) * (bs : Int)) = some (d, ((a' : Nat) : Int)) := g1
      rw [if_pos hb, aac (ajv _ omg omg), g1', zab]
      simp only
      rw [aac (ajv _ omg omg)]
      have e : (bs : Int) * 2 = ((bs * 2 : Nat) : Int) := by omega
      by_cases hc : (a' : Int) + (bs : Int) < (n : Int)
      · obtain ⟨d2, k1, k2⟩ := tSym 100 FU d (a' : Int) ((a' : Int) + (bs : Int)) (n : Int) omg (by rw [ahk]; omega) omg omg omg omg omg
        rw [if_pos hc, k1, zab, aac (ajv _ omg omg), e]
        have := ih d2 (bs * 2) fk omg omg omg omg omg omg
        rw [k2, g2] at this
        exact this
      · rw [if_neg hc, aac (ajv _ omg omg), e]
        have := ih d (bs * 2) fk omg omg omg omg omg omg
        rw [g2] at this
        exact this
    · rw [if_neg hb]; exact ⟨data, rfl, rfl⟩
theorem sorted_keeps (l : List PP) (hl : l.length ≤ 100) : Keeps (aeq FU l) l.length := by
  unfold aeq ahm abc aci ack
  obtain ⟨d, a', g1, g2, g3⟩ := tSt0 l.length 200 l 0 20 FU omg (by rw [ahk]; omega) omg rfl hl
  have g1' : aai FU (l.length : Int) FU l (0 : Int) (20 : Int) = some (d, ((a' : Nat) : Int)) := g1
  obtain ⟨d2, k1, k2⟩ := tIns FU (by rw [ahk]; omega) a' l.length d omg omg omg
  obtain ⟨d3, m1, m2⟩ := tSt1 l.length 200 d2 20 FU omg (by rw [ahk]; omega) omg omg omg omg
  have m1' : aaf FU (l.length : Int) FU d2 (20 : Int) = some d3 := m1
  rw [zab, collect_eq l omg, zab, g1', zab]
  simp only
  rw [k1, zab, m1', zab, zab, zab]
  exact ⟨d3, rfl, by omega⟩
theorem sorted_eq (l : List PP) (hl : l.length < 20) : aeq FU l = some (apq l) := by
  unfold aeq ahm abc aci ack
  obtain ⟨m, hm⟩ : ∃ m, FU = m + 1 := ⟨FU - 1, by rw [ahk]⟩
  have g1 : aai FU (l.length : Int) FU l (0 : Int) (20 : Int) = some (l, 0) := by
    have : ∀ k, aai FU (l.length : Int) (k + 1) l (0 : Int) (20 : Int) = some (l, 0) := fun k => by
      rw [aai, if_neg omg]
    have := this m
    rw [← hm] at this
    exact this
  have g2 : aaf FU (l.length : Int) FU (apq l) (20 : Int) = some (apq l) := by
    have : ∀ k, aaf FU (l.length : Int) (k + 1) (apq l) (20 : Int) = some (apq l) := fun k => by
      rw [aaf, if_neg omg]
    have := this m
    rw [← hm] at this
    exact this
  rw [zab, collect_eq l omg, zab, g1, zab]
  simp only
  rw [ins_eq l omg, zab, g2]; rfl
theorem idx47 (c : UInt8) : ∀ v : Str, (zaq v [c] = -1 ∧ ∀ b ∈ v, b ≠ c) ∨ (∃ f s2, v = f ++ c :: s2 ∧ (∀ b ∈ f, b ≠ c) ∧ zaq v [c] = (f.length : Int))
  | [] => .inl ⟨rfl, by simp⟩
  | b :: l => by
    rw [index_cons]
    have e : ([c] : Str).isPrefixOf (b :: l) = (c == b) := by simp [List.isPrefixOf]
    rw [e]
    by_cases h : b = c
    · subst h
      right
      exact ⟨[], l, rfl, by simp, by rw [if_pos (by simp)]; rfl⟩
    · rw [if_neg (by simpa using fun x => h x.symm)]
      rcases idx47 c l with ⟨h1, h2⟩ | ⟨f, s2, h1, h2, h3⟩
      · left
        rw [if_pos h1]
        exact ⟨rfl, fun x hx => by rcases List.mem_cons.1 hx with rfl | hx; exact h; exact h2 x hx⟩
      · right
        refine ⟨b :: f, s2, by rw [h1]; rfl, fun x hx => by rcases List.mem_cons.1 hx with rfl | hx; exact h; exact h2 x hx, ?_⟩
        rw [if_neg omg, h3, zae]; omega
theorem ppM_len (l : List PP) (hb : ∀ p ∈ l, p.1.length ≤ 4194304 ∧ p.2.1.length ≤ 4194304) : (ppM l).1.length ≤ 256000000 := by
  unfold ppM
  split
  · simp
  · rename_i h
    cases hp : ppL [] l with
    | none => simp
    | some t =>
      have := ppL_len l [] t hb hp
      simp only
      omega
theorem long_eq2 (l : List PP) (h : 16 < l.length) : acu FU l = some ([], 2) := by
  unfold acu; rw [if_pos omg]
theorem same_lp2 (X : List PP) (hX : X.length ≤ 4194304) (n : Nat) : ∀ (k fk : Nat), k + n = X.length → n < fk → aec FU X X fk (k : Int) = some (.inl ()) := by
  induction n with
  | zero =>
    intro k fk hk hf
    obtain ⟨fk, rfl⟩ := fkx fk
    rw [aec, if_neg omg]
  | succ n ih =>
    intro k fk hk hf
    obtain ⟨fk, rfl⟩ := fkx fk
    have hin : (0 : Int) ≤ (k : Int) ∧ (k : Int) < (X.length : Int) := by omega
    rw [aec, if_pos hin.2, aac hin, aac hin, aac hin, aac hin, if_pos rfl, aac (ahb _ omg omg)]
    exact ih (k + 1) fk omg omg
theorem sameParams_self (X : List PP) (hX : X.length ≤ 4194304) : aiy FU X X = some true := by
  have := same_lp2 X hX X.length 0 FU omg (by rw [ahk]; omega)
  have this' : aec FU X X FU (0 : Int) = _ := this
  unfold aiy
  rw [if_pos rfl, this']; rfl
theorem parM_len (s : Str) : ∀ (f : Nat) (l : List PP) (i : Nat), l.length ≤ 16 → (parM s f l i).1.length ≤ 16
  | 0, _, _, _ => by simp [parM]
  | f + 1, l, i, h => by
    rw [parM]
    split
    · exact h
    · split
      · simp
      · split
        · split
          · rename_i hr
            have hl16 := ((room0 l _).1 hr).2
            exact parM_len s f _ _ (by simp only [zaf, zag]; omega)
          · simp
        · simp
end Go.Wk
set_option maxRecDepth 20000
namespace Go.Wk
open Go.Px
open Bool renaming true_and → zas
open List renaming all_cons → zaG, append_nil → zaw, length → zaH, length_append → zaf, length_cons → zae
open Option renaming bind_some → zab
open Sum renaming elim_inl → zau
theorem digB_no {c : UInt8} (h : adz c = false) : c < 48 ∨ (57 : UInt8) < c := by
  by_cases h1 : c < 48
  · exact .inl h1
  · by_cases h2 : (57 : UInt8) < c
    · exact .inr h2
    · exfalso
      have : adz c = true := by
        rw [digitB_iff]
        rw [UInt8.lt_iff_toNat_lt] at h1 h2
        have e1 : (48 : UInt8).toNat = 48 := rfl
        have e2 : (57 : UInt8).toNat = 57 := rfl
        omega
      rw [this] at h; cases h
theorem digQ_sub {c : UInt8} (h : adz c = true) : (c - 48).toNat = c.toNat - 48 ∧ ¬ c < 48 ∧ ¬ (57 : UInt8) < c ∧ c.toNat ≤ 57 := by
  have hc := (digitB_iff c).1 h
  refine ⟨?_, ?_, ?_, by omega⟩
  · have h48 : (48 : UInt8) ≤ c := by rw [UInt8.le_iff_toNat_le]; show 48 ≤ c.toNat; omega
    rw [UInt8.toNat_sub_of_le _ _ h48]; rfl
  · rw [UInt8.lt_iff_toNat_lt]; show ¬ c.toNat < 48; omega
  · rw [UInt8.lt_iff_toNat_lt]; show ¬ 57 < c.toNat; omega
def numQ (s : Str) : Int × UInt8 :=
  if s.length < 1 ∨ 10 < s.length ∨ s.all adz = false then (0, 5) else if 2147483647 < agd s then (0, 3) else ((agd s : Int), 0)
theorem numberQ_lp (s : Str) (hs : s.length ≤ 18) (l : Str) : ∀ (p : Str) (fk : Nat), s = p ++ l → l.length < fk → p.all adz = true →
    afb FU s fk (agd p : Int) (p.length : Int) = some (if l.all adz = true then .inl (agd s : Int) else .inr ((0 : Int), (5 : UInt8))) := by
  induction l with
  | nil =>
    intro p fk h hf hp
    obtain ⟨fk, rfl⟩ := fkx fk
    rw [zaw] at h
    subst h
    rw [afb, if_neg omg]; rfl
  | cons c l ih =>
    intro p fk h hf hp
    obtain ⟨fk, rfl⟩ := fkx fk
    have hb : (0 : Int) ≤ (p.length : Int) ∧ (p.length : Int) < (s.length : Int) := by rw [h, zaf, zae]; omega
    have ha : at_ s (p.length : Int) = c := by rw [h, at_mid]
    simp only [zae] at hf
    cases hc : adz c with
    | false =>
      rw [afb, if_pos hb.2, aac hb, ha, zaG, hc, Bool.false_and, if_neg (show ¬ false = true by decide)]
      rcases digB_no hc with h1 | h1
      · rw [if_pos h1, zab, cond_true]
      · by_cases h2 : c < 48
        · rw [if_pos h2, zab, cond_true]
        · rw [if_neg h2, aac hb, decide_eq_true h1, zab, cond_true]
    | true =>
      obtain ⟨hx, n1, n2, n3⟩ := digQ_sub hc
      have hv := decVal_lt 17 p (by have := congrArg zaH h; rw [zaf, zae] at this; omega) hp
      rw [afb, if_pos hb.2, aac hb, ha, if_neg n1, aac hb, decide_eq_false n2, zab, cond_false, hx, aac (ahb _ omg omg), aac hb, aac (ahb _ omg omg), aac (ahb _ omg omg)]
      have e : (10 : Int) * (agd p : Int) + ((c.toNat - 48 : Nat) : Int) = (agd (p ++ [c]) : Int) := by rw [aoa]; omega
      rw [e, aip p c, zaG, hc, zas]
      exact ih (p ++ [c]) fk (by rw [h]; simp) omg (by rw [List.all_append, hp]; simpa using hc)
theorem number_eq (s : Str) : akx FU s = some (numQ s) := by
  unfold akx numQ
  by_cases h1 : s.length < 1
  · rw [if_pos omg, zab, cond_true, if_pos (.inl h1)]
  · rw [if_neg omg, zab]
    by_cases h2 : 10 < s.length
    · rw [decide_eq_true omg, cond_true, if_pos (.inr (.inl h2))]
    · rw [decide_eq_false omg, cond_false]
      have := numberQ_lp s omg s [] FU (by simp) (by rw [ahk]; omega) (by simp)
      change afb FU s FU (0 : Int) (0 : Int) = _ at this
      rw [this, zab]
      cases h3 : s.all adz with
      | false => rw [if_neg (show ¬ false = true by decide), Sum.elim_inr, if_pos (.inr (.inr rfl))]
      | true =>
        rw [if_pos rfl, zau, if_neg (show ¬ (s.length < 1 ∨ 10 < s.length ∨ true = false) by rintro (h | h | h) <;> first | omega | cases h)]
        by_cases h4 : 2147483647 < agd s
        · rw [if_pos omg, if_pos h4]
        · rw [if_neg omg, if_neg h4]
theorem refNumberQ_lp (s : Str) (hs : s.length ≤ 4194304) (l : Str) : ∀ (p : Str) (fk : Nat), s = p ++ l → l.length < fk → p.all adz = true → p.length ≤ 10 →
    afa FU s fk (agd p : Int) (p.length : Int) = some (if l.all adz = true ∧ s.length ≤ 10 then .inl (agd s : Int) else .inr ((0 : Int), (5 : UInt8))) := by
  induction l with
  | nil =>
    intro p fk h hf hp hl
    obtain ⟨fk, rfl⟩ := fkx fk
    rw [zaw] at h
    subst h
    rw [afa, if_neg omg, if_pos ⟨rfl, hl⟩]
  | cons c l ih =>
    intro p fk h hf hp hl
    obtain ⟨fk, rfl⟩ := fkx fk
    have hlen : s.length = p.length + (l.length + 1) := by rw [h, zaf, zae]
    have hb : (0 : Int) ≤ (p.length : Int) ∧ (p.length : Int) < (s.length : Int) := by omega
    have ha : at_ s (p.length : Int) = c := by rw [h, at_mid]
    simp only [zae] at hf
    cases hc : adz c with
    | false =>
      rw [afa, if_pos hb.2, aac hb, ha, zaG, hc, Bool.false_and, if_neg (show ¬ (false = true ∧ s.length ≤ 10) by rintro ⟨h, _⟩; cases h)]
      by_cases h2 : c < 48
      · rw [if_pos h2, zab, cond_true]
      · rcases digB_no hc with h1 | h1
        · exact absurd h1 h2
        · rw [if_neg h2, aac hb, if_pos h1, zab, cond_true]
    | true =>
      obtain ⟨hx, n1, n2, n3⟩ := digQ_sub hc
      rw [afa, if_pos hb.2, aac hb, ha, if_neg n1, aac hb, if_neg n2, zab]
      by_cases h10 : 10 ≤ p.length
      · rw [decide_eq_true omg, cond_true, if_neg (by rintro ⟨_, h⟩; omega)]
      · have hv := decVal_lt 17 p omg hp
        rw [decide_eq_false omg, cond_false, hx, aac (ahb _ omg omg), aac hb, aac (ahb _ omg omg), aac (ahb _ omg omg)]
        have e : (10 : Int) * (agd p : Int) + ((c.toNat - 48 : Nat) : Int) = (agd (p ++ [c]) : Int) := by rw [aoa]; omega
        rw [e, aip p c, zaG, hc, zas]
        exact ih (p ++ [c]) fk (by rw [h]; simp) omg (by rw [List.all_append, hp]; simpa using hc) (by simp; omega)
theorem refNumber_eq (s : Str) (hs : s.length ≤ 4194304) : amo FU s = some (numQ s) := by
  unfold amo numQ
  have := refNumberQ_lp s hs s [] FU (by simp) (by rw [ahk]; omega) (by simp) (by simp)
  change afa FU s FU (0 : Int) (0 : Int) = _ at this
  rw [this, zab]
  by_cases h1 : s = []
  · subst h1; rfl
  have h0 : 0 < s.length := List.length_pos_iff.2 h1
  by_cases h2 : s.all adz = true ∧ s.length ≤ 10
  · rw [if_pos h2, zau, if_neg h1, if_neg (show ¬ (s.length < 1 ∨ 10 < s.length ∨ s.all adz = false) by rintro (h | h | h) <;> first | omega | (rw [h2.1] at h; cases h))]
    by_cases h4 : 2147483647 < agd s
    · rw [if_pos omg, if_pos h4]
    · rw [if_neg omg, if_neg h4]
  · rw [if_neg h2, Sum.elim_inr, if_pos]
    by_cases h3 : 10 < s.length
    · exact .inr (.inl h3)
    · cases h4 : s.all adz with
      | false => exact .inr (.inr rfl)
      | true => exact absurd ⟨h4, by omega⟩ h2
def portQ (s : Str) : Int × UInt8 := if (numQ s).2 = 0 ∧ ((numQ s).1 < 1 ∨ 65535 < (numQ s).1) then (0, 3) else numQ s
theorem refPort_eq (s : Str) (hs : s.length ≤ 4194304) : aoq FU s = some (portQ s) := by
  unfold aoq portQ
  rw [refNumber_eq s hs, zab]
  by_cases h1 : (numQ s).2 = 0
  · rw [if_pos h1]
    by_cases h2 : (numQ s).1 < 1
    · rw [if_pos h2, zab, cond_true, if_pos ⟨h1, .inl h2⟩]
    · rw [if_neg h2, zab]
      by_cases h3 : 65535 < (numQ s).1
      · rw [decide_eq_true h3, cond_true, if_pos ⟨h1, .inr h3⟩]
      · rw [decide_eq_false h3, cond_false, if_neg (by rintro ⟨_, h | h⟩ <;> contradiction)]
  · rw [if_neg h1, zab, cond_false, if_neg (fun h => h1 h.1)]
end Go.Wk
set_option maxRecDepth 100000
namespace Go.Wk
open Go.Px
theorem dig_of : ∀ n : Fin 10, adz (UInt8.ofNat (48 + n.val)) = true ∧ (UInt8.ofNat (48 + n.val)).toNat - 48 = n.val ∧ sub ([48, 49, 50, 51, 52, 53, 54, 55, 56, 57] : Str) (n.val : Int) ((n.val : Int) + 1) = [UInt8.ofNat (48 + n.val)] := by decide +kernel
theorem dig_at (n : Nat) (h : n < 10) : adz (UInt8.ofNat (48 + n)) = true ∧ (UInt8.ofNat (48 + n)).toNat - 48 = n ∧ sub ([48, 49, 50, 51, 52, 53, 54, 55, 56, 57] : Str) (n : Int) ((n : Int) + 1) = [UInt8.ofNat (48 + n)] := dig_of ⟨n, h⟩
theorem dd_ok : ∀ (k n : Nat), n < 10 ^ (k + 1) → (Lib.decDigits n).all adz = true ∧ agd (Lib.decDigits n) = n ∧ 1 ≤ (Lib.decDigits n).length ∧ (Lib.decDigits n).length ≤ k + 1 := by
  intro k
  induction k with
  | zero =>
    intro n h
    have h : n < 10 := by simpa using h
    have := dig_at n h
    rw [Lib.decDigits, dif_pos h]
    refine ⟨by simpa using this.1, ?_, by simp, by simp⟩
    show 10 * 0 + _ = n
    omega
  | succ k ih =>
    intro n h
    rw [Lib.decDigits]
    by_cases h1 : n < 10
    · have := dig_at n h1
      rw [dif_pos h1]
      refine ⟨by simpa using this.1, ?_, by simp, by simp⟩
      show 10 * 0 + _ = n
      omega
    · have hd := dig_at (n % 10) (Nat.mod_lt _ (by decide))
      have := ih (n / 10) (by rw [Nat.pow_succ] at h; omega)
      rw [dif_neg h1]
      refine ⟨by rw [List.all_append, this.1]; simpa using hd.1, ?_, by simp, by simp; omega⟩
      rw [aoa, this.2.1, hd.2.1]
      omega
theorem itoa_nat (n : Nat) : Lib.itoa (n : Int) = Lib.decDigits n := by
  unfold Lib.itoa
  rw [if_neg (by omega), Int.toNat_natCast]
theorem itoa_port (n : Int) (h0 : 0 ≤ n) (h : n ≤ 65535) : numQ (Lib.itoa n) = (n, 0) ∧ 1 ≤ (Lib.itoa n).length ∧ (Lib.itoa n).length ≤ 5 ∧ (Lib.itoa n).all adz = true := by
  obtain ⟨m, rfl⟩ : ∃ m : Nat, n = (m : Int) := ⟨n.toNat, by omega⟩
  obtain ⟨h1, h2, h3, h4⟩ := dd_ok 4 m (by omega)
  rw [itoa_nat]
  refine ⟨?_, h3, h4, h1⟩
  unfold numQ
  rw [h1, h2, if_neg (by rintro (h | h | h) <;> first | omega | cases h), if_neg (by omega)]
theorem rfDecimal_lp : ∀ (k n fk : Nat), n < 10 ^ (k + 1) → k + 1 < fk → k ≤ 15 → aho fk (n : Int) = some (Lib.decDigits n) := by
  intro k
  induction k with
  | zero =>
    intro n fk h hf h15
    obtain ⟨fk, rfl⟩ := fkx fk
    have h : n < 10 := by simpa using h
    rw [aho, if_pos (by omega), gok, aac (by simp; omega), (dig_at n h).2.2, Lib.decDigits, dif_pos h]
  | succ k ih =>
    intro n fk h hf h15
    obtain ⟨fk, rfl⟩ := fkx fk
    have h16 : 10 ^ (k + 1 + 1) ≤ 10 ^ 17 := Nat.pow_le_pow_right (by decide) (by omega)
    rw [aho, Lib.decDigits]
    by_cases h1 : n < 10
    · rw [if_pos (by omega), dif_pos h1, gok, aac (by simp; omega), (dig_at n h1).2.2]
    · have e1 : (n : Int) / 10 = ((n / 10 : Nat) : Int) := by omega
      have e2 : (n : Int) % 10 = ((n % 10 : Nat) : Int) := by omega
      have h2 : n / 10 < 10 ^ (k + 1) := by rw [Nat.pow_succ] at h; omega
      have hl := (dd_ok k _ h2).2.2.2
      have hg : 0 ≤ (n : Int) ∧ 0 < (10 : Int) ∧ abx (n : Int) := ⟨by omega, by omega, ahb _ (by omega) (by omega)⟩
      have hd := dig_at (n % 10) (Nat.mod_lt _ (by decide))
      rw [if_neg (by omega), dif_neg h1, aac hg, e1, ih (n / 10) fk h2 (by omega) (by omega), Option.bind_some, aac hg, aac hg, e2, aac (ahb _ (by omega) (by omega)), aac (by simp; omega), hd.2.2, aac (by simp; omega)]
theorem rfDecimal_eq (n : Int) (h0 : 0 ≤ n) (h : n ≤ 9999999999999999) : aho FU n = some (Lib.itoa n) := by
  obtain ⟨m, rfl⟩ : ∃ m : Nat, n = (m : Int) := ⟨n.toNat, by omega⟩
  rw [itoa_nat]
  exact rfDecimal_lp 15 m FU (by omega) (by rw [ahk]; omega) (by decide)
open Bool renaming not_false → zaA, not_true → zar, true_and → zas
open Int renaming toNat → zac
open List renaming append_nil → zaw, drop → zam, drop_length → zaE, length → zaH, length_append → zaf, length_cons → zae, length_drop → zat, length_nil → zao, length_singleton → zag, length_take → zah, take → zaz
open Option renaming bind_some → zab
open Sum renaming elim_inl → zau
abbrev VV := Str × Str × Int × Str × List PP
def zVia : VV := ([], [], 0, [], [])
def VER : Str := [83, 73, 80, 47, 50, 46, 48, 47]
def BRN : Str := [98, 114, 97, 110, 99, 104]
def apd (s : Str) : Str := s.map aqw
theorem upperL_len (s : Str) : (apd s).length = s.length := by unfold apd; exact List.length_map ..
theorem upper_lp (s : Str) (hs : s.length ≤ 9223372036854775807) (l : Str) : ∀ (p : Str) (fk : Nat), p.length + l.length = s.length → l.length < fk →
    abt FU s fk (p ++ l) (p.length : Int) = some (p ++ l.map aqw) := by
  induction l with
  | nil =>
    intro p fk hk hf
    obtain ⟨fk, rfl⟩ := fkx fk
    simp only [zao] at hk
    rw [abt, if_neg omg]; rfl
  | cons c l ih =>
    intro p fk hk hf
    obtain ⟨fk, rfl⟩ := fkx fk
    simp only [zae] at hk hf
    have hb := mid_lt p c l
    rw [abt, if_pos omg, aac hb, aac hb, at_mid, upperByte_eq]
    simp only [zab]
    rw [aac hb, aac hb, aac (ahb _ omg omg), set_mid, aip p (aqw c), ih (p ++ [aqw c]) fk (by rw [zaf, zag]; omega) omg]
    simp
theorem upper_eq (s : Str) (hs : s.length ≤ 9223372036854775807) : acj FU s = some (apd s) := by
  unfold acj
  have := upper_lp s hs s [] FU (by simp) (by rw [ahk]; omega)
  simp only [List.nil_append, zao, Int.natCast_zero, Int.cast_ofNat_Int] at this
  rw [this]; rfl
theorem get_lp (l : List PP) (hl : l.length ≤ 4194304) (hn : ∀ p ∈ l, p.1.length ≤ 4194304) (y : Str) (n : Nat) : ∀ (k fk : Nat), k + n = l.length → n < fk →
    agm FU l y fk (k : Int) = some (match (l.drop k).find? (fun p => acn p.1 == y) with | none => .inl () | some p => .inr (p.2.1, true)) := by
  induction n with
  | zero =>
    intro k fk hk hf
    obtain ⟨fk, rfl⟩ := fkx fk
    obtain rfl : k = l.length := by omega
    rw [agm, if_neg omg, zaE]; rfl
  | succ n ih =>
    intro k fk hk hf
    obtain ⟨fk, rfl⟩ := fkx fk
    have hlt : k < l.length := by omega
    have hin : (0 : Int) ≤ (k : Int) ∧ (k : Int) < (l.length : Int) := by omega
    have hd : l.drop k = el l (k : Int) :: l.drop (k + 1) := by rw [el_nat _ _ hlt, List.drop_eq_getElem_cons hlt]
    rw [agm, if_pos hin.2, aac hin, aac hin, apm _ (hn _ (el_mem2 l k hlt)), zab, hd, List.find?_cons]
    by_cases h : acn (el l (k : Int)).1 = y
    · rw [if_pos h, show (acn (el l (k : Int)).1 == y) = true by simpa using h]
    · rw [if_neg h, show (acn (el l (k : Int)).1 == y) = false by simpa using h, aac (ahb _ omg omg), akf, ih (k + 1) fk omg omg]
theorem get_eq (l : List PP) (hl : l.length ≤ 4194304) (hn : ∀ p ∈ l, p.1.length ≤ 4194304) (name : Str) (hm : name.length ≤ 4194304) : amc FU l name = some (getP l name) := by
  have := get_lp l hl hn (acn name) l.length 0 FU omg (by rw [ahk]; omega)
  rw [List.drop_zero] at this
  have this' : agm FU l (acn name) FU (0 : Int) = _ := this
  unfold amc
  rw [apm _ hm, zab, this', zab]
  have e : getP l name = (match l.find? (fun p => acn p.1 == acn name) with | some p => (p.2.1, true) | none => ([], false)) := rfl
  rw [e]
  cases l.find? (fun p => acn p.1 == acn name) <;> rfl
theorem contains_any (v : Str) (c : UInt8) : Lib.contains v [c] = v.any (· == c) := by
  unfold Lib.contains
  rcases idx47 c v with ⟨h1, h2⟩ | ⟨f, s2, h1, h2, h3⟩
  · rw [h1, decide_eq_false omg]
    symm
    rw [List.any_eq_false]
    intro x hx
    simpa using h2 x hx
  · rw [h3, decide_eq_true omg, h1]
    simp
def cutP (P : Str) : Str × Str × Bool :=
  if ans (· == (58 : UInt8)) P < 0 then (P, [], false)
  else if ((P.take (ans (· == (58 : UInt8)) P).toNat).any (· == 91) && (P.drop (ans (· == (58 : UInt8)) P).toNat).any (· == 93)) = true then (P, [], false)
  else (P.take (ans (· == (58 : UInt8)) P).toNat, P.drop (ans (· == (58 : UInt8)) P + 1).toNat, true)
theorem cutPort_eq (P : Str) (hP : P.length ≤ 4194304) : aks FU P = some (cutP P) := by
  have hsp := lixb_spec (· == (58 : UInt8)) P
  unfold aks cutP
  rw [aac omg]
  generalize ans (· == (58 : UInt8)) P = a at hsp ⊢
  by_cases h : a < 0
  · rw [if_pos h, zab, cond_true, if_pos h]
  · have hr : 0 ≤ a ∧ a < (P.length : Int) := by omega
    rw [if_neg h, if_neg h, aac omg, aac (by rw [zah]; omega), contains_any, contains_any]
    have fin : ∀ o : Option Bool, o = some ((P.take a.toNat).any (· == 91) && (P.drop a.toNat).any (· == 93)) → (o.bind fun (v : Bool) => (bif v then some (P, ([] : Str), false) else (gd (0 ≤ a ∧ a ≤ (P.length : Int)) <| (gd (abx (a + (1 : Int))) <| (gd (0 ≤ (a + (1 : Int)) ∧ (a + (1 : Int)) ≤ (P.length : Int)) <| some (zaz (zac a) P, zam (zac (a + (1 : Int))) P, true)))))) = some (if ((P.take a.toNat).any (· == 91) && (P.drop a.toNat).any (· == 93)) = true then (P, [], false) else (P.take a.toNat, P.drop (a + 1).toNat, true)) := by
      intro o ho
      rw [ho, zab]
      cases ((P.take a.toNat).any (· == 91) && (P.drop a.toNat).any (· == 93)) with
      | true => rfl
      | false => rw [cond_false, aac omg, aac (ahb _ omg omg), aac omg, if_neg (show ¬ (false = true) by decide)]
    refine fin _ ?_
    cases (P.take a.toNat).any (· == 91) with
    | false => rfl
    | true => rw [cond_true, aac omg, aac (by rw [zat]; omega), zas]
theorem cutP_len (P : Str) : (cutP P).1.length ≤ P.length ∧ (cutP P).2.1.length ≤ P.length := by
  unfold cutP
  split
  · simp
  · split
    · simp
    · simp only [zah, zat]; omega
def aqe (c : UInt8) : Bool := c == 59 || abd c
theorem sep_set : (fun c => ([59, 32, 9] : Str).contains c) = aqe := by
  funext c; revert c; exact aff _ (by decide +kernel)
def viaF (tr h : Str) (port : Int) (rest : Str) : VV × UInt8 := if (parP rest).2.2 = 0 then ((tr, h, port, (getP (parP rest).1 BRN).1, (parP rest).1), 0) else (zVia, (parP rest).2.2)
def viaB (tr place rest : Str) : VV × UInt8 :=
  if (aii (cutP place).1).2 = false then (zVia, 5)
  else if (cutP place).2.2 = true then (if (portQ (cutP place).2.1).2 = 0 then viaF tr (aii (cutP place).1).1 (portQ (cutP place).2.1).1 rest else (zVia, (portQ (cutP place).2.1).2))
  else viaF tr (aii (cutP place).1).1 0 rest
def viaP (v : Str) : VV × UInt8 :=
  if (anw v).length < 8 then (zVia, 5)
  else if ¬ apd ((anw v).take 8) = VER then (zVia, 5)
  else if ace acz (anw v) 8 = 8 then (zVia, 5)
  else if ace abd (anw v) (ace acz (anw v) 8 : Int) = ace acz (anw v) 8 then (zVia, 5)
  else viaB (apd (sub (anw v) 8 (ace acz (anw v) 8 : Int)))
    (((anw v).drop (ace abd (anw v) (ace acz (anw v) 8 : Int))).take (ait (fun c => !aqe c) ((anw v).drop (ace abd (anw v) (ace acz (anw v) 8 : Int)))))
    (((anw v).drop (ace abd (anw v) (ace acz (anw v) 8 : Int))).drop (ait (fun c => !aqe c) ((anw v).drop (ace abd (anw v) (ace acz (anw v) 8 : Int)))))
theorem parM_names (s : Str) (hs : s.length ≤ 4194304) : ∀ (f : Nat) (l : List PP) (i : Nat), (∀ p ∈ l, acn p.1 = p.1 ∧ p.1.length ≤ s.length ∧ p.2.1.length ≤ 90000000) → ∀ p ∈ (parM s f l i).1, acn p.1 = p.1 ∧ p.1.length ≤ s.length ∧ p.2.1.length ≤ 90000000
  | 0, _, _, _ => by simp [parM]
  | f + 1, l, i, h => by
    rw [parM]
    split
    · exact h
    · split
      · simp
      · split
        · rename_i h0
          have hb2 := afe abd s ((ace abd s (i : Int) + 1 : Nat) : Int)
          have hbd := listP_bd s hs _ hb2 h0
          split
          · refine parM_names s hs f _ _ fun p hp => ?_
            rcases List.mem_append.1 hp with hp | hp
            · exact h p hp
            · rw [List.mem_singleton.1 hp]; exact ⟨hbd.2.2.2.1, hbd.2.2.2.2.1, hbd.2.2.2.2.2⟩
          · simp
        · simp
theorem parP_names (s : Str) (hs : s.length ≤ 4194304) : ∀ p ∈ (parP s).1, acn p.1 = p.1 ∧ p.1.length ≤ s.length ∧ p.2.1.length ≤ 90000000 := parM_names s hs _ [] 0 (by simp)
theorem parP_len (s : Str) : (parP s).1.length ≤ 16 := parM_len s _ [] 0 (by simp)
theorem viaF_eq (tr h : Str) (port : Int) (rest : Str) (hr : rest.length ≤ 4194304) : ((ahw FU rest).bind fun (y : ((List PP) × Int × UInt8)) => (if y.2.2 = (0 : UInt8) then ((amc FU y.1 ([98, 114, 97, 110, 99, 104] : Str)).bind fun (g : (Str × Bool)) => some ((tr, h, port, g.1, y.1), (0 : UInt8))) else some ((([] : Str), ([] : Str), (0 : Int), ([] : Str), ([] : List PP)), y.2.2))) = some (viaF tr h port rest) := by
  have hl := parP_len rest
  have hn := parP_names rest hr
  unfold viaF
  rw [params_eq rest hr, zab]
  by_cases h0 : (parP rest).2.2 = 0
  · rw [if_pos h0, if_pos h0, get_eq _ omg (fun p hp => by have := (hn p hp).2.1; omega) _ (by decide), zab]; rfl
  · rw [if_neg h0, if_neg h0]; rfl
theorem port_ok (y : Int × UInt8) : ((if y.2 = (0 : UInt8) then (if y.1 < (1 : Int) then some true else some (decide ((65535 : Int) < y.1))) else some false).bind fun (b : Bool) => (bif b then some (3 : UInt8) else some y.2)) = some (if y.2 = 0 ∧ (y.1 < 1 ∨ 65535 < y.1) then 3 else y.2) := by
  by_cases h0 : y.2 = 0
  · rw [if_pos h0]
    by_cases h1 : y.1 < 1
    · rw [if_pos h1, if_pos ⟨h0, .inl h1⟩]; rfl
    · rw [if_neg h1]
      by_cases h2 : 65535 < y.1
      · rw [decide_eq_true h2, if_pos ⟨h0, .inr h2⟩]; rfl
      · rw [decide_eq_false h2, if_neg (by rintro ⟨_, h | h⟩ <;> contradiction)]; rfl
  · rw [if_neg h0, if_neg (fun h => h0 h.1)]; rfl
theorem via_eq (v : Str) (hv : v.length ≤ 4194304) : amz FU v = some (viaP v) := by
  have hl := trimL_len v
  unfold amz viaP
  rw [trim_eq v hv, zab]
  generalize anw v = s at hl ⊢
  by_cases h8 : s.length < 8
  · rw [if_pos (show (s.length : Int) < 8 by omega), if_pos h8]; rfl
  rw [if_neg (show ¬ (s.length : Int) < 8 by omega), if_neg h8, aac omg, upper_eq _ (by rw [zah]; omega), zab, zab]
  by_cases hV : apd (s.take 8) = VER
  · have hV' : apd (zaz (zac (8 : Int)) s) = ([83, 73, 80, 47, 50, 46, 48, 47] : Str) := hV
    have hk1 := ahr acz s 8 omg
    have hk2 := afe acz s 8
    have hk1' : 8 ≤ ace acz s 8 := hk1
    rw [decide_eq_true hV', zar, cond_false, if_neg (not_not_intro hV), tokEndP_eq s omg, zab, blanks_eq s omg, zab]
    generalize ace acz s 8 = k at hk1' hk2 ⊢
    have hi1 := ahr abd s k hk2
    have hi2 := afe abd s (k : Int)
    generalize ace abd s (k : Int) = i at hi1 hi2 ⊢
    by_cases hk8 : k = 8
    · rw [if_pos omg, zab, cond_true, if_pos hk8]; rfl
    rw [if_neg omg, zab, if_neg hk8]
    by_cases hik : i = k
    · rw [decide_eq_true omg, cond_true, if_pos hik]; rfl
    rw [decide_eq_false omg, cond_false, if_neg hik, aac omg, upper_eq _ (by rw [show (8 : Int) = ((8 : Nat) : Int) from rfl, anx]; omega), zab, aac omg, Int.toNat_natCast]
    have hPl : (s.drop i).length ≤ 4194304 := by rw [zat]; omega
    generalize apd (sub s (8 : Int) (k : Int)) = tr
    generalize s.drop i = P at hPl ⊢
    have hsp := ixb_spec aqe P
    have hspl := aqo (fun c => !aqe c) P
    have hpl : ∀ o : Option (Str × Str), o = some (P.take (ait (fun c => !aqe c) P), P.drop (ait (fun c => !aqe c) P)) → ∀ f : Str × Str → Option (VV × UInt8), o.bind f = f (P.take (ait (fun c => !aqe c) P), P.drop (ait (fun c => !aqe c) P)) := fun o ho f => by rw [ho]; rfl
    rw [hpl _ (by
      rw [aac ⟨by omega, by decide, by decide⟩, aqg, sep_set]
      by_cases hx : (0 : Int) ≤ ixb aqe P
      · rcases hsp with h | h
        · omega
        · rw [if_pos hx, aac omg, aac omg, h.2.2, Int.toNat_natCast]
      · rcases hsp with h | h
        · rw [if_neg hx, h.2, List.take_length, zaE]
        · omega)]
    have hpt : (P.take (ait (fun c => !aqe c) P)).length ≤ 4194304 := by rw [zah]; omega
    have hpd : (P.drop (ait (fun c => !aqe c) P)).length ≤ 4194304 := by rw [zat]; omega
    generalize P.take (ait (fun c => !aqe c) P) = pl at hpt ⊢
    generalize P.drop (ait (fun c => !aqe c) P) = rest at hpd ⊢
    have hcl := cutP_len pl
    unfold viaB
    simp only
    rw [cutPort_eq pl hpt, zab, adHost_eq _ omg, zab]
    cases hh : (aii (cutP pl).1).2 with
    | false => rfl
    | true =>
      rw [zar, cond_false, if_neg (show ¬ (true = false) by decide)]
      cases hc : (cutP pl).2.2 with
      | false =>
        rw [cond_false, zab, zau, viaF_eq _ _ _ _ hpd, if_neg (show ¬ (false = true) by decide)]
      | true =>
        rw [cond_true, number_eq, zab, port_ok, zab, if_pos rfl]
        unfold portQ
        by_cases hp : (numQ (cutP pl).2.1).2 = 0 ∧ ((numQ (cutP pl).2.1).1 < 1 ∨ 65535 < (numQ (cutP pl).2.1).1)
        · rw [if_pos hp, if_pos hp, if_neg (by decide), zab, Sum.elim_inr, if_neg (by decide)]; rfl
        · rw [if_neg hp, if_neg hp]
          by_cases h0 : (numQ (cutP pl).2.1).2 = 0
          · rw [if_pos h0, if_pos h0, zab, zau, viaF_eq _ _ _ _ hpd]
          · rw [if_neg h0, if_neg h0, zab, Sum.elim_inr]; rfl
  · have hV' : ¬ apd (zaz (zac (8 : Int)) s) = ([83, 73, 80, 47, 50, 46, 48, 47] : Str) := hV
    rw [decide_eq_false hV', zaA, cond_true, if_pos hV]; rfl
def aqq (l : List PP) : List PP := l.filter fun p => !(p.1 == BRN)
def brOf (b : Str) : List PP := if b = [] then [] else [(BRN, b, true)]
def prHost (h : Str) (n : Int) : Str := if n = 0 then h else h ++ ([58] ++ Lib.itoa n)
def prVia (x : VV) : Str × UInt8 :=
  if (aii x.2.1).2 = true ∧ aop x.1 = true ∧ 0 ≤ x.2.2.1 ∧ x.2.2.1 ≤ 65535 ∧ (ppM (apq (aqq x.2.2.2.2 ++ brOf x.2.2.2.1))).2 = 0
  then (VER ++ apd x.1 ++ [32] ++ prHost (aii x.2.1).1 x.2.2.1 ++ (ppM (apq (aqq x.2.2.2.2 ++ brOf x.2.2.2.1))).1, 0) else ([], 2)
theorem noBr_len (l : List PP) : (aqq l).length ≤ l.length := List.length_filter_le _ _
theorem noBr_mem (l : List PP) (p : PP) (h : p ∈ aqq l) : p ∈ l := (List.mem_filter.1 h).1
theorem brOf_len (b : Str) : (brOf b).length ≤ 1 := by unfold brOf; split <;> simp
theorem nobr_lp (x : VV) (hl : x.2.2.2.2.length ≤ 4194304) (q : List PP) : ∀ (p : List PP) (fk : Nat), x.2.2.2.2 = p ++ q → q.length < fk →
    adv FU x fk (aqq p) (p.length : Int) = some (aqq (p ++ q)) := by
  induction q with
  | nil =>
    intro p fk h hf
    obtain ⟨fk, rfl⟩ := fkx fk
    rw [adv, if_neg (by rw [h]; simp), zaw]
  | cons a q ih =>
    intro p fk h hf
    obtain ⟨fk, rfl⟩ := fkx fk
    have hlen := congrArg zaH h
    simp only [zaf, zae] at hlen hf
    have hin : (0 : Int) ≤ (p.length : Int) ∧ (p.length : Int) < (x.2.2.2.2.length : Int) := by omega
    have he : el x.2.2.2.2 (p.length : Int) = a := by rw [h]; simp [el]
    have hih := ih (p ++ [a]) fk (by rw [h]; simp) omg
    rw [show ((p ++ [a]).length : Int) = (p.length : Int) + 1 by simp, List.append_assoc, List.singleton_append] at hih
    have hnl := noBr_len p
    rw [adv, if_pos hin.2, aac hin, aac hin, he]
    by_cases hb : a.1 = BRN
    · have e : aqq (p ++ [a]) = aqq p := by unfold aqq; rw [List.filter_append]; simp [hb]
      rw [if_pos (show a.1 = ([98, 114, 97, 110, 99, 104] : Str) from hb), aac (ahb _ omg omg)]
      rw [e] at hih; exact hih
    · have e : aqq (p ++ [a]) = aqq p ++ [a] := by unfold aqq; rw [List.filter_append]; simp [hb]
      rw [if_neg (show ¬ a.1 = ([98, 114, 97, 110, 99, 104] : Str) from hb)]
      simp only [pp_eta]
      rw [aac (by simp only [zag]; omega), aac (ahb _ omg omg)]
      rw [e] at hih; exact hih
theorem vl_mem (x : VV) (hb : ∀ p ∈ x.2.2.2.2, p.1.length ≤ 4194304 ∧ p.2.1.length ≤ 4194304) (hB : x.2.2.2.1.length ≤ 4194304) : ∀ p ∈ aqq x.2.2.2.2 ++ brOf x.2.2.2.1, p.1.length ≤ 4194304 ∧ p.2.1.length ≤ 4194304 := by
  intro p hp
  rcases List.mem_append.1 hp with h | h
  · exact hb p (noBr_mem _ p h)
  · unfold brOf at h
    split at h
    · simp at h
    · rw [List.mem_singleton.1 h]; exact ⟨show BRN.length ≤ 4194304 by decide, hB⟩
theorem isort_ppM (l : List PP) (hl : l.length ≤ 100) (hb : ∀ p ∈ l, p.1.length ≤ 4194304 ∧ p.2.1.length ≤ 4194304) : ((aeq FU l).bind fun y => acu FU y) = some (ppM (apq l)) := by
  have hil := isort_len l
  by_cases h16 : 16 < l.length
  · obtain ⟨d, g1, g2⟩ := sorted_keeps l hl
    have hm : ppM (apq l) = ([], 2) := by unfold ppM; rw [if_pos omg]
    rw [g1, zab, long_eq2 d omg, hm]
  · rw [sorted_eq l omg, zab, printParams_eq _ (fun p hp => hb p (isort_mem _ p hp))]
theorem aoj (x : VV) (h : ¬ ((aii x.2.1).2 = true ∧ aop x.1 = true ∧ 0 ≤ x.2.2.1 ∧ x.2.2.1 ≤ 65535 ∧ (ppM (apq (aqq x.2.2.2.2 ++ brOf x.2.2.2.1))).2 = 0)) : prVia x = ([], 2) := by unfold prVia; rw [if_neg h]
theorem prVia_yes (x : VV) (h : (aii x.2.1).2 = true ∧ aop x.1 = true ∧ 0 ≤ x.2.2.1 ∧ x.2.2.1 ≤ 65535 ∧ (ppM (apq (aqq x.2.2.2.2 ++ brOf x.2.2.2.1))).2 = 0) : prVia x = (VER ++ apd x.1 ++ [32] ++ prHost (aii x.2.1).1 x.2.2.1 ++ (ppM (apq (aqq x.2.2.2.2 ++ brOf x.2.2.2.1))).1, 0) := by unfold prVia; rw [if_pos h]
theorem printVia_eq (x : VV) (h1 : x.1.length ≤ 4194304) (h2 : x.2.1.length ≤ 4194304) (hl : x.2.2.2.2.length ≤ 40) (hb : ∀ p ∈ x.2.2.2.2, p.1.length ≤ 4194304 ∧ p.2.1.length ≤ 4194304) (hB : x.2.2.2.1.length ≤ 4194304) : ajx FU x = some (prVia x) := by
  have hnl := noBr_len x.2.2.2.2
  have hbl := brOf_len x.2.2.2.1
  have hvm := vl_mem x hb hB
  have hvl : (aqq x.2.2.2.2 ++ brOf x.2.2.2.1).length ≤ 41 := by rw [zaf]; omega
  have hpl := ppM_len (apq (aqq x.2.2.2.2 ++ brOf x.2.2.2.1)) (fun p hp => hvm p (isort_mem _ p hp))
  have hh := hostP_len x.2.1
  have hul := upperL_len x.1
  unfold ajx
  rw [adHost_eq _ h2, zab]
  cases hH : (aii x.2.1).2 with
  | false => rw [aoj x (fun h => by rw [hH] at h; exact absurd h.1 (by decide))]; rfl
  | true =>
    rw [zar, cond_false, token_eq _ omg, zab]
    cases hT : aop x.1 with
    | false => rw [aoj x (fun h => by rw [hT] at h; exact absurd h.2.1 (by decide))]; rfl
    | true =>
      rw [zar, cond_false]
      by_cases hp0 : x.2.2.1 < 0
      · rw [if_pos hp0, zab, cond_true, aoj x (by rintro ⟨_, _, h, _⟩; omega)]
      by_cases hp1 : 65535 < x.2.2.1
      · rw [if_neg hp0, decide_eq_true hp1, zab, cond_true, aoj x (by rintro ⟨_, _, _, h, _⟩; omega)]
      have hlp := nobr_lp x omg x.2.2.2.2 [] FU rfl (by rw [ahk]; omega)
      have hlp' : adv FU x FU ([] : List PP) (0 : Int) = some (aqq x.2.2.2.2) := hlp
      rw [if_neg hp0, decide_eq_false hp1, zab, cond_false, hlp', zab]
      have eb : (if x.2.2.2.1 = ([] : Str) then some (aqq x.2.2.2.2) else (gd (((aqq x.2.2.2.2).length + ([(([98, 114, 97, 110, 99, 104] : Str), x.2.2.2.1, true)] : List PP).length) * 40 ≤ 140737488355328) <| some (aqq x.2.2.2.2 ++ ([(([98, 114, 97, 110, 99, 104] : Str), x.2.2.2.1, true)] : List PP)))) = some (aqq x.2.2.2.2 ++ brOf x.2.2.2.1) := by
        unfold brOf
        by_cases hbr : x.2.2.2.1 = []
        · rw [if_pos hbr, if_pos hbr, zaw]
        · rw [if_neg hbr, if_neg hbr, aac (by simp only [zag]; omega)]; rfl
      rw [eb, zab]
      have hs := isort_ppM (aqq x.2.2.2.2 ++ brOf x.2.2.2.1) omg hvm
      have hyes := prVia_yes x
      have hno := aoj x
      generalize aqq x.2.2.2.2 ++ brOf x.2.2.2.1 = l at hs hpl hyes hno ⊢
      have key : ∀ f : Str × UInt8 → Option (Str × UInt8), ((aeq FU l).bind fun (y : List PP) => ((acu FU y).bind f)) = f (ppM (apq l)) := by
        intro f
        have : ((aeq FU l).bind fun (y : List PP) => ((acu FU y).bind f)) = ((aeq FU l).bind fun y => acu FU y).bind f := by
          cases aeq FU l <;> rfl
        rw [this, hs]; rfl
      rw [key]
      by_cases h0 : (ppM (apq l)).2 = 0
      · have hi := itoa_port x.2.2.1 omg omg
        have eh : (if x.2.2.1 = (0 : Int) then some (aii x.2.1).1 else (gd (abx x.2.2.1) <| (gd (([58] : Str).length + (Lib.itoa x.2.2.1).length ≤ 9223372036854775807) <| (gd ((aii x.2.1).1.length + (([58] : Str) ++ (Lib.itoa x.2.2.1)).length ≤ 9223372036854775807) <| some ((aii x.2.1).1 ++ (([58] : Str) ++ (Lib.itoa x.2.2.1))))))) = some (prHost (aii x.2.1).1 x.2.2.1) := by
          unfold prHost
          by_cases hz : x.2.2.1 = 0
          · rw [if_pos hz, if_pos hz]
          · rw [if_neg hz, if_neg hz, aac (ahb _ omg omg), aac (by simp only [zag]; omega), aac (by simp only [zaf, zag]; omega)]
        have hpr : (prHost (aii x.2.1).1 x.2.2.1).length ≤ (aii x.2.1).1.length + 6 := by
          unfold prHost; split
          · omega
          · simp only [zaf, zag]; omega
        rw [if_pos h0, eh, zab, upper_eq _ omg, zab, aac (by simp only [zae, zao]; omega), aac (by simp only [zaf, zae, zao]; omega), aac (by simp only [zaf, zae, zao]; omega), aac (by simp only [zaf, zae, zao]; omega), hyes ⟨hH, hT, by omega, by omega, h0⟩]
        rfl
      · rw [if_neg h0, hno (fun h => h0 h.2.2.2.2)]
open Bool renaming and_eq_true → zav, false_or → zaJ, not_false → zaA, not_true → zar
open List renaming append_nil → zaw, drop → zam, length → zaH, length_append → zaf, length_cons → zae, length_drop → zat, length_nil → zao, length_singleton → zag, length_take → zah, take → zaz
open Nat renaming le_refl → zaL
theorem rfUpper_lp (s : Str) (hs : s.length ≤ 9223372036854775807) (l : Str) : ∀ (p : Str) (fk : Nat), p.length + l.length = s.length → l.length < fk →
    agh FU s fk (p ++ l) (p.length : Int) = some (p ++ l.map aqw) := by
  induction l with
  | nil =>
    intro p fk hk hf
    obtain ⟨fk, rfl⟩ := fkx fk
    simp only [zao] at hk
    rw [agh, if_neg omg]; rfl
  | cons c l ih0 =>
    intro p fk hk hf
    obtain ⟨fk, rfl⟩ := fkx fk
    simp only [zae] at hk hf
    have hb := mid_lt p c l
    have ih := ih0 (p ++ [aqw c]) fk (by rw [zaf, zag]; omega) omg
    have ok : abx ((p.length : Int) + 1) := ahb _ omg omg
    rw [agh, if_pos omg]
    simp only [aac hb, at_mid, aac ok, set_mid]
    by_cases h1 : 97 ≤ c
    · by_cases h2 : c ≤ 122
      · simp only [if_pos h1, decide_eq_true h2, zab, cond_true, upperB_up c h1 h2]
        rw [aip p (aqw c), ih]; simp
      · simp only [if_pos h1, decide_eq_false h2, zab, cond_false]
        rw [upperB_no c (fun h => h2 h.2)] at ih
        rw [aip p c, show p ++ c :: l = (p ++ [c]) ++ l by simp, ih]; simp [upperB_no c (fun h => h2 h.2)]
    · simp only [if_neg h1, zab, cond_false]
      rw [upperB_no c (fun h => h1 h.1)] at ih
      rw [aip p c, show p ++ c :: l = (p ++ [c]) ++ l by simp, ih]; simp [upperB_no c (fun h => h1 h.1)]
theorem rfUpper_eq (s : Str) (hs : s.length ≤ 9223372036854775807) : aki FU s = some (apd s) := by
  unfold aki
  have := rfUpper_lp s hs s [] FU (by simp) (by rw [ahk]; omega)
  simp only [List.nil_append, zao, Int.natCast_zero, Int.cast_ofNat_Int] at this
  rw [this]; rfl
theorem find_idx {α : Type} [Inhabited α] (p : α → Bool) : ∀ l : List α, (l.find? p = none ∧ l.findIdx? p = none) ∨ ∃ j : Nat, j < l.length ∧ l.findIdx? p = some j ∧ l.find? p = some (el l (j : Int))
  | [] => .inl ⟨rfl, rfl⟩
  | a :: l => by
    rw [List.find?_cons, List.findIdx?_cons]
    cases h : p a with
    | true => exact .inr ⟨0, by simp, rfl, rfl⟩
    | false =>
      rcases find_idx p l with ⟨h1, h2⟩ | ⟨j, h1, h2, h3⟩
      · left; rw [h1, h2]; exact ⟨rfl, rfl⟩
      · right
        refine ⟨j + 1, by simp only [zae]; omega, by rw [h2]; rfl, ?_⟩
        rw [h3]
        rw [el_nat _ _ h1, el_nat _ _ (by simp only [zae]; omega)]; rfl
theorem rfGet_eq (l : List PP) (hl : l.length ≤ 4194304) (hn : ∀ p ∈ l, p.1.length ≤ 4194304) (name : Str) (hm : name.length ≤ 4194304) : aob FU l name = some (getP l name) := by
  unfold aob
  rw [rfFind_eq l hl hn name hm, zab]
  have e : getP l name = (match l.find? (fun p => acn p.1 == acn name) with | some p => (p.2.1, true) | none => ([], false)) := rfl
  rw [e]
  rcases find_idx (fun p : PP => acn p.1 == acn name) l with ⟨h1, h2⟩ | ⟨j, h1, h2, h3⟩
  · rw [h1, h2]; rfl
  · rw [h2, h3]
    have hj : (0 : Int) ≤ (j : Int) ∧ (j : Int) < (l.length : Int) := by omega
    have ef : fIdx (some j) = (j : Int) := rfl
    rw [ef, if_neg omg, aac hj, aac hj]
theorem rfEnd_eq (s : Str) (hs : s.length ≤ 4194304) (i : Nat) (hi : i ≤ s.length) : agu FU s FU (i : Int) = some ((i + ait (fun c => !aqe c) (s.drop i) : Nat) : Int) := by
  refine skip_gen (fun c => !aqe c) s (agu FU s) ?_ ?_ ?_ (s.length - i) i FU omg (by rw [ahk]; omega)
  · intro fk; rw [agu, if_neg omg]; rfl
  · intro fk k hk h
    have hsep : aqe (at_ s (k : Int)) = true := by simpa using h
    rw [agu, if_pos omg, aac omg]
    by_cases h59 : at_ s (k : Int) = 59
    · rw [if_pos h59]; rfl
    · have hb : abd (at_ s (k : Int)) = true := by
        unfold aqe at hsep
        rw [Bool.or_eq_true] at hsep
        rcases hsep with h | h
        · exact absurd (by simpa using h) h59
        · exact h
      rw [if_neg h59, aac omg, ref_blank, zab, hb]; rfl
  · intro fk k hk h
    have hsep : aqe (at_ s (k : Int)) = false := by simpa using h
    unfold aqe at hsep
    rw [Bool.or_eq_false_iff] at hsep
    have h59 : ¬ at_ s (k : Int) = 59 := by simpa using hsep.1
    rw [agu, if_pos omg, aac omg, if_neg h59, aac omg, ref_blank, zab, hsep.2, zaA, zab, cond_true, gok]
def colF (E : Nat) : Str → Nat → Nat → Nat
  | [], _, c => c
  | x :: l, k, c => colF E l (k + 1) (if x = 93 then E else if x = 58 then k else c)
theorem rfCol_lp (s : Str) (hs : s.length ≤ 4194304) (E : Nat) (hE : E ≤ s.length) (n : Nat) : ∀ (k fk c : Nat), k + n = E → n < fk →
    ahn FU s (E : Int) fk (c : Int) (k : Int) = some ((colF E ((s.drop k).take n) k c : Nat) : Int) := by
  induction n with
  | zero =>
    intro k fk c hk hf
    obtain ⟨fk, rfl⟩ := fkx fk
    rw [ahn, if_neg omg, List.take_zero]; rfl
  | succ n ih =>
    intro k fk c hk hf
    obtain ⟨fk, rfl⟩ := fkx fk
    have hb : (0 : Int) ≤ (k : Int) ∧ (k : Int) < (s.length : Int) := by omega
    have ok : abx ((k : Int) + 1) := ahb _ omg omg
    rw [ahn, if_pos omg, aox s k omg, List.take_succ_cons, colF]
    simp only [aac hb, aac ok]
    by_cases h93 : at_ s (k : Int) = 93
    · have h58 : ¬ at_ s (k : Int) = 58 := by rw [h93]; decide
      rw [if_neg h58, zab, if_pos h93, if_pos h93]
      exact ih (k + 1) fk E omg omg
    · by_cases h58 : at_ s (k : Int) = 58
      · rw [if_pos h58, zab, if_neg h93, if_neg h93, if_pos h58]
        exact ih (k + 1) fk k omg omg
      · rw [if_neg h58, zab, if_neg h93, if_neg h93, if_neg h58]
        exact ih (k + 1) fk c omg omg
theorem colF_no (E : Nat) : ∀ (B : Str) (k c : Nat), (∀ b ∈ B, b ≠ 58) → colF E B k c = if B.any (· == 93) = true then E else c
  | [], _, _, _ => rfl
  | x :: B, k, c, h => by
    have hx := h x (by simp)
    rw [colF, colF_no E B _ _ (fun b hb => h b (List.mem_cons_of_mem _ hb)), if_neg hx, List.any_cons]
    by_cases h93 : x = 93
    · have : (x == 93) = true := by simpa using h93
      rw [if_pos h93, this, Bool.true_or, if_pos rfl]
      split <;> rfl
    · have : (x == 93) = false := by simpa using h93
      rw [if_neg h93, this, zaJ]
theorem colF_app (E : Nat) : ∀ (A l : Str) (k c : Nat), colF E (A ++ l) k c = colF E l (k + A.length) (colF E A k c)
  | [], _, _, _ => rfl
  | x :: A, l, k, c => by
    rw [List.cons_append, colF, colF, colF_app E A l, zae]
    congr 1
    omega
theorem lixb_split (p : UInt8 → Bool) : ∀ l : Str, 0 ≤ ans p l → ∃ A c B, l = A ++ c :: B ∧ ans p l = (A.length : Int) ∧ p c = true ∧ ∀ b ∈ B, p b = false
  | [], h => by unfold ans at h; omega
  | b :: l, h => by
    have hs := lixb_spec p l
    by_cases h1 : ans p l = -1
    · have hany : l.any p = false := by rcases hs with h | h; exact h.2; omega
      have hb : p b = true := by
        cases hb : p b with
        | true => rfl
        | false => unfold ans at h; rw [if_pos h1, hb] at h; simp at h
      refine ⟨[], b, l, rfl, ?_, hb, fun x hx => by have := List.any_eq_false.1 hany x hx; simpa using this⟩
      unfold ans; rw [if_pos h1, hb]; rfl
    · obtain ⟨A, c, B, h2, h3, h4, h5⟩ := lixb_split p l omg
      refine ⟨b :: A, c, B, by rw [h2]; rfl, ?_, h4, h5⟩
      unfold ans; rw [if_neg h1, h3, zae]; omega
theorem host_58 (P : Str) (h58 : (58 : UInt8) ∈ P) (h0 : at_ P 0 ≠ 91) : (aii P).2 = false := by
  have hb : brkB P = false := by
    cases hx : brkB P with
    | false => rfl
    | true =>
      unfold brkB at hx
      simp only [zav, decide_eq_true_eq, beq_iff_eq] at hx
      exact absurd hx.1.2 h0
  have hn : aqy P = false := by
    cases hx : aqy P with
    | false => rfl
    | true =>
      unfold aqy at hx
      simp only [zav] at hx
      rcases spl_all 46 adz P (fun x hx' => (num_parts x (by rw [← oct_num]; exact List.all_eq_true.1 hx.1.2 x hx')).2.2) 58 h58 with h | h
      · exact absurd h (by decide)
      · exact absurd h (by decide)
  have hm : namedP P = false := by
    cases hx : namedP P with
    | false => rfl
    | true =>
      unfold namedP at hx
      simp only [zav] at hx
      rcases spl_all 46 labB P (fun x hx' => by
        have := List.all_eq_true.1 hx.1.2 x hx'
        unfold aqr at this
        simp only [zav] at this
        exact this.2) 58 h58 with h | h
      · exact absurd h (by decide)
      · exact absurd h (by decide)
  unfold aii
  rw [hb, if_neg (by decide), hn, if_neg (by decide), hm, if_neg (by decide)]
def cutR (P : Str) : Str × Str × Bool := if colF P.length P 0 P.length = P.length then (P, [], false) else (P.take (colF P.length P 0 P.length), P.drop (colF P.length P 0 P.length + 1), true)
theorem numQ_93 (B : Str) (h : B.any (· == 93) = true) : numQ B = (0, 5) := by
  have : B.all adz = false := by
    cases hx : B.all adz with
    | false => rfl
    | true =>
      obtain ⟨c, hc, h93⟩ := List.any_eq_true.1 h
      have hd := List.all_eq_true.1 hx c hc
      have : c = 93 := by simpa using h93
      rw [this] at hd
      exact absurd hd (by decide)
  unfold numQ
  rw [if_pos (.inr (.inr this))]
def viaC (tr place rest : Str) : VV × UInt8 :=
  if (aii (cutR place).1).2 = false then (zVia, 5)
  else if (cutR place).2.2 = true then (if (portQ (cutR place).2.1).2 = 0 then viaF tr (aii (cutR place).1).1 (portQ (cutR place).2.1).1 rest else (zVia, (portQ (cutR place).2.1).2))
  else viaF tr (aii (cutR place).1).1 0 rest
theorem viaC_eq (tr P rest : Str) : viaC tr P rest = viaB tr P rest := by
  by_cases hx : ans (· == (58 : UInt8)) P < 0
  · have hno : ∀ b ∈ P, b ≠ 58 := by
      rcases lixb_spec (· == (58 : UInt8)) P with h | h
      · intro b hb
        have := List.any_eq_false.1 h.2 b hb
        simpa using this
      · omega
    have e1 : cutP P = (P, [], false) := by unfold cutP; rw [if_pos hx]
    have e2 : cutR P = (P, [], false) := by
      unfold cutR
      have : colF P.length P 0 P.length = P.length := by rw [colF_no _ _ _ _ hno]; split <;> rfl
      rw [if_pos this]
    unfold viaC viaB
    rw [e1, e2]
  · obtain ⟨A, c, B, hP, hA, hc, hB⟩ := lixb_split (· == (58 : UInt8)) P omg
    have hc58 : c = 58 := by simpa using hc
    subst hc58
    have hB' : ∀ b ∈ B, b ≠ 58 := fun b hb => by simpa using hB b hb
    have hcol : colF P.length P 0 P.length = if B.any (· == 93) = true then P.length else A.length := by
      conv => lhs; rw [show colF P.length P 0 P.length = colF P.length (A ++ 58 :: B) 0 P.length from by rw [← hP]]
      rw [colF_app, colF, if_neg (by decide), if_pos rfl, colF_no _ _ _ _ hB', Nat.zero_add]
    have hlen : P.length = A.length + (B.length + 1) := by rw [hP, zaf, zae]
    have hdr : ((A.length : Int) + 1).toNat = (A ++ [58]).length := by simp
    have hcut : cutP P = if (A.any (· == 91) && B.any (· == 93)) = true then (P, [], false) else (A, B, true) := by
      unfold cutP
      rw [if_neg hx, hA, Int.toNat_natCast, hdr]
      have t1 : P.take A.length = A := by rw [hP, List.take_left]
      have t2 : P.drop A.length = 58 :: B := by rw [hP, List.drop_left]
      have t3 : P.drop (A ++ [58]).length = B := by rw [hP, show A ++ 58 :: B = (A ++ [58]) ++ B by simp, List.drop_left]
      rw [t1, t2, t3, List.any_cons, show ((58 : UInt8) == 93) = false by decide, zaJ]
    cases h93 : B.any (· == 93) with
    | false =>
      have e2 : cutR P = (A, B, true) := by
        have hcol' : colF P.length P 0 P.length = A.length := by rw [hcol, h93]; exact if_neg (by decide)
        unfold cutR
        rw [hcol', if_neg omg]
        have t1 : P.take A.length = A := by rw [hP, List.take_left]
        have t3 : P.drop (A.length + 1) = B := by rw [hP, show A ++ 58 :: B = (A ++ [58]) ++ B by simp, show A.length + 1 = (A ++ [58]).length by simp, List.drop_left]
        rw [t1, t3]
      have e1 : cutP P = (A, B, true) := by rw [hcut, h93, Bool.and_false, if_neg (by decide)]
      unfold viaC viaB
      rw [e1, e2]
    | true =>
      have e2 : cutR P = (P, [], false) := by
        have hcol' : colF P.length P 0 P.length = P.length := by rw [hcol, h93]; exact if_pos rfl
        unfold cutR
        rw [if_pos hcol']
      cases h91 : A.any (· == 91) with
      | true =>
        have e1 : cutP P = (P, [], false) := by rw [hcut, h93, h91, if_pos (by decide)]
        unfold viaC viaB
        rw [e1, e2]
      | false =>
        have e1 : cutP P = (A, B, true) := by rw [hcut, h93, h91, if_neg (by decide)]
        have hq : portQ B = (0, 5) := by
          unfold portQ
          rw [numQ_93 B h93, if_neg (by rintro ⟨h, _⟩; exact absurd h (by decide))]
        have hbad : (aii P).2 = false := by
          refine host_58 P (by rw [hP]; simp) ?_
          intro h0
          cases A with
          | nil =>
            rw [hP] at h0
            exact absurd (show (58 : UInt8) = 91 from h0) (by decide)
          | cons a A =>
            have ha : a = 91 := by rw [hP] at h0; simpa [at_] using h0
            rw [ha] at h91
            simp at h91
        unfold viaC viaB
        rw [e1, e2]
        simp only
        rw [hbad, if_pos rfl, hq]
        by_cases hA' : (aii A).2 = false
        · rw [if_pos hA']
        · rw [if_neg hA', if_pos trivial, if_neg (by decide)]
theorem colF_le (E : Nat) : ∀ (P : Str) (k c : Nat), k + P.length ≤ E → c ≤ E → colF E P k c ≤ E
  | [], _, _, _, hc => hc
  | x :: P, k, c, h, hc => by
    rw [zae] at h
    rw [colF]
    refine colF_le E P (k + 1) _ omg ?_
    split
    · omega
    · split <;> omega
theorem colF_shift (d E : Nat) : ∀ (P : Str) (k c : Nat), colF (d + E) P (d + k) (d + c) = d + colF E P k c
  | [], _, _ => rfl
  | x :: P, k, c => by
    rw [colF, colF, ← colF_shift d E P]
    congr 1
    split
    · rfl
    · split <;> rfl
theorem rfViaF_eq (tr h : Str) (port : Int) (rest : Str) (hr : rest.length ≤ 4194304) : ((akw FU rest).bind fun (y : ((List PP) × Int × UInt8)) => (if y.2.2 = (0 : UInt8) then ((aob FU y.1 ([98, 114, 97, 110, 99, 104] : Str)).bind fun (g : (Str × Bool)) => some ((tr, h, port, g.1, y.1), (0 : UInt8))) else some ((([] : Str), ([] : Str), (0 : Int), ([] : Str), ([] : List PP)), y.2.2))) = some (viaF tr h port rest) := by
  have hl := parP_len rest
  have hn := parP_names rest hr
  unfold viaF
  rw [rfParams_eq rest hr, zab]
  by_cases h0 : (parP rest).2.2 = 0
  · rw [if_pos h0, if_pos h0, rfGet_eq _ omg (fun p hp => by have := (hn p hp).2.1; omega) _ (by decide), zab]; rfl
  · rw [if_neg h0, if_neg h0]; rfl
theorem rfVia_eq (v : Str) (hv : v.length ≤ 4194304) : apt FU v = some (viaP v) := by
  have hl := trimL_len v
  unfold apt viaP
  rw [refTrim_eq v hv, zab]
  generalize anw v = s at hl ⊢
  have hk2 := afe acz s 8
  rw [aqf s omg, zab, alq s omg, zab]
  by_cases h8 : s.length < 8
  · rw [if_pos (show (s.length : Int) < 8 by omega), if_pos h8]; rfl
  have hk1 : 8 ≤ ace acz s 8 := ahr acz s 8 omg
  rw [if_neg (show ¬ (s.length : Int) < 8 by omega), if_neg h8, aac omg, rfUpper_eq _ (by rw [zah]; omega), zab]
  by_cases hV : apd (s.take 8) = VER
  · have hV' : apd (zaz (zac (8 : Int)) s) = ([83, 73, 80, 47, 50, 46, 48, 47] : Str) := hV
    rw [if_pos hV', if_neg (not_not_intro hV)]
    generalize ace acz s 8 = k at hk1 hk2 ⊢
    have hi1 := ahr abd s k hk2
    have hi2 := afe abd s (k : Int)
    generalize ace abd s (k : Int) = i at hi1 hi2 ⊢
    by_cases hk8 : k = 8
    · rw [if_pos omg, if_pos hk8]; rfl
    rw [if_neg omg, zab, if_neg hk8]
    by_cases hik : i = k
    · rw [decide_eq_true omg, if_pos hik]; rfl
    rw [decide_eq_false omg, cond_false, if_neg hik, rfEnd_eq s omg i hi2, zab]
    have hsp := aqo (fun c => !aqe c) (s.drop i)
    rw [zat] at hsp
    have hPl : ((s.drop i).take (ait (fun c => !aqe c) (s.drop i))).length = ait (fun c => !aqe c) (s.drop i) := by rw [zah, zat]; omega
    have hsplit : s = s.take i ++ ((s.drop i).take (ait (fun c => !aqe c) (s.drop i)) ++ (s.drop i).drop (ait (fun c => !aqe c) (s.drop i))) := by rw [List.take_append_drop, List.take_append_drop]
    have hdr : zam (i + ait (fun c => !aqe c) (s.drop i)) s = (s.drop i).drop (ait (fun c => !aqe c) (s.drop i)) := by rw [List.drop_drop]
    have hcol := rfCol_lp s omg (i + ait (fun c => !aqe c) (s.drop i)) omg (ait (fun c => !aqe c) (s.drop i)) i FU (i + ait (fun c => !aqe c) (s.drop i)) rfl (by rw [ahk]; omega)
    have hsub : ∀ m : Nat, m ≤ ait (fun c => !aqe c) (s.drop i) → sub s (i : Int) ((i + m : Nat) : Int) = ((s.drop i).take (ait (fun c => !aqe c) (s.drop i))).take m := by
      intro m hm
      unfold sub
      rw [Int.toNat_natCast, Int.toNat_natCast, Nat.add_sub_cancel_left, List.take_take, Nat.min_eq_left hm]
    have hsub2 : ∀ m : Nat, m < ait (fun c => !aqe c) (s.drop i) → sub s (((i + m : Nat) : Int) + 1) ((i + ait (fun c => !aqe c) (s.drop i) : Nat) : Int) = ((s.drop i).take (ait (fun c => !aqe c) (s.drop i))).drop (m + 1) := by
      intro m hm
      unfold sub
      have e1 : (((i + m : Nat) : Int) + 1).toNat = i + (m + 1) := by omega
      rw [Int.toNat_natCast, e1, List.drop_take, List.drop_drop]
      congr 1
      omega
    have hshift := colF_shift i (ait (fun c => !aqe c) (s.drop i)) ((s.drop i).take (ait (fun c => !aqe c) (s.drop i))) 0 (ait (fun c => !aqe c) (s.drop i))
    have hcle := colF_le (ait (fun c => !aqe c) (s.drop i)) ((s.drop i).take (ait (fun c => !aqe c) (s.drop i))) 0 (ait (fun c => !aqe c) (s.drop i)) omg (zaL _)
    rw [Nat.add_zero] at hshift
    rw [hshift] at hcol
    have hrl : ((s.drop i).drop (ait (fun c => !aqe c) (s.drop i))).length ≤ 4194304 := by rw [zat, zat]; omega
    rw [hcol, zab]
    rw [← viaC_eq]
    unfold viaC cutR
    rw [hPl]
    generalize (s.drop i).drop (ait (fun c => !aqe c) (s.drop i)) = rest at hdr hrl ⊢
    generalize hn : ait (fun c => !aqe c) (s.drop i) = n at hsp hPl hsub hsub2 hcle hdr ⊢
    generalize (s.drop i).take n = pl at hPl hsub hsub2 hcle ⊢
    generalize colF n pl 0 n = m at hcle ⊢
    have hend : ((i + n : Nat) : Int).toNat = i + n := by omega
    rw [aac omg, hsub m hcle]
    by_cases hmn : m = n
    · have e1 : pl.take m = pl := by rw [hmn, ← hPl, List.take_length]
      rw [if_pos hmn, e1, rfHost_eq _ omg, zab]
      simp only
      cases hh : (aii pl).2 with
      | false => rfl
      | true =>
        rw [zar, cond_false, aac omg, rfUpper_eq _ (by rw [show (8 : Int) = ((8 : Nat) : Int) from rfl, anx]; omega), zab, if_neg (show ¬ ((i + m : Nat) : Int) < ((i + n : Nat) : Int) by omega), zab, zau, aac omg, hend, hdr, rfViaF_eq _ _ _ _ hrl, if_neg (by decide), if_neg (by decide)]
    · have e1 : (pl.take m).length ≤ 4194304 := by rw [zah]; omega
      rw [if_neg hmn, rfHost_eq _ e1, zab]
      simp only
      cases hh : (aii (pl.take m)).2 with
      | false => rfl
      | true =>
        rw [zar, cond_false, aac omg, rfUpper_eq _ (by rw [show (8 : Int) = ((8 : Nat) : Int) from rfl, anx]; omega), zab, if_pos (show ((i + m : Nat) : Int) < ((i + n : Nat) : Int) by omega), aac (ahb _ omg omg), aac omg, hsub2 m omg, refPort_eq _ (by rw [zat]; omega), zab, if_neg (show ¬ (true = false) by decide), if_pos trivial]
        by_cases h0 : (portQ (pl.drop (m + 1))).2 = 0
        · rw [if_pos h0, if_pos h0, zab, zau, aac omg, hend, hdr, rfViaF_eq _ _ _ _ hrl]
        · rw [if_neg h0, if_neg h0, zab, Sum.elim_inr]; rfl
  · have hV' : ¬ apd (zaz (zac (8 : Int)) s) = ([83, 73, 80, 47, 50, 46, 48, 47] : Str) := hV
    rw [if_neg hV', if_pos hV]; rfl
theorem rfNobr_lp (x : VV) (hl : x.2.2.2.2.length ≤ 4194304) (q : List PP) : ∀ (p : List PP) (fk : Nat), x.2.2.2.2 = p ++ q → q.length < fk →
    aed FU x fk (aqq p) (p.length : Int) = some (aqq (p ++ q)) := by
  induction q with
  | nil =>
    intro p fk h hf
    obtain ⟨fk, rfl⟩ := fkx fk
    rw [aed, if_neg (by rw [h]; simp), zaw]
  | cons a q ih =>
    intro p fk h hf
    obtain ⟨fk, rfl⟩ := fkx fk
    have hlen := congrArg zaH h
    simp only [zaf, zae] at hlen hf
    have hin : (0 : Int) ≤ (p.length : Int) ∧ (p.length : Int) < (x.2.2.2.2.length : Int) := by omega
    have he : el x.2.2.2.2 (p.length : Int) = a := by rw [h]; simp [el]
    have hih := ih (p ++ [a]) fk (by rw [h]; simp) omg
    rw [show ((p ++ [a]).length : Int) = (p.length : Int) + 1 by simp, List.append_assoc, List.singleton_append] at hih
    have hnl := noBr_len p
    rw [aed, if_pos hin.2, aac hin, aac hin, he]
    by_cases hb : a.1 = BRN
    · have e : aqq (p ++ [a]) = aqq p := by unfold aqq; rw [List.filter_append]; simp [hb]
      rw [if_pos (show a.1 = ([98, 114, 97, 110, 99, 104] : Str) from hb), aac (ahb _ omg omg)]
      rw [e] at hih; exact hih
    · have e : aqq (p ++ [a]) = aqq p ++ [a] := by unfold aqq; rw [List.filter_append]; simp [hb]
      rw [if_neg (show ¬ a.1 = ([98, 114, 97, 110, 99, 104] : Str) from hb)]
      simp only [pp_eta]
      rw [aac hin, aac hin, aac (by simp only [zag]; omega), aac (ahb _ omg omg)]
      rw [e] at hih; exact hih
theorem rfPrintVia_eq (x : VV) (h1 : x.1.length ≤ 4194304) (h2 : x.2.1.length ≤ 4194304) (hl : x.2.2.2.2.length ≤ 40) (hb : ∀ p ∈ x.2.2.2.2, p.1.length ≤ 4194304 ∧ p.2.1.length ≤ 4194304) (hB : x.2.2.2.1.length ≤ 4194304) : akr FU x = some (prVia x) := by
  have hnl := noBr_len x.2.2.2.2
  have hbl := brOf_len x.2.2.2.1
  have hvm := vl_mem x hb hB
  have hvl : (aqq x.2.2.2.2 ++ brOf x.2.2.2.1).length ≤ 41 := by rw [zaf]; omega
  have hvm' : ∀ p ∈ apq (aqq x.2.2.2.2 ++ brOf x.2.2.2.1), p.1.length ≤ 4194304 ∧ p.2.1.length ≤ 4194304 := fun p hp => hvm p (isort_mem _ p hp)
  have hpl := ppM_len (apq (aqq x.2.2.2.2 ++ brOf x.2.2.2.1)) hvm'
  have hil := isort_len (aqq x.2.2.2.2 ++ brOf x.2.2.2.1)
  have hh := hostP_len x.2.1
  have hul := upperL_len x.1
  unfold akr
  rw [rfHost_eq _ h2, zab, refToken_eq _ omg, zab]
  cases hT : aop x.1 with
  | false => rw [aoj x (fun h => by rw [hT] at h; exact absurd h.2.1 (by decide))]; rfl
  | true =>
    rw [zar, cond_false]
    cases hH : (aii x.2.1).2 with
    | false => rw [aoj x (fun h => by rw [hH] at h; exact absurd h.1 (by decide))]; rfl
    | true =>
      rw [zar, cond_false]
      by_cases hp0 : x.2.2.1 < 0
      · rw [if_pos hp0, zab, cond_true, aoj x (by rintro ⟨_, _, h, _⟩; omega)]
      by_cases hp1 : 65535 < x.2.2.1
      · rw [if_neg hp0, decide_eq_true hp1, zab, cond_true, aoj x (by rintro ⟨_, _, _, h, _⟩; omega)]
      have hlp := rfNobr_lp x omg x.2.2.2.2 [] FU rfl (by rw [ahk]; omega)
      have hlp' : aed FU x FU ([] : List PP) (0 : Int) = some (aqq x.2.2.2.2) := hlp
      rw [if_neg hp0, decide_eq_false hp1, zab, cond_false, hlp', zab]
      have eb : (if x.2.2.2.1 = ([] : Str) then some (aqq x.2.2.2.2) else (gd (((aqq x.2.2.2.2).length + ([(([98, 114, 97, 110, 99, 104] : Str), x.2.2.2.1, true)] : List PP).length) * 40 ≤ 140737488355328) <| some (aqq x.2.2.2.2 ++ ([(([98, 114, 97, 110, 99, 104] : Str), x.2.2.2.1, true)] : List PP)))) = some (aqq x.2.2.2.2 ++ brOf x.2.2.2.1) := by
        unfold brOf
        by_cases hbr : x.2.2.2.1 = []
        · rw [if_pos hbr, if_pos hbr, zaw]
        · rw [if_neg hbr, if_neg hbr, aac (by simp only [zag]; omega)]; rfl
      rw [eb, zab, rfSorted_eq _ omg, zab, rfPrintParams_eq _ omg hvm', zab]
      have hyes := prVia_yes x
      have hno := aoj x
      generalize apq (aqq x.2.2.2.2 ++ brOf x.2.2.2.1) = l at hpl hyes hno ⊢
      by_cases h0 : (ppM l).2 = 0
      · have hi := itoa_port x.2.2.1 omg omg
        rw [if_pos h0, rfUpper_eq _ omg, zab, aac (by simp only [zae, zao]; omega), aac (by simp only [zaf, zae, zao]; omega), aac (by simp only [zaf, zae, zao]; omega), hyes ⟨hH, hT, by omega, by omega, h0⟩]
        by_cases hz : x.2.2.1 = 0
        · rw [if_neg omg, aac (by simp only [zaf, zae, zao]; omega)]
          unfold prHost
          rw [if_pos hz]; rfl
        · rw [if_pos omg, aac (by simp only [zaf, zae, zao]; omega), rfDecimal_eq _ omg omg, zab, aac (by simp only [zaf, zae, zao]; omega), aac (by simp only [zaf, zae, zao]; omega)]
          unfold prHost
          rw [if_neg hz]
          have e : ∀ a b c d e f g : Str, a ++ b ++ c ++ d ++ e ++ f ++ g = a ++ b ++ c ++ (d ++ (e ++ f)) ++ g := by intros; simp
          exact congrArg (fun z => some (z, (0 : UInt8))) (e _ _ _ _ _ _ _)
      · rw [if_neg h0, hno (fun h => h0 h.2.2.2.2)]
section
variable (q : UInt8 → Bool) (h1 : ∀ c, hexB c = true → q (akq c) = true) (h2 : q 58 = true) (h3 : q 48 = true)
include h1 h2 h3
end
open Go.Px
def szP (l : List PP) : Nat := (l.map fun z => z.1.length + z.2.1.length).sum
theorem szP_cons (p : PP) (l : List PP) : szP (p :: l) = p.1.length + p.2.1.length + szP l := by unfold szP; rw [List.map_cons, List.sum_cons]
theorem szP_mem : ∀ (l : List PP) (p : PP), p ∈ l → p.1.length + p.2.1.length ≤ szP l
  | [], _, h => by simp at h
  | a :: l, p, h => by
    rw [szP_cons]
    rcases List.mem_cons.1 h with rfl | h
    · omega
    · have := szP_mem l p h; omega
theorem viaP_len (v : Str) : (viaP v).1.2.2.2.2.length ≤ 16 := by
  have hF : ∀ tr h port rest, (viaF tr h port rest).1.2.2.2.2.length ≤ 16 := by
    intro tr h port rest
    unfold viaF
    split
    · exact parP_len rest
    · unfold zVia; simp
  have hz : (zVia, (5 : UInt8)).1.2.2.2.2.length ≤ 16 := by unfold zVia; simp
  unfold viaP
  split
  · exact hz
  · split
    · exact hz
    · split
      · exact hz
      · split
        · exact hz
        · unfold viaB
          split
          · exact hz
          · split
            · split
              · exact hF _ _ _ _
              · unfold zVia; simp
            · exact hF _ _ _ _
open Option renaming bind_some → zab
theorem awake_true : ank FU = some true := by kernel_rfl
theorem plain_HeaderVias (v : Str) (x : Str × Str × Int × Str × List PQ) (h : v.length + x.1.length + x.2.1.length + x.2.2.2.1.length + (x.2.2.2.2.map fun z => z.1.length + z.2.1.length).sum ≤ 1048576) : alg FU v x = some true := by
  have h' : v.length + x.1.length + x.2.1.length + x.2.2.2.1.length + szP x.2.2.2.2 ≤ 1048576 := h
  have hb : ∀ p ∈ x.2.2.2.2, p.1.length ≤ 4194304 ∧ p.2.1.length ≤ 4194304 := fun p hp => by
    have := szP_mem x.2.2.2.2 p hp
    omega
  unfold alg
  by_cases h40 : 40 < x.2.2.2.2.length
  · rw [if_pos omg, awake_true]; rfl
  · have hl := viaP_len v
    rw [if_neg omg, via_eq v omg, zab, rfVia_eq v omg, zab, printVia_eq x omg omg omg hb omg, zab, rfPrintVia_eq x omg omg omg hb omg, zab]
    unfold anf
    rw [if_pos rfl, if_pos rfl, if_pos rfl, if_pos rfl, sameParams_self _ omg, zab, zab, zab, cond_true, if_pos rfl, if_pos rfl, if_pos rfl, awake_true]
    rfl
end Go.Wk
