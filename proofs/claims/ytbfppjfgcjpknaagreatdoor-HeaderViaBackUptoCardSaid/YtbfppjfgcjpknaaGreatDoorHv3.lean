/-
  The law HeaderViaBack holds, second form: for every Via of at most 1048576 values and letters the call returns true; no condition beyond the statement's own (part 3 of 7).
-/
import Derived.Test.YtbfppjfgcjpknaaGreatDoorHv2
set_option linter.unusedVariables false
set_option linter.unusedSimpArgs false
set_option maxRecDepth 100000
namespace Go.Wk
open Go.Px
open Go.Lib renaming index → zap
open List renaming length_append → zag, length_cons → zah, length_singleton → zai
open Option renaming bind_some → zab
theorem tSt0 (n : Nat) (t : Nat) : ∀ (data : List PP) (a b fk : Nat), n < b + t → t < fk → a ≤ n → n = data.length → data.length ≤ 100 →
    ∃ d a' : _, aah FU (n : Int) fk data (a : Int) (b : Int) = some (d, ((a' : Nat) : Int)) ∧ d.length = data.length ∧ a' ≤ n := by
  induction t with
  | zero =>
    intro data a b fk h hf ha hn hl
    obtain ⟨fk, rfl⟩ := fkx fk
    rw [aah, if_neg omg]
    exact ⟨data, a, rfl, rfl, ha⟩
  | succ t ih =>
    intro data a b fk h hf ha hn hl
    obtain ⟨fk, rfl⟩ := fkx fk
    rw [aah]
    by_cases hb : (b : Int) ≤ (n : Int)
    · obtain ⟨d, h1, h2⟩ := tIns FU (by rw [akf]; omega) a b data omg omg hl
      rw [if_pos hb, h1, zab, aad (aia _ omg omg)]
      have := ih d b (b + 20) fk omg omg omg omg omg
      rw [h2] at this
      exact this
    · rw [if_neg hb]; exact ⟨data, a, rfl, rfl, ha⟩
theorem tSt2 (n bs : Nat) (hbs : 1 ≤ bs) (hbs2 : bs ≤ 1000) (t : Nat) : ∀ (data : List PP) (a b fk : Nat), n < b + t → t < fk → a ≤ n → b = a + 2 * bs → n = data.length → data.length ≤ 100 →
    ∃ d a' : _, aap FU (n : Int) (bs : Int) fk data (a : Int) (b : Int) = some (d, ((a' : Nat) : Int)) ∧ d.length = data.length ∧ a' ≤ n := by
  induction t with
  | zero =>
    intro data a b fk h hf ha hab hn hl
    obtain ⟨fk, rfl⟩ := fkx fk
    rw [aap, if_neg omg]
    exact ⟨data, a, rfl, rfl, ha⟩
  | succ t ih =>
    intro data a b fk h hf ha hab hn hl
    obtain ⟨fk, rfl⟩ := fkx fk
    rw [aap]
    by_cases hb : (b : Int) ≤ (n : Int)
    · obtain ⟨d, h1, h2⟩ := tSym 100 FU data (a : Int) ((a : Int) + (bs : Int)) (b : Int) omg (by rw [akf]; omega) omg omg omg omg hl
      rw [if_pos hb, aad (aia _ omg omg), h1, zab, aad (aia _ omg omg), aad (aia _ omg omg)]
      have := ih d b (b + 2 * bs) fk omg omg omg rfl omg omg
      rw [h2] at this
      have e : (b : Int) + 2 * (bs : Int) = ((b + 2 * bs : Nat) : Int) := by omega
      rw [e]
      exact this
    · rw [if_neg hb]; exact ⟨data, a, rfl, rfl, ha⟩
theorem tSt1 (n : Nat) (t : Nat) : ∀ (data : List PP) (bs fk : Nat), n < bs + t → t < fk → 1 ≤ bs → bs ≤ 200 → n = data.length → data.length ≤ 100 → Keeps (aae FU (n : Int) fk data (bs : Int)) data.length := by
  induction t with
  | zero =>
    intro data bs fk h hf h1 h2 hn hl
    obtain ⟨fk, rfl⟩ := fkx fk
    rw [aae, if_neg omg]
    exact ⟨data, rfl, rfl⟩
  | succ t ih =>
    intro data bs fk h hf h1 h2 hn hl
    obtain ⟨fk, rfl⟩ := fkx fk
    rw [aae]
    by_cases hb : (bs : Int) < (n : Int)
    · obtain ⟨d, a', g1, g2, g3⟩ := tSt2 n bs h1 omg 200 data 0 (2 * bs) FU omg (by rw [akf]; omega) omg omg hn hl
      have g1' : aap FU (n : Int) (bs : Int) FU data (0 : Int) ((2 : Int) * (bs : Int)) = some (d, ((a' : Nat) : Int)) := g1
      rw [if_pos hb, aad (aia _ omg omg), g1', zab]
      simp only
      rw [aad (aia _ omg omg)]
      have e : (bs : Int) * 2 = ((bs * 2 : Nat) : Int) := by omega
      by_cases hc : (a' : Int) + (bs : Int) < (n : Int)
      · obtain ⟨d2, k1, k2⟩ := tSym 100 FU d (a' : Int) ((a' : Int) + (bs : Int)) (n : Int) omg (by rw [akf]; omega) omg omg omg omg omg
        rw [if_pos hc, k1, zab, aad (aia _ omg omg), e]
        have := ih d2 (bs * 2) fk omg omg omg omg omg omg
        rw [k2, g2] at this
        exact this
      · rw [if_neg hc, aad (aia _ omg omg), e]
        have := ih d (bs * 2) fk omg omg omg omg omg omg
        rw [g2] at this
        exact this
    · rw [if_neg hb]; exact ⟨data, rfl, rfl⟩
theorem sorted_keeps (l : List PP) (hl : l.length ≤ 100) : Keeps (aeh FU l) l.length := by
  unfold aeh agi abb aby acb
  obtain ⟨d, a', g1, g2, g3⟩ := tSt0 l.length 200 l 0 20 FU omg (by rw [akf]; omega) omg rfl hl
  have g1' : aah FU (l.length : Int) FU l (0 : Int) (20 : Int) = some (d, ((a' : Nat) : Int)) := g1
  obtain ⟨d2, k1, k2⟩ := tIns FU (by rw [akf]; omega) a' l.length d omg omg omg
  obtain ⟨d3, m1, m2⟩ := tSt1 l.length 200 d2 20 FU omg (by rw [akf]; omega) omg omg omg omg
  have m1' : aae FU (l.length : Int) FU d2 (20 : Int) = some d3 := m1
  rw [zab, collect_eq l omg, zab, g1', zab]
  simp only
  rw [k1, zab, m1', zab, zab, zab]
  exact ⟨d3, rfl, by omega⟩
theorem sorted_eq (l : List PP) (hl : l.length < 20) : aeh FU l = some (agh l) := by
  unfold aeh agi abb aby acb
  obtain ⟨m, hm⟩ : ∃ m, FU = m + 1 := ⟨FU - 1, by rw [akf]⟩
  have g1 : aah FU (l.length : Int) FU l (0 : Int) (20 : Int) = some (l, 0) := by
    have : ∀ k, aah FU (l.length : Int) (k + 1) l (0 : Int) (20 : Int) = some (l, 0) := fun k => by
      rw [aah, if_neg omg]
    have := this m
    rw [← hm] at this
    exact this
  have g2 : aae FU (l.length : Int) FU (agh l) (20 : Int) = some (agh l) := by
    have : ∀ k, aae FU (l.length : Int) (k + 1) (agh l) (20 : Int) = some (agh l) := fun k => by
      rw [aae, if_neg omg]
    have := this m
    rw [← hm] at this
    exact this
  rw [zab, collect_eq l omg, zab, g1, zab]
  simp only
  rw [ins_eq l omg, zab, g2]; rfl
theorem idx47 (c : UInt8) : ∀ v : Str, (zap v [c] = -1 ∧ ∀ b ∈ v, b ≠ c) ∨ (∃ f s2, v = f ++ c :: s2 ∧ (∀ b ∈ f, b ≠ c) ∧ zap v [c] = (f.length : Int))
  | [] => .inl ⟨rfl, by simp⟩
  | b :: l => by
    rw [anr]
    have e : ([c] : Str).isPrefixOf (b :: l) = (c == b) := by simp [List.isPrefixOf]
    rw [e]
    by_cases h : b = c
    · subst h
      right
      exact ⟨[], l, rfl, by simp, by rw [if_pos (by simp)]; rfl⟩
    · rw [if_neg (by simpa using fun x => h x.symm)]
      rcases idx47 c l with ⟨h1, h2⟩ | ⟨f, s2, h1, h2, h3⟩
      · left
        rw [if_pos h1]
        exact ⟨rfl, fun x hx => by rcases List.mem_cons.1 hx with rfl | hx; exact h; exact h2 x hx⟩
      · right
        refine ⟨b :: f, s2, by rw [h1]; rfl, fun x hx => by rcases List.mem_cons.1 hx with rfl | hx; exact h; exact h2 x hx, ?_⟩
        rw [if_neg omg, h3, zah]; omega
theorem ppM_len (l : List PP) (hb : ∀ p ∈ l, p.1.length ≤ 4194304 ∧ p.2.1.length ≤ 4194304) : (ppM l).1.length ≤ 256000000 := by
  unfold ppM
  split
  · simp
  · rename_i h
    cases hp : ppL [] l with
    | none => simp
    | some t =>
      have := ppL_len l [] t hb hp
      simp only
      omega
theorem long_eq2 (l : List PP) (h : 16 < l.length) : acl FU l = some ([], 2) := by
  unfold acl; rw [if_pos omg]
theorem parM_len (s : Str) : ∀ (f : Nat) (l : List PP) (i : Nat), l.length ≤ 16 → (parM s f l i).1.length ≤ 16
  | 0, _, _, _ => by simp [parM]
  | f + 1, l, i, h => by
    rw [parM]
    split
    · exact h
    · split
      · simp
      · split
        · split
          · rename_i hr
            have hl16 := ((room0 l _).1 hr).2
            exact parM_len s f _ _ (by simp only [zag, zai]; omega)
          · simp
        · simp
theorem skipA (p : UInt8 → Bool) (s A B : Str) (h : s = A ++ B) : acs p s (A.length : Int) = A.length + ali p B := by
  subst h
  unfold acs
  rw [aof _ _ (by rw [List.length_append]; omega), List.drop_left]
theorem atA (s A B : Str) (c : UInt8) (h : s = A ++ c :: B) : at_ s (A.length : Int) = c := by rw [h, at_mid]
theorem seesA (s A B : Str) (b : UInt8) (h : s = A ++ B) : seesB s A.length b = decide (B.head? = some b) := by
  subst h
  unfold seesB
  cases B with
  | nil => simp
  | cons c B =>
    rw [at_mid, decide_eq_true (by rw [List.length_append, List.length_cons]; omega), Bool.true_and, List.head?_cons]
    by_cases h : c = b
    · subst h; simp
    · simp [h]
theorem subA (s A B C : Str) (h : s = A ++ (B ++ C)) : sub s (A.length : Int) ((A.length + B.length : Nat) : Int) = B := by
  subst h
  unfold sub
  rw [Int.toNat_natCast, Int.toNat_natCast, List.drop_left, Nat.add_sub_cancel_left, List.take_left]
theorem amn (p : UInt8 → Bool) (B : Str) (h : ∀ c, B.head? = some c → p c = false) : ali p B = 0 := by
  cases B with
  | nil => rfl
  | cons c B => exact span_no p c B (h c rfl)
theorem head_app (a b : Str) (h : a ≠ []) : (a ++ b).head? = a.head? := by
  cases a with
  | nil => exact absurd rfl h
  | cons x a => rfl
theorem head_all (p : UInt8 → Bool) (a : Str) (h : a.all p = true) (c : UInt8) (hc : a.head? = some c) : p c = true := by
  cases a with
  | nil => cases hc
  | cons x a =>
    rw [List.head?_cons, Option.some.injEq] at hc
    rw [List.all_cons, Bool.and_eq_true] at h
    rw [← hc]; exact h.1
theorem anb {v : Str} (h : air v = true) : v ≠ [] ∧ v.all abz = true := by
  unfold air at h
  rw [Bool.and_eq_true] at h
  refine ⟨fun e => ?_, h.2⟩
  subst e
  exact absurd h.1 (by decide)
theorem qs_yes (c : UInt8) (h : c = 34 ∨ c = 92) : aiz c = [92, c] := by unfold aiz; rw [if_pos h]
theorem qs_no (c : UInt8) (h : ¬ (c = 34 ∨ c = 92)) : aiz c = [c] := by unfold aiz; rw [if_neg h]
theorem unq_flat : ∀ (v rest : Str) (k : Nat) (acc : Str), v.any adn = false → unqL (v.flatMap aiz ++ 34 :: rest) k acc = (acc ++ v, ((k + (v.flatMap aiz).length + 1 : Nat) : Int), 0)
  | [], rest, k, acc, _ => by
    rw [List.flatMap_nil, List.nil_append, unqL_cons, if_pos rfl, List.append_nil, List.length_nil]
  | c :: v, rest, k, acc, h => by
    rw [List.any_cons, Bool.or_eq_false_iff] at h
    by_cases hq : c = 34 ∨ c = 92
    · have he : escapedB c = true := by rcases hq with rfl | rfl <;> decide
      have e : (c :: v).flatMap aiz ++ 34 :: rest = 92 :: c :: (v.flatMap aiz ++ 34 :: rest) := by rw [List.flatMap_cons, qs_yes c hq]; rfl
      rw [e, unqL_cons, if_neg (by decide), if_pos rfl, if_neg (by simp)]
      have ha : at_ (c :: (v.flatMap aiz ++ 34 :: rest)) 0 = c := by simp [at_]
      rw [ha, if_pos he, List.drop_one, List.tail_cons, unq_flat v rest (k + 2) _ h.2, List.flatMap_cons, qs_yes c hq]
      simp only [List.append_assoc, List.singleton_append, List.length_append, List.length_cons, List.length_nil]
      congr 2
      omega
    · have e : (c :: v).flatMap aiz ++ 34 :: rest = c :: (v.flatMap aiz ++ 34 :: rest) := by rw [List.flatMap_cons, qs_no c hq]; rfl
      rw [e, unqL_cons, if_neg (fun h => hq (.inl h)), if_neg (fun h => hq (.inr h)), if_neg (by rw [h.1]; decide), unq_flat v rest (k + 1) _ h.2, List.flatMap_cons, qs_no c hq]
      simp only [List.append_assoc, List.singleton_append, List.length_append, List.length_cons, List.length_nil]
      congr 2
      omega
theorem unqA (s A v C : Str) (h : s = A ++ (quoT v ++ C)) (hv : v.any adn = false) : unqP8 s (A.length : Int) = (v, ((A.length + (quoT v).length : Nat) : Int), 0) := by
  have e : quoT v ++ C = 34 :: (v.flatMap aiz ++ 34 :: C) := by unfold quoT; simp
  have hs : s = A ++ 34 :: (v.flatMap aiz ++ 34 :: C) := by rw [h, e]
  have hl : s.length = A.length + (v.flatMap aiz ++ 34 :: C).length + 1 := by rw [hs, List.length_append, List.length_cons]; omega
  have ha := atA s A _ 34 hs
  have hd : s.drop (A.length + 1) = v.flatMap aiz ++ 34 :: C := by
    rw [hs, show A ++ 34 :: (v.flatMap aiz ++ 34 :: C) = (A ++ [34]) ++ (v.flatMap aiz ++ 34 :: C) by simp, show A.length + 1 = (A ++ [34]).length by simp, List.drop_left]
  unfold unqP8
  rw [if_neg (by omega), if_neg (by rintro (h | h); omega; exact h ha), Int.toNat_natCast, hd, unq_flat v C _ [] hv, List.nil_append]
  have hq : (quoT v).length = (v.flatMap aiz).length + 2 := by unfold quoT; simp
  rw [hq]
  congr 2
  omega
section
variable (q : UInt8 → Bool) (h1 : ∀ c, hexB c = true → q (afc c) = true) (h2 : q 58 = true) (h3 : q 48 = true)
include h1 h2 h3
omit h2 in
theorem grpN_q (g : Str) (h : akv g = true) : ∀ c ∈ amo g, q c = true := by
  have hx : g.all hexB = true := by unfold akv at h; simp only [Bool.and_eq_true] at h; exact h.2
  intro c hc
  unfold amo at hc
  split at hc
  · rw [List.mem_singleton.1 hc]; exact h3
  · have hm : c ∈ lowP g := (List.dropWhile_suffix _).subset hc
    obtain ⟨d, hd, rfl⟩ := List.mem_map.1 hm
    exact h1 d (List.all_eq_true.1 hx d hd)
omit h1 h3 in
theorem join_q : ∀ (l : List Str), (∀ x ∈ l, ∀ c ∈ x, q c = true) → ∀ c ∈ Lib.join l [58], q c = true
  | [], _, c, hc => by simp [Lib.join, List.intercalate] at hc
  | [a], h, c, hc => by
    simp [Lib.join, List.intercalate] at hc
    exact h a (by simp) c hc
  | a :: b :: l, h, c, hc => by
    have e : Lib.join (a :: b :: l) [58] = a ++ (58 :: Lib.join (b :: l) [58]) := by simp [Lib.join, List.intercalate, List.intersperse]
    rw [e] at hc
    rcases List.mem_append.1 hc with hc | hc
    · exact h a (by simp) c hc
    · rcases List.mem_cons.1 hc with rfl | hc
      · exact h2
      · exact join_q (b :: l) (fun x hx => h x (List.mem_cons_of_mem _ hx)) c hc
omit h2 in
theorem grpList_q (s : Str) : ∀ x ∈ (afs s).1, ∀ c ∈ x, q c = true := by
  intro x hx
  unfold afs at hx
  split at hx
  · rename_i ha
    obtain ⟨y, hy, rfl⟩ := List.mem_map.1 hx
    exact grpN_q q h1 h3 y (List.all_eq_true.1 ha y hy)
  · simp at hx
omit h2 in
theorem grpL0_q (s : Str) : ∀ x ∈ (ais s).1, ∀ c ∈ x, q c = true := by
  intro x hx
  unfold ais at hx
  split at hx
  · simp at hx
  · exact grpList_q q h1 h3 s x hx
theorem grpsP_q (s : Str) : ∀ c ∈ (aku s).1, q c = true := by
  intro c hc
  unfold aku at hc
  split at hc
  · simp at hc
  · split at hc
    · exact join_q q h2 _ (grpList_q q h1 h3 s) c hc
    · split at hc
      · simp at hc
      · rcases List.mem_append.1 hc with hc | hc
        · rcases List.mem_append.1 hc with hc | hc
          · exact join_q q h2 _ (grpL0_q q h1 h3 _) c hc
          · have h58 : c = 58 := by simpa using hc
            rw [h58]; exact h2
        · exact join_q q h2 _ (grpL0_q q h1 h3 _) c hc
end
theorem hex_n93 : ∀ c : UInt8, hexB c = true → (!(afc c == 93)) = true := act _ (by decide +kernel)
theorem dig_n91 : ∀ c : UInt8, aek c = true → c ≠ 91 := act _ (by decide +kernel)
theorem lab_n91 : ∀ c : UInt8, labB c = true → c ≠ 91 := act _ (by decide +kernel)
theorem brV_form (v : Str) (h : brV v = true) : ∃ g : Str, v = 91 :: (g ++ [93]) ∧ (∀ c ∈ g, (!(c == 93)) = true) := by
  unfold brV at h
  simp only [Bool.and_eq_true, decide_eq_true_eq, beq_iff_eq] at h
  obtain ⟨⟨h1, h2⟩, h3⟩ := h
  have hm : 0 < v.length → (91 : UInt8) ∈ v := fun hl => by
    have := at_mem v 0 hl
    have e : at_ v ((0 : Nat) : Int) = 91 := h3
    rw [e] at this; exact this
  have hne := host_ne v h1 h2
  have hl := List.length_pos_iff.2 hne
  unfold acz at h1 h2
  split at h1
  · rename_i hb
    rw [if_pos hb] at h2
    split at h1
    · rename_i hg
      rw [if_pos hg] at h2
      refine ⟨(aku (sub v 1 ((v.length : Int) - 1))).1, ?_, grpsP_q (fun c => !(c == 93)) hex_n93 (by decide) (by decide) _⟩
      exact h2.symm
    · cases h1
  · exfalso
    split at h1
    · rename_i hn
      unfold numsP at hn
      simp only [Bool.and_eq_true] at hn
      rcases alz 46 aek v (fun x hx => (num_parts x (by rw [← oct_num]; exact List.all_eq_true.1 hn.1.2 x hx)).2.2) 91 (hm hl) with h | h
      · exact dig_n91 91 h rfl
      · exact absurd h (by decide)
    · split at h1
      · rename_i hn
        unfold anq at hn
        simp only [Bool.and_eq_true] at hn
        rcases alz 46 labB v (fun x hx => by
          have := List.all_eq_true.1 hn.1.2 x hx
          unfold anl at this
          simp only [Bool.and_eq_true] at this
          exact this.2) 91 (hm hl) with h | h
        · exact lab_n91 91 h rfl
        · exact absurd h (by decide)
      · cases h1
theorem valP_tok (s A v C : Str) (h : s = A ++ (v ++ C)) (hv : air v = true) (hC : ∀ c, C.head? = some c → abz c = false) : valP s A.length = (v, ((A.length + v.length : Nat) : Int), 0) := by
  obtain ⟨hne, hall⟩ := anb hv
  have hsk : acs abz s (A.length : Int) = A.length + v.length := by rw [skipA abz s A _ h, span_app abz v C hall, amn abz C hC]; rfl
  have hh : ∀ c : UInt8, abz c = false → seesB s A.length c = false := fun c hc => by
    rw [seesA s A _ c h, head_app v C hne, decide_eq_false_iff_not]
    intro e
    rw [head_all abz v hall c e] at hc; cases hc
  have hl := List.length_pos_iff.2 hne
  unfold valP
  rw [hh 34 (by decide), if_neg (by decide), hh 91 (by decide), if_neg (by decide), hsk, if_neg (by omega), subA s A v C h]
theorem valP_quo (s A v C : Str) (h : s = A ++ (quoT v ++ C)) (hv : v.any adn = false) : valP s A.length = (v, ((A.length + (quoT v).length : Nat) : Int), 0) := by
  unfold valP
  rw [seesA s A _ 34 h, decide_eq_true (by unfold quoT; rfl), if_pos rfl, unqA s A v C h hv]
theorem valP_brk (s A v C : Str) (h : s = A ++ (v ++ C)) (hv : brV v = true) : valP s A.length = (v, ((A.length + v.length : Nat) : Int), 0) := by
  obtain ⟨g, hg, hq⟩ := brV_form v hv
  have hhead : (v ++ C).head? = some 91 := by rw [hg]; rfl
  have hsp : ali (fun b => !(b == 93)) (s.drop A.length) = v.length - 1 := by
    rw [h, List.drop_left, hg, show (91 :: (g ++ [93])) ++ C = (91 :: g) ++ 93 :: C by simp, span_app _ _ _ (by
      rw [List.all_eq_true]
      intro c hc
      rcases List.mem_cons.1 hc with rfl | hc
      · decide
      · exact hq c hc), span_no _ 93 C (by decide)]
    simp
  have hl : 2 ≤ v.length := by rw [hg]; simp
  have hsl : s.length = A.length + v.length + C.length := by rw [h, List.length_append, List.length_append]; omega
  have hb := hv
  unfold brV at hb
  simp only [Bool.and_eq_true, decide_eq_true_eq] at hb
  have hmin : (min ((A.length + (v.length - 1) : Nat) + 1 : Int) (s.length : Int)) = ((A.length + v.length : Nat) : Int) := by omega
  unfold valP
  rw [seesA s A _ 34 h, hhead, decide_eq_false (by decide), if_neg (by decide), seesA s A _ 91 h, hhead, decide_eq_true rfl, if_pos rfl, hsp, hmin, subA s A v C h, if_pos hb.1.1, hb.1.2]
  congr 2
  omega
theorem tok_nblank : ∀ c : UInt8, abz c = true → abe c = false := act _ (by decide +kernel)
theorem head_tok (v B : Str) (hv : air v = true) : ∀ c, (v ++ B).head? = some c → abz c = true := fun c hc => by
  obtain ⟨hne, hall⟩ := anb hv
  rw [head_app v B hne] at hc
  exact head_all abz v hall c hc
def vtx (v : Str) : Str := bif air v || brV v then v else quoT v
theorem vtx_val (s A v C : Str) (h : s = A ++ (vtx v ++ C)) (hv : v.any adn = false) (hC : ∀ c, C.head? = some c → abz c = false) : valP s A.length = (v, ((A.length + (vtx v).length : Nat) : Int), 0) := by
  unfold vtx at h ⊢
  cases h1 : air v with
  | true => rw [h1, Bool.true_or, cond_true] at h; rw [Bool.true_or, cond_true]; exact valP_tok s A v C h h1 hC
  | false =>
    cases h2 : brV v with
    | true => rw [h1, h2, Bool.or_true, cond_true] at h; rw [Bool.or_true, cond_true]; exact valP_brk s A v C h h2
    | false => rw [h1, h2, Bool.or_false, cond_false] at h; rw [Bool.or_false, cond_false]; exact valP_quo s A v C h hv
theorem vtx_blank (v C : Str) : ∀ c, (vtx v ++ C).head? = some c → abe c = false := by
  intro c hc
  unfold vtx at hc
  cases h1 : air v with
  | true => rw [h1, Bool.true_or, cond_true] at hc; exact tok_nblank c (head_tok v C h1 c hc)
  | false =>
    cases h2 : brV v with
    | true =>
      obtain ⟨g, hg, _⟩ := brV_form v h2
      rw [h1, h2, Bool.or_true, cond_true, hg] at hc
      have : c = 91 := by simpa using hc.symm
      rw [this]; decide
    | false =>
      rw [h1, h2, Bool.or_false, cond_false] at hc
      have : c = 34 := by unfold quoT at hc; simpa using hc.symm
      rw [this]; decide
theorem txt_eq (p : PP) (h : p.2.2 = true) : txt p = 61 :: vtx p.2.1 := by unfold txt vtx; rw [h]; rfl
theorem txt_no (p : PP) (h : p.2.2 = false) : txt p = [] := by unfold txt; rw [h]; rfl
theorem listA (s A C : Str) (p : PP) (h : s = A ++ (p.1 ++ (txt p ++ C))) (hn : air p.1 = true) (hlow : abr p.1 = p.1) (hv : okV p = true) (hC : ∀ c, C.head? = some c → c = 59) :
    alw s A.length = (p, 0, 0, (s, ((A.length + (p.1.length + (txt p).length) : Nat) : Int))) := by
  obtain ⟨hne, hall⟩ := anb hn
  have hl := List.length_pos_iff.2 hne
  have hC' : ∀ f : UInt8 → Bool, f 59 = false → ∀ c, C.head? = some c → f c = false := fun f hf c hc => by rw [hC c hc]; exact hf
  have hstop : ∀ f : UInt8 → Bool, f 59 = false → f 61 = false → ∀ c, (txt p ++ C).head? = some c → f c = false := by
    intro f h59 h61 c hc
    cases h2 : p.2.2 with
    | true =>
      rw [txt_eq p h2, List.cons_append, List.head?_cons, Option.some.injEq] at hc
      rw [← hc]; exact h61
    | false => rw [txt_no p h2, List.nil_append] at hc; exact hC' f h59 c hc
  have ht : acs abz s (A.length : Int) = A.length + p.1.length := by
    rw [skipA abz s A _ h, span_app abz p.1 _ hall, amn abz _ (hstop abz (by decide) (by decide))]; rfl
  have hsub := subA s A p.1 _ h
  have h' : s = (A ++ p.1) ++ (txt p ++ C) := by rw [h, List.append_assoc]
  have hlen : (A ++ p.1).length = A.length + p.1.length := List.length_append
  have hy : acs abe s ((A.length + p.1.length : Nat) : Int) = A.length + p.1.length := by
    rw [← hlen, skipA abe s (A ++ p.1) _ h', amn abe _ (hstop abe (by decide) (by decide))]; rfl
  have hsee := seesA s (A ++ p.1) _ 61 h'
  rw [hlen] at hsee
  unfold alw
  rw [ht, if_neg (by omega), hy, hsee, hsub, hlow]
  cases h2 : p.2.2 with
  | false =>
    have hnil : p.2.1 = [] := by unfold okV at hv; rw [h2, cond_false] at hv; exact of_decide_eq_true hv
    have h61 : ¬ (txt p ++ C).head? = some 61 := fun e => by
      rw [txt_no p h2, List.nil_append] at e
      exact absurd (hC 61 e) (by decide)
    rw [decide_eq_false h61, if_pos rfl, txt_no p h2]
    have ep : (p.1, ([] : Str), false) = p := by rw [← hnil, ← h2]
    rw [ep]; rfl
  | true =>
    have hnc : p.2.1.any adn = false := by unfold okV at hv; rw [h2, cond_true] at hv; simpa using hv
    have h61 : (txt p ++ C).head? = some 61 := by rw [txt_eq p h2]; rfl
    have h3 : s = (A ++ p.1 ++ [61]) ++ (vtx p.2.1 ++ C) := by rw [h', txt_eq p h2]; simp
    have hlen3 : (A ++ p.1 ++ [61]).length = A.length + p.1.length + 1 := by simp; omega
    have hz : acs abe s ((A.length + p.1.length + 1 : Nat) : Int) = A.length + p.1.length + 1 := by
      rw [← hlen3, skipA abe s (A ++ p.1 ++ [61]) _ h3, amn abe _ (vtx_blank p.2.1 C)]; rfl
    have hval := vtx_val s (A ++ p.1 ++ [61]) p.2.1 C h3 hnc (hC' abz (by decide))
    rw [hlen3] at hval
    rw [decide_eq_true h61, if_neg (by decide), hz, hval, if_pos rfl]
    have ep : (p.1, p.2.1, true) = p := by rw [← h2]
    have el : (txt p).length = (vtx p.2.1).length + 1 := by rw [txt_eq p h2]; rfl
    rw [ep, el]
    show (p, (0 : Int), (0 : UInt8), (s, ((A.length + p.1.length + 1 + (vtx p.2.1).length : Nat) : Int))) = _
    rw [show A.length + p.1.length + 1 + (vtx p.2.1).length = A.length + (p.1.length + ((vtx p.2.1).length + 1)) by omega]
theorem ppL_head : ∀ (r pre : List PP) (u : Str), ppL pre r = some u → ∀ c, u.head? = some c → c = 59
  | [], pre, u, h, c, hc => by
    rw [ppL, Option.some.injEq] at h
    subst h; cases hc
  | p :: r, pre, u, h, c, hc => by
    rw [ppL] at h
    cases hk : okN pre p && okV p with
    | false => rw [hk] at h; cases h
    | true =>
      rw [hk, cond_true, Option.map_eq_some_iff] at h
      obtain ⟨t, _, rfl⟩ := h
      rw [List.head?_cons, Option.some.injEq] at hc
      exact hc.symm
theorem parA (s : Str) : ∀ (r pre : List PP) (u A : Str) (f : Nat), ppL pre r = some u → s = A ++ u → r.length < f → pre.length + r.length ≤ 16 → parM s f pre A.length = (pre ++ r, 0, 0)
  | [], pre, u, A, f, h, hs, hf, hl => by
    obtain ⟨f, rfl⟩ : ∃ m, f = m + 1 := ⟨f - 1, by omega⟩
    rw [ppL, Option.some.injEq] at h
    subst h
    rw [List.append_nil] at hs
    subst hs
    rw [parM, if_pos (by rw [skipL_end]; exact Nat.le_refl _), List.append_nil]
  | p :: r, pre, u, A, f, h, hs, hf, hl => by
    obtain ⟨f, rfl⟩ : ∃ m, f = m + 1 := ⟨f - 1, by omega⟩
    rw [ppL] at h
    cases hk : okN pre p && okV p with
    | false => rw [hk] at h; cases h
    | true =>
      rw [hk, cond_true, Option.map_eq_some_iff] at h
      obtain ⟨t, ht, rfl⟩ := h
      rw [Bool.and_eq_true] at hk
      obtain ⟨hN, hV⟩ := hk
      unfold okN at hN
      simp only [Bool.and_eq_true, decide_eq_true_eq, Bool.not_eq_true'] at hN
      obtain ⟨⟨hn, hlow⟩, hany⟩ := hN
      simp only [List.length_cons] at hf hl
      have hsl : s.length = A.length + ((p.1 ++ (txt p ++ t)).length + 1) := by rw [hs, List.length_append, List.length_cons]
      have hsk : acs abe s (A.length : Int) = A.length := by
        rw [skipA abe s A _ hs, span_no abe 59 _ (by decide)]; rfl
      have hat := atA s A _ 59 hs
      have hs2 : s = (A ++ [59]) ++ (p.1 ++ (txt p ++ t)) := by rw [hs]; simp
      have hlen2 : (A ++ [59]).length = A.length + 1 := by simp
      have hsk2 : acs abe s ((A.length + 1 : Nat) : Int) = A.length + 1 := by
        rw [← hlen2, skipA abe s (A ++ [59]) _ hs2, amn abe _ (fun c hc => tok_nblank c (head_tok p.1 _ hn c hc))]; rfl
      have hlist := listA s (A ++ [59]) t p hs2 hn hlow hV (ppL_head r _ t ht)
      rw [hlen2] at hlist
      have hroom : roomB pre p.1 = 0 := by
        unfold roomB
        rw [hany, if_neg (by decide), if_neg (by omega)]
      have hs3 : s = (A ++ [59] ++ p.1 ++ txt p) ++ t := by rw [hs]; simp
      have hlen3 : (A ++ [59] ++ p.1 ++ txt p).length = A.length + 1 + (p.1.length + (txt p).length) := by simp; omega
      have ih := parA s r (pre ++ [p]) t (A ++ [59] ++ p.1 ++ txt p) f ht hs3 (by omega) (by simp only [List.length_append, List.length_singleton]; omega)
      rw [hlen3, List.append_assoc, List.singleton_append] at ih
      have h59 : at_ s ((A.length : Nat) : Int) = 59 := hat
      rw [parM, hsk, if_neg (by omega), if_neg (not_not_intro h59), hsk2, hlist, if_pos rfl]
      show (if roomB pre p.1 = 0 then _ else _) = _
      rw [if_pos hroom]
      exact ih
theorem ppL_rl : ∀ (r pre : List PP) (u : Str), ppL pre r = some u → r.length ≤ u.length
  | [], _, _, _ => Nat.zero_le _
  | p :: r, pre, u, h => by
    rw [ppL] at h
    cases hk : okN pre p && okV p with
    | false => rw [hk] at h; cases h
    | true =>
      rw [hk, cond_true, Option.map_eq_some_iff] at h
      obtain ⟨t, ht, rfl⟩ := h
      have := ppL_rl r _ t ht
      simp only [List.length_cons, List.length_append]; omega
theorem par_back (l : List PP) (t : Str) (h : ppM l = (t, 0)) : parP t = (l, 0, 0) ∧ (∀ c, t.head? = some c → c = 59) ∧ ppL [] l = some t ∧ l.length ≤ 16 := by
  unfold ppM at h
  by_cases h16 : 16 < l.length
  · rw [if_pos h16] at h; exact absurd (congrArg Prod.snd h) (by simp)
  · rw [if_neg h16] at h
    cases hp : ppL [] l with
    | none => rw [hp] at h; exact absurd (congrArg Prod.snd h) (by simp)
    | some u =>
      rw [hp] at h
      have e : u = t := congrArg Prod.fst h
      subst e
      have hl := ppL_rl l [] u hp
      exact ⟨parA u l [] u [] (u.length + 1) hp rfl (by omega) (by simp only [List.length_nil]; omega), ppL_head l [] u hp, rfl, by omega⟩
open Go.Px
theorem join_two (a b : Str) (l : List Str) : Lib.join (a :: b :: l) [58] = a ++ (58 :: Lib.join (b :: l) [58]) := by simp [Lib.join, List.intercalate, List.intersperse]
theorem join_one (a : Str) : Lib.join [a] [58] = a := by simp [Lib.join, List.intercalate]
theorem spl_app (c : UInt8) : ∀ (a z : Str), (∀ b ∈ a, b ≠ c) → spl c (a ++ c :: z) = a :: spl c z
  | [], z, _ => amm c z
  | b :: a, z, h => by
    rw [List.cons_append, alh c b _ (h b (by simp)), spl_app c a z (fun x hx => h x (List.mem_cons_of_mem _ hx))]; rfl
theorem spl_no (c : UInt8) : ∀ (a : Str), (∀ b ∈ a, b ≠ c) → spl c a = [a]
  | [], _ => rfl
  | b :: a, h => by
    rw [alh c b _ (h b (by simp)), spl_no c a (fun x hx => h x (List.mem_cons_of_mem _ hx))]; rfl
theorem spl_join : ∀ gs : List Str, gs ≠ [] → (∀ g ∈ gs, ∀ b ∈ g, b ≠ 58) → spl 58 (Lib.join gs [58]) = gs
  | [], h, _ => absurd rfl h
  | [a], _, h => by rw [join_one, spl_no 58 a (h a (by simp))]
  | a :: b :: l, _, h => by
    rw [join_two, spl_app 58 a _ (h a (by simp)), spl_join (b :: l) (by simp) (fun g hg => h g (List.mem_cons_of_mem _ hg))]
def spc : Str → Bool
  | [] => true
  | c :: l => (if c = 58 then !(l.head? == none) && !(l.head? == some 58) else true) && spc l
theorem spc_index : ∀ l : Str, spc l = true → Lib.index l [58, 58] = -1 ∧ ∀ r, Lib.index (l ++ 58 :: 58 :: r) [58, 58] = (l.length : Int)
  | [], _ => ⟨by decide, fun r => by rw [List.nil_append, anr, if_pos (by simp [List.isPrefixOf])]; rfl⟩
  | c :: l, h => by
    rw [spc, Bool.and_eq_true] at h
    obtain ⟨i1, i2⟩ := spc_index l h.2
    have key : ∀ r : Str, (r = [] ∨ l ≠ [] ∨ c ≠ 58) → ([58, 58] : Str).isPrefixOf (c :: (l ++ r)) = false := by
      intro r hr
      by_cases h58 : c = 58
      · subst h58
        cases l with
        | nil => simp at h
        | cons d l =>
          have hd : ¬ d = 58 := by simpa using h.1
          have hd' : ((58 : UInt8) == d) = false := by simpa using fun e : (58 : UInt8) = d => hd e.symm
          simp [List.isPrefixOf, hd']
      · have : ((58 : UInt8) == c) = false := by simpa using fun e : (58 : UInt8) = c => h58 e.symm
        simp [List.isPrefixOf, this]
    constructor
    · have := key [] (.inl rfl)
      rw [List.append_nil] at this
      rw [anr, this, if_neg (by decide), if_pos i1]
    · intro r
      have := key (58 :: 58 :: r) (by
        by_cases h58 : c = 58
        · right; left
          intro e
          subst e h58
          simp at h
        · exact .inr (.inr h58))
      rw [List.cons_append, anr, this, if_neg (by decide), i2 r, if_neg (by omega), List.length_cons]
      omega
theorem spc_no : ∀ a : Str, (∀ b ∈ a, b ≠ 58) → spc a = true
  | [], _ => rfl
  | c :: a, h => by rw [spc, if_neg (h c (by simp)), spc_no a (fun x hx => h x (List.mem_cons_of_mem _ hx))]; rfl
theorem spc_app : ∀ (a : Str) (d : UInt8) (z : Str), (∀ b ∈ a, b ≠ 58) → d ≠ 58 → spc (d :: z) = true → spc (a ++ 58 :: d :: z) = true
  | [], d, z, _, hd, hz => by
    have : (d == 58) = false := by simpa using hd
    rw [List.nil_append, spc, if_pos rfl, hz]
    simp [this]
  | c :: a, d, z, h, hd, hz => by
    rw [List.cons_append, spc, if_neg (h c (by simp)), spc_app a d z (fun x hx => h x (List.mem_cons_of_mem _ hx)) hd hz]; rfl
theorem spc_join : ∀ gs : List Str, (∀ g ∈ gs, g ≠ [] ∧ ∀ b ∈ g, b ≠ 58) → spc (Lib.join gs [58]) = true
  | [], _ => by simp [Lib.join_nil, spc]
  | [a], h => by rw [join_one]; exact spc_no a (h a (by simp)).2
  | a :: b :: l, h => by
    have ih := spc_join (b :: l) (fun g hg => h g (List.mem_cons_of_mem _ hg))
    have hb := h b (by simp)
    obtain ⟨d, z, hz⟩ : ∃ d z, Lib.join (b :: l) [58] = d :: z ∧ d ≠ 58 := by
      cases hbb : b with
      | nil => exact absurd hbb hb.1
      | cons d b' =>
        have hd : d ≠ 58 := hb.2 d (by rw [hbb]; simp)
        cases l with
        | nil => exact ⟨d, b', by rw [join_one], hd⟩
        | cons x l => exact ⟨d, b' ++ (58 :: Lib.join (x :: l) [58]), by rw [join_two]; rfl, hd⟩
    rw [join_two, hz.1]
    rw [hz.1] at ih
    exact spc_app a d z (h a (by simp)).2 hz.2 ih
theorem dw_idem (p : UInt8 → Bool) : ∀ l : Str, (l.dropWhile p).dropWhile p = l.dropWhile p
  | [] => rfl
  | c :: l => by
    cases h : p c with
    | true => rw [List.dropWhile_cons_of_pos h]; exact dw_idem p l
    | false => rw [List.dropWhile_cons_of_neg (by rw [h]; decide), List.dropWhile_cons_of_neg (by rw [h]; decide)]
theorem hex_low : ∀ c : UInt8, hexB c = true → hexB (afc c) = true := act _ (by decide +kernel)
theorem hex_n58 : ∀ c : UInt8, hexB c = true → (!(afc c == 58)) = true := act _ (by decide +kernel)
theorem grpN_idem (g : Str) (h : akv g = true) : akv (amo g) = true ∧ amo (amo g) = amo g ∧ amo g ≠ [] ∧ ∀ b ∈ amo g, b ≠ 58 := by
  have hx : g.all hexB = true := by unfold akv at h; simp only [Bool.and_eq_true] at h; exact h.2
  have hlen := grpN_len g h
  have h58 : ∀ b ∈ amo g, b ≠ 58 := fun b hb => by
    have := grpN_q (fun c => !(c == 58)) hex_n58 (by decide) g h b hb
    simpa using this
  have hhex : ∀ b ∈ amo g, hexB b = true := grpN_q hexB hex_low (by decide) g h
  have hne : amo g ≠ [] := by
    unfold amo
    split
    · simp
    · assumption
  refine ⟨?_, ?_, hne, h58⟩
  · have := List.length_pos_iff.2 hne
    unfold akv
    rw [decide_eq_true (by omega), decide_eq_true hlen, Bool.true_and, Bool.true_and, List.all_eq_true]
    exact hhex
  · have hlow : lowP (amo g) = amo g := by
      show abr (amo g) = amo g
      refine lowerL_id _ fun b hb => ?_
      unfold amo at hb
      split at hb
      · rw [List.mem_singleton.1 hb]; decide
      · have hm : b ∈ lowP g := (List.dropWhile_suffix _).subset hb
        obtain ⟨d, hd, rfl⟩ := List.mem_map.1 hm
        exact low2 d
    have htr : Lib.trimLeftS (amo g) [48] = [] ∨ Lib.trimLeftS (amo g) [48] = amo g := by
      unfold amo
      split
      · left; decide
      · right; unfold Lib.trimLeftS; exact dw_idem _ _
    have e : amo (amo g) = if Lib.trimLeftS (amo g) [48] = [] then [48] else Lib.trimLeftS (amo g) [48] := by
      conv => lhs; unfold amo
      rw [show lowP (if Lib.trimLeftS (lowP g) [48] = [] then [48] else Lib.trimLeftS (lowP g) [48]) = amo g from hlow]
    rw [e]
    rcases htr with h0 | h0
    · rw [if_pos h0]
      have : amo g = [48] := by
        unfold amo at h0 ⊢
        split
        · rfl
        · rename_i hn
          rw [if_neg hn] at h0
          unfold Lib.trimLeftS at h0 hn
          rw [dw_idem] at h0
          exact absurd h0 hn
      rw [this]
    · rw [h0, if_neg hne]
def gdG (gs : List Str) : Prop := ∀ g ∈ gs, akv g = true ∧ amo g = g ∧ g ≠ [] ∧ ∀ b ∈ g, b ≠ 58
theorem grpList_gd (s : Str) : gdG (afs s).1 := by
  intro x hx
  unfold afs at hx
  split at hx
  · rename_i ha
    obtain ⟨y, hy, rfl⟩ := List.mem_map.1 hx
    exact grpN_idem y (List.all_eq_true.1 ha y hy)
  · simp at hx
theorem grpL0_gd (s : Str) : gdG (ais s).1 := by
  unfold ais
  split
  · intro x hx; simp at hx
  · exact grpList_gd s
theorem grpList_join (gs : List Str) (h : gdG gs) (hne : gs ≠ []) : afs (Lib.join gs [58]) = (gs, true) := by
  unfold afs
  rw [spl_join gs hne (fun g hg => (h g hg).2.2.2), if_pos (List.all_eq_true.2 fun g hg => (h g hg).1)]
  congr 1
  conv => rhs; rw [← List.map_id gs]
  exact List.map_congr_left fun g hg => (h g hg).2.1
theorem join_ne (gs : List Str) (h : gdG gs) (hne : gs ≠ []) : Lib.join gs [58] ≠ [] := by
  intro e
  have := spl_join gs hne (fun g hg => (h g hg).2.2.2)
  rw [e] at this
  cases gs with
  | nil => exact hne rfl
  | cons g l =>
    have e2 : ([] : Str) = g := by
      have := congrArg List.head? this
      simpa [spl] using this
    exact (h g (by simp)).2.2.1 e2.symm
theorem grpL0_join (gs : List Str) (h : gdG gs) : ais (Lib.join gs [58]) = (gs, true) := by
  unfold ais
  by_cases hne : gs = []
  · subst hne; rw [if_pos (by simp [Lib.join_nil])]
  · rw [if_neg (join_ne gs h hne), grpList_join gs h hne]
theorem join_len1 : ∀ gs : List Str, (∀ g ∈ gs, g.length ≤ 4) → gs ≠ [] → (Lib.join gs [58]).length + 1 ≤ gs.length * 5
  | [], _, h => absurd rfl h
  | [a], h, _ => by rw [join_one]; have := h a (by simp); simp; omega
  | a :: b :: l, h, _ => by
    have ih := join_len1 (b :: l) (fun g hg => h g (List.mem_cons_of_mem _ hg)) (by simp)
    have := h a (by simp)
    rw [join_two]
    simp only [List.length_append, List.length_cons] at ih ⊢
    omega
theorem gdG_len {gs : List Str} (h : gdG gs) : ∀ g ∈ gs, g.length ≤ 4 := fun g hg => by
  have := (h g hg).1
  unfold akv at this
  simp only [Bool.and_eq_true, decide_eq_true_eq] at this
  exact this.1.2
theorem grps_idem (x : Str) (h : (aku x).2 = true) : aku (aku x).1 = ((aku x).1, true) := by
  unfold aku at h
  by_cases h39 : 39 < x.length
  · rw [if_pos h39] at h; cases h
  rw [if_neg h39] at h
  by_cases hc : (Lib.cut x [58, 58]).2.2 = false
  · rw [if_pos hc] at h
    simp only [Bool.and_eq_true, decide_eq_true_eq] at h
    have e : (aku x).1 = Lib.join (afs x).1 [58] := by unfold aku; rw [if_neg h39, if_pos hc]
    rw [e]
    have hg := grpList_gd x
    generalize (afs x).1 = gs at h hg ⊢
    have hne : gs ≠ [] := by intro e; rw [e] at h; exact absurd h.2 (by decide)
    have hl := join_len1 gs (gdG_len hg) hne
    have hi := (spc_index _ (spc_join gs fun g hg' => (hg g hg').2.2)).1
    unfold aku
    rw [if_neg (by omega), cut_eq, if_pos hi, if_pos rfl, grpList_join gs hg hne, decide_eq_true h.2]; rfl
  · rw [if_neg hc] at h
    by_cases hb : (!(ais (Lib.cut x [58, 58]).1).2 || !(ais (Lib.cut x [58, 58]).2.1).2 || decide (7 < ((ais (Lib.cut x [58, 58]).1).1.length : Int) + ((ais (Lib.cut x [58, 58]).2.1).1.length : Int))) = true
    · rw [if_pos hb] at h; cases h
    · have e : (aku x).1 = Lib.join (ais (Lib.cut x [58, 58]).1).1 [58] ++ [58, 58] ++ Lib.join (ais (Lib.cut x [58, 58]).2.1).1 [58] := by unfold aku; rw [if_neg h39, if_neg hc, if_neg hb]
      rw [e]
      have gA := grpL0_gd (Lib.cut x [58, 58]).1
      have gB := grpL0_gd (Lib.cut x [58, 58]).2.1
      simp only [Bool.or_eq_true, Bool.not_eq_true', decide_eq_true_eq, not_or] at hb
      have h7 := hb.2
      generalize (ais (Lib.cut x [58, 58]).1).1 = A at gA h7 ⊢
      generalize (ais (Lib.cut x [58, 58]).2.1).1 = B at gB h7 ⊢
      have lA : (Lib.join A [58]).length ≤ A.length * 5 := ana [58] 4 A (gdG_len gA)
      have lB : (Lib.join B [58]).length ≤ B.length * 5 := ana [58] 4 B (gdG_len gB)
      have hi := (spc_index _ (spc_join A fun g hg' => (gA g hg').2.2)).2 (Lib.join B [58])
      have e2 : Lib.join A [58] ++ [58, 58] ++ Lib.join B [58] = Lib.join A [58] ++ 58 :: 58 :: Lib.join B [58] := by simp
      have hcut : Lib.cut (Lib.join A [58] ++ [58, 58] ++ Lib.join B [58]) [58, 58] = (Lib.join A [58], Lib.join B [58], true) := by
        rw [e2, cut_eq, hi, if_neg (by omega), Int.toNat_natCast, List.take_left]
        congr 2
        rw [show Lib.join A [58] ++ 58 :: 58 :: Lib.join B [58] = (Lib.join A [58] ++ [58, 58]) ++ Lib.join B [58] by simp, show (Lib.join A [58]).length + ([58, 58] : Str).length = (Lib.join A [58] ++ [58, 58]).length by simp, List.drop_left]
      unfold aku
      rw [if_neg (by simp only [List.length_append, List.length_cons, List.length_nil]; omega), hcut, if_neg (show ¬ (true = false) by decide)]
      simp only
      rw [grpL0_join A gA, grpL0_join B gB, if_neg (by
        simp only [Bool.or_eq_true, Bool.not_eq_true', decide_eq_true_eq]
        rintro ((h | h) | h)
        · cases h
        · cases h
        · omega)]
theorem spl_map (c : UInt8) (f : UInt8 → UInt8) (hf : ∀ b, f b = c ↔ b = c) : ∀ s : Str, spl c (s.map f) = (spl c s).map (List.map f)
  | [] => rfl
  | b :: l => by
    have ih := spl_map c f hf l
    by_cases h : b = c
    · have hb : f b = c := (hf b).2 h
      rw [List.map_cons, h, amm]
      rw [h] at hb
      rw [hb, amm, ih]; rfl
    · rw [List.map_cons, alh c b l h, alh c (f b) _ (fun e => h ((hf b).1 e)), ih]
      cases spl c l with
      | nil => rfl
      | cons x r => rfl
theorem low46' : ∀ c : UInt8, (decide (afc c = 46)) = decide (c = 46) := act _ (by decide +kernel)
theorem low46 (b : UInt8) : afc b = 46 ↔ b = 46 := by
  have := low46' b
  by_cases h : b = 46
  · simp [h]; decide
  · rw [decide_eq_false h, decide_eq_false_iff_not] at this
    simp [h, this]
theorem low_lab : ∀ c : UInt8, labB (afc c) = labB c := act _ (by decide +kernel)
theorem low_dig : ∀ c : UInt8, aek (afc c) = aek c := act _ (by decide +kernel)
theorem low_dig2 : ∀ c : UInt8, aek (afc c) = true → afc c = c := act _ (by decide +kernel)
theorem low_45' : ∀ c : UInt8, (afc c == 45) = (c == 45) := act _ (by decide +kernel)
theorem at_low (x : Str) (i : Int) : (at_ (abr x) i == 45) = (at_ x i == 45) := by
  unfold abr at_
  rw [List.getD_eq_getElem?_getD, List.getD_eq_getElem?_getD, List.getElem?_map]
  cases x[i.toNat]? with
  | none => rfl
  | some c => exact low_45' c
theorem labOk_low (x : Str) : anl (abr x) = anl x := by
  have hl : (abr x).length = x.length := by unfold abr; exact List.length_map ..
  have ha : (abr x).all labB = x.all labB := by
    unfold abr
    rw [List.all_map]
    congr 1
    funext c
    exact low_lab c
  unfold anl
  rw [hl, at_low, at_low, ha]
theorem labW_low (x : Str) : labW (abr x) = labW x := by
  unfold labW abr
  rw [List.any_map]
  congr 1
  funext c
  show (!aek (afc c)) = _
  rw [low_dig]
theorem named_low (s : Str) : anq (abr s) = anq s := by
  have hl : (abr s).length = s.length := by unfold abr; exact List.length_map ..
  have hs : spl 46 (abr s) = (spl 46 s).map abr := spl_map 46 afc low46 s
  have h1 : ((spl 46 s).map abr).all anl = (spl 46 s).all anl := by rw [List.all_map]; congr 1; funext x; exact labOk_low x
  have h2 : ((spl 46 s).map abr).any labW = (spl 46 s).any labW := by rw [List.any_map]; congr 1; funext x; exact labW_low x
  unfold anq
  rw [hl, hs, h1, h2]
theorem brk_form (g : Str) : brkB ([91] ++ g ++ [93]) = true ∧ sub ([91] ++ g ++ [93]) 1 ((([91] ++ g ++ [93]).length : Int) - 1) = g := by
  have hl : ([91] ++ g ++ [93]).length = g.length + 2 := by simp
  have e : (((g.length + 2 : Nat) : Int) - 1) = (([91] ++ g).length : Int) := by simp; omega
  constructor
  · unfold brkB
    rw [hl, decide_eq_true (by omega), Bool.true_and, e]
    have h1 : at_ ([91] ++ g ++ [93]) (([91] ++ g).length : Int) = 93 := at_mid ([91] ++ g) 93 []
    have h0 : at_ ([91] ++ g ++ [93]) 0 = 91 := rfl
    rw [h1, h0]; rfl
  · rw [hl]
    have := subA ([91] ++ g ++ [93]) [91] g [93] (by simp)
    have e2 : (((g.length + 2 : Nat) : Int) - 1) = ((([91] : Str).length + g.length : Nat) : Int) := by simp; omega
    rw [e2]
    exact this
theorem host_idem (s : Str) (h : (acz s).2 = true) : acz (acz s).1 = ((acz s).1, true) := by
  by_cases hb : brkB s = true
  · unfold acz at h
    rw [if_pos hb] at h
    by_cases hg : (aku (sub s 1 ((s.length : Int) - 1))).2 = true
    · have e : (acz s).1 = [91] ++ (aku (sub s 1 ((s.length : Int) - 1))).1 ++ [93] := by unfold acz; rw [if_pos hb, if_pos hg]
      rw [e]
      have hi := grps_idem _ hg
      generalize (aku (sub s 1 ((s.length : Int) - 1))).1 = g at hi ⊢
      obtain ⟨f1, f2⟩ := brk_form g
      unfold acz
      rw [if_pos f1, f2, hi, if_pos rfl]
    · rw [if_neg hg] at h; cases h
  · by_cases hn : numsP s = true
    · have e : acz s = (s, true) := by unfold acz; rw [if_neg hb, if_pos hn]
      rw [e]; exact e
    · by_cases hm : anq s = true
      · have e : acz s = (abr s, true) := by unfold acz; rw [if_neg hb, if_neg hn, if_pos hm]
        rw [e]
        have hl : (abr s).length = s.length := by unfold abr; exact List.length_map ..
        have hch : ∀ b ∈ s, labB b = true ∨ b = 46 := by
          unfold anq at hm
          simp only [Bool.and_eq_true] at hm
          exact alz 46 labB s (fun x hx => by
            have := List.all_eq_true.1 hm.1.2 x hx
            unfold anl at this
            simp only [Bool.and_eq_true] at this
            exact this.2)
        have nb : brkB (abr s) = false := by
          cases hx : brkB (abr s) with
          | false => rfl
          | true =>
            exfalso
            unfold brkB at hx
            simp only [Bool.and_eq_true, decide_eq_true_eq, beq_iff_eq] at hx
            have := at_mem (abr s) 0 (by omega)
            have e0 : at_ (abr s) ((0 : Nat) : Int) = 91 := hx.1.2
            rw [e0] at this
            obtain ⟨d, hd, he⟩ := List.mem_map.1 this
            rcases hch d hd with h1 | h1
            · have : labB (afc d) = true := by rw [low_lab]; exact h1
              rw [he] at this
              exact lab_n91 91 this rfl
            · rw [h1] at he; exact absurd he (by decide)
        have nn : numsP (abr s) = false := by
          cases hx : numsP (abr s) with
          | false => rfl
          | true =>
            exfalso
            have hx' := hx
            unfold numsP at hx'
            simp only [Bool.and_eq_true] at hx'
            have := alz 46 aek (abr s) (fun x hx => (num_parts x (by rw [← oct_num]; exact List.all_eq_true.1 hx'.1.2 x hx)).2.2)
            have hid : abr s = s := lowerL_id s fun b hb => by
              rcases this (afc b) (List.mem_map_of_mem hb) with h1 | h1
              · exact low_dig2 b h1
              · rw [h1]; exact ((low46 b).1 h1).symm
            rw [hid] at hx
            exact hn hx
        show acz (abr s) = (abr s, true)
        unfold acz
        rw [nb, if_neg (by decide), nn, if_neg (by decide), named_low, hm, if_pos rfl, lowlowL]
      · unfold acz at h
        rw [if_neg hb, if_neg hn, if_neg hm] at h; cases h
def lastOk (l : Str) : Prop := ∀ c, l.getLast? = some c → abe c = false
theorem lastOk_app (a b : Str) (hb : b ≠ []) (h : lastOk b) : lastOk (a ++ b) := by
  intro c hc
  refine h c ?_
  cases hl : b.getLast? with
  | none => exact absurd (List.getLast?_eq_none_iff.1 hl) hb
  | some d =>
    rw [List.getLast?_append, hl] at hc
    exact hc
theorem lastOk_all (p : UInt8 → Bool) (hp : ∀ c, p c = true → abe c = false) (b : Str) (h : b.all p = true) : lastOk b :=
  fun c hc => hp c (List.all_eq_true.1 h c (List.mem_of_getLast? hc))
theorem lastOk_snoc (a : Str) (d : UInt8) (h : abe d = false) : lastOk (a ++ [d]) := by
  intro c hc
  rw [List.getLast?_concat, Option.some.injEq] at hc
  rw [← hc]; exact h
theorem trim_id (s : Str) (h1 : ∀ c, s.head? = some c → abe c = false) (h2 : lastOk s) : ald s = s := by
  have e1 : s.dropWhile abe = s := by
    cases s with
    | nil => rfl
    | cons c l => exact List.dropWhile_cons_of_neg (by rw [h1 c rfl]; decide)
  have e2 : s.reverse.dropWhile abe = s.reverse := by
    cases hr : s.reverse with
    | nil => rfl
    | cons c l =>
      refine List.dropWhile_cons_of_neg ?_
      have : s.getLast? = some c := by rw [← List.head?_reverse, hr]; rfl
      rw [h2 c this]; decide
  unfold ald rdw
  rw [e1, e2, List.reverse_reverse]
theorem vtx_last (v : Str) (hne : vtx v ≠ []) : lastOk (vtx v) := by
  unfold vtx at hne ⊢
  cases h1 : air v with
  | true => rw [Bool.true_or, cond_true]; exact lastOk_all abz tok_nblank v (anb h1).2
  | false =>
    cases h2 : brV v with
    | true =>
      obtain ⟨g, hg, _⟩ := brV_form v h2
      rw [Bool.or_true, cond_true, hg]
      exact lastOk_snoc (91 :: g) 93 (by decide)
    | false =>
      rw [Bool.or_false, cond_false]
      unfold quoT
      exact lastOk_snoc (34 :: v.flatMap aiz) 34 (by decide)
theorem ppL_last : ∀ (r pre : List PP) (u V : Str), ppL pre r = some u → lastOk V → lastOk (V ++ u)
  | [], pre, u, V, h, hV => by
    rw [ppL, Option.some.injEq] at h
    subst h; rw [List.append_nil]; exact hV
  | p :: r, pre, u, V, h, hV => by
    rw [ppL] at h
    cases hk : okN pre p && okV p with
    | false => rw [hk] at h; cases h
    | true =>
      rw [hk, cond_true, Option.map_eq_some_iff] at h
      obtain ⟨t, ht, rfl⟩ := h
      rw [Bool.and_eq_true] at hk
      have hn : air p.1 = true := by
        have := hk.1
        unfold okN at this
        simp only [Bool.and_eq_true] at this
        exact this.1.1
      have e : V ++ 59 :: (p.1 ++ (txt p ++ t)) = (V ++ 59 :: (p.1 ++ txt p)) ++ t := by simp
      rw [e]
      refine ppL_last r _ t _ ht ?_
      have hp1 := lastOk_all abz tok_nblank p.1 (anb hn).2
      cases h2 : p.2.2 with
      | false =>
        rw [txt_no p h2, List.append_nil, show V ++ 59 :: p.1 = (V ++ [59]) ++ p.1 by simp]
        exact lastOk_app _ _ (anb hn).1 hp1
      | true =>
        rw [txt_eq p h2, show V ++ 59 :: (p.1 ++ 61 :: vtx p.2.1) = (V ++ 59 :: p.1 ++ [61]) ++ vtx p.2.1 by simp]
        by_cases hv : vtx p.2.1 = []
        · rw [hv, List.append_nil]
          exact lastOk_snoc _ 61 (by decide)
        · exact lastOk_app _ _ hv (vtx_last _ hv)
end Go.Wk
set_option maxRecDepth 20000
namespace Go.Wk
open Go.Px
open Bool renaming true_and → zav
open List renaming append_nil → zaC, length_append → zag, length_cons → zah
open Option renaming bind_some → zab
open Sum renaming elim_inl → zau
theorem digB_no {c : UInt8} (h : aek c = false) : c < 48 ∨ (57 : UInt8) < c := by
  by_cases h1 : c < 48
  · exact .inl h1
  · by_cases h2 : (57 : UInt8) < c
    · exact .inr h2
    · exfalso
      have : aek c = true := by
        rw [digitB_iff]
        rw [UInt8.lt_iff_toNat_lt] at h1 h2
        have e1 : (48 : UInt8).toNat = 48 := rfl
        have e2 : (57 : UInt8).toNat = 57 := rfl
        omega
      rw [this] at h; cases h
theorem digQ_sub {c : UInt8} (h : aek c = true) : (c - 48).toNat = c.toNat - 48 ∧ ¬ c < 48 ∧ ¬ (57 : UInt8) < c ∧ c.toNat ≤ 57 := by
  have hc := (digitB_iff c).1 h
  refine ⟨?_, ?_, ?_, by omega⟩
  · have h48 : (48 : UInt8) ≤ c := by rw [UInt8.le_iff_toNat_le]; show 48 ≤ c.toNat; omega
    rw [UInt8.toNat_sub_of_le _ _ h48]; rfl
  · rw [UInt8.lt_iff_toNat_lt]; show ¬ c.toNat < 48; omega
  · rw [UInt8.lt_iff_toNat_lt]; show ¬ 57 < c.toNat; omega
def numQ (s : Str) : Int × UInt8 :=
  if s.length < 1 ∨ 10 < s.length ∨ s.all aek = false then (0, 5) else if 2147483647 < agr s then (0, 3) else ((agr s : Int), 0)
theorem numberQ_lp (s : Str) (hs : s.length ≤ 18) (l : Str) : ∀ (p : Str) (fk : Nat), s = p ++ l → l.length < fk → p.all aek = true →
    aeq FU s fk (agr p : Int) (p.length : Int) = some (if l.all aek = true then .inl (agr s : Int) else .inr ((0 : Int), (5 : UInt8))) := by
  induction l with
  | nil =>
    intro p fk h hf hp
    obtain ⟨fk, rfl⟩ := fkx fk
    rw [zaC] at h
    subst h
    rw [aeq, if_neg omg]; rfl
  | cons c l ih =>
    intro p fk h hf hp
    obtain ⟨fk, rfl⟩ := fkx fk
    have hb : (0 : Int) ≤ (p.length : Int) ∧ (p.length : Int) < (s.length : Int) := by rw [h, zag, zah]; omega
    have ha : at_ s (p.length : Int) = c := by rw [h, at_mid]
    simp only [zah] at hf
    cases hc : aek c with
    | false =>
      rw [aeq, if_pos hb.2, aad hb, ha, List.all_cons, hc, Bool.false_and, if_neg (show ¬ false = true by decide)]
      rcases digB_no hc with h1 | h1
      · rw [if_pos h1, zab, cond_true]
      · by_cases h2 : c < 48
        · rw [if_pos h2, zab, cond_true]
        · rw [if_neg h2, aad hb, decide_eq_true h1, zab, cond_true]
    | true =>
      obtain ⟨hx, n1, n2, n3⟩ := digQ_sub hc
      have hv := decVal_lt 17 p (by have := congrArg List.length h; rw [zag, zah] at this; omega) hp
      rw [aeq, if_pos hb.2, aad hb, ha, if_neg n1, aad hb, decide_eq_false n2, zab, cond_false, hx, aad (aiq _ omg omg), aad hb, aad (aiq _ omg omg), aad (aiq _ omg omg)]
      have e : (10 : Int) * (agr p : Int) + ((c.toNat - 48 : Nat) : Int) = (agr (p ++ [c]) : Int) := by rw [aoe]; omega
      rw [e, akt p c, List.all_cons, hc, zav]
      exact ih (p ++ [c]) fk (by rw [h]; simp) omg (by rw [List.all_append, hp]; simpa using hc)
theorem number_eq (s : Str) : aix FU s = some (numQ s) := by
  unfold aix numQ
  by_cases h1 : s.length < 1
  · rw [if_pos omg, zab, cond_true, if_pos (.inl h1)]
  · rw [if_neg omg, zab]
    by_cases h2 : 10 < s.length
    · rw [decide_eq_true omg, cond_true, if_pos (.inr (.inl h2))]
    · rw [decide_eq_false omg, cond_false]
      have := numberQ_lp s omg s [] FU (by simp) (by rw [akf]; omega) (by simp)
      change aeq FU s FU (0 : Int) (0 : Int) = _ at this
      rw [this, zab]
      cases h3 : s.all aek with
      | false => rw [if_neg (show ¬ false = true by decide), Sum.elim_inr, if_pos (.inr (.inr rfl))]
      | true =>
        rw [if_pos rfl, zau, if_neg (show ¬ (s.length < 1 ∨ 10 < s.length ∨ true = false) by rintro (h | h | h) <;> first | omega | cases h)]
        by_cases h4 : 2147483647 < agr s
        · rw [if_pos omg, if_pos h4]
        · rw [if_neg omg, if_neg h4]
def portQ (s : Str) : Int × UInt8 := if (numQ s).2 = 0 ∧ ((numQ s).1 < 1 ∨ 65535 < (numQ s).1) then (0, 3) else numQ s
end Go.Wk
set_option maxRecDepth 100000
namespace Go.Wk
open Go.Px
theorem dig_of : ∀ n : Fin 10, aek (UInt8.ofNat (48 + n.val)) = true ∧ (UInt8.ofNat (48 + n.val)).toNat - 48 = n.val ∧ sub ([48, 49, 50, 51, 52, 53, 54, 55, 56, 57] : Str) (n.val : Int) ((n.val : Int) + 1) = [UInt8.ofNat (48 + n.val)] := by decide +kernel
theorem dig_at (n : Nat) (h : n < 10) : aek (UInt8.ofNat (48 + n)) = true ∧ (UInt8.ofNat (48 + n)).toNat - 48 = n ∧ sub ([48, 49, 50, 51, 52, 53, 54, 55, 56, 57] : Str) (n : Int) ((n : Int) + 1) = [UInt8.ofNat (48 + n)] := dig_of ⟨n, h⟩
theorem dd_ok : ∀ (k n : Nat), n < 10 ^ (k + 1) → (Lib.decDigits n).all aek = true ∧ agr (Lib.decDigits n) = n ∧ 1 ≤ (Lib.decDigits n).length ∧ (Lib.decDigits n).length ≤ k + 1 := by
  intro k
  induction k with
  | zero =>
    intro n h
    have h : n < 10 := by simpa using h
    have := dig_at n h
    rw [Lib.decDigits, dif_pos h]
    refine ⟨by simpa using this.1, ?_, by simp, by simp⟩
    show 10 * 0 + _ = n
    omega
  | succ k ih =>
    intro n h
    rw [Lib.decDigits]
    by_cases h1 : n < 10
    · have := dig_at n h1
      rw [dif_pos h1]
      refine ⟨by simpa using this.1, ?_, by simp, by simp⟩
      show 10 * 0 + _ = n
      omega
    · have hd := dig_at (n % 10) (Nat.mod_lt _ (by decide))
      have := ih (n / 10) (by rw [Nat.pow_succ] at h; omega)
      rw [dif_neg h1]
      refine ⟨by rw [List.all_append, this.1]; simpa using hd.1, ?_, by simp, by simp; omega⟩
      rw [aoe, this.2.1, hd.2.1]
      omega
theorem itoa_nat (n : Nat) : Lib.itoa (n : Int) = Lib.decDigits n := by
  unfold Lib.itoa
  rw [if_neg (by omega), Int.toNat_natCast]
theorem itoa_port (n : Int) (h0 : 0 ≤ n) (h : n ≤ 65535) : numQ (Lib.itoa n) = (n, 0) ∧ 1 ≤ (Lib.itoa n).length ∧ (Lib.itoa n).length ≤ 5 ∧ (Lib.itoa n).all aek = true := by
  obtain ⟨m, rfl⟩ : ∃ m : Nat, n = (m : Int) := ⟨n.toNat, by omega⟩
  obtain ⟨h1, h2, h3, h4⟩ := dd_ok 4 m (by omega)
  rw [itoa_nat]
  refine ⟨?_, h3, h4, h1⟩
  unfold numQ
  rw [h1, h2, if_neg (by rintro (h | h | h) <;> first | omega | cases h), if_neg (by omega)]
open Bool renaming not_false → zaA, not_true → zar, true_and → zav
open Int renaming toNat → zac
open List renaming append_nil → zaC, drop → zam, length_append → zag, length_cons → zah, length_drop → zay, length_nil → zas, length_singleton → zai, length_take → zaj
open Option renaming bind_some → zab
open Sum renaming elim_inl → zau
abbrev VV := Str × Str × Int × Str × List PP
def zVia : VV := ([], [], 0, [], [])
def VER : Str := [83, 73, 80, 47, 50, 46, 48, 47]
def BRN : Str := [98, 114, 97, 110, 99, 104]
def adv (s : Str) : Str := s.map upperB
theorem upperL_len (s : Str) : (adv s).length = s.length := by unfold adv; exact List.length_map ..
theorem upper_lp (s : Str) (hs : s.length ≤ 9223372036854775807) (l : Str) : ∀ (p : Str) (fk : Nat), p.length + l.length = s.length → l.length < fk →
    abn FU s fk (p ++ l) (p.length : Int) = some (p ++ l.map upperB) := by
  induction l with
  | nil =>
    intro p fk hk hf
    obtain ⟨fk, rfl⟩ := fkx fk
    simp only [zas] at hk
    rw [abn, if_neg omg]; rfl
  | cons c l ih =>
    intro p fk hk hf
    obtain ⟨fk, rfl⟩ := fkx fk
    simp only [zah] at hk hf
    have hb := mid_lt p c l
    rw [abn, if_pos omg, aad hb, aad hb, at_mid, upperByte_eq]
    simp only [zab]
    rw [aad hb, aad hb, aad (aiq _ omg omg), set_mid, akt p (upperB c), ih (p ++ [upperB c]) fk (by rw [zag, zai]; omega) omg]
    simp
theorem upper_eq (s : Str) (hs : s.length ≤ 9223372036854775807) : aca FU s = some (adv s) := by
  unfold aca
  have := upper_lp s hs s [] FU (by simp) (by rw [akf]; omega)
  simp only [List.nil_append, zas, Int.natCast_zero, Int.cast_ofNat_Int] at this
  rw [this]; rfl
theorem get_lp (l : List PP) (hl : l.length ≤ 4194304) (hn : ∀ p ∈ l, p.1.length ≤ 4194304) (y : Str) (n : Nat) : ∀ (k fk : Nat), k + n = l.length → n < fk →
    afm FU l y fk (k : Int) = some (match (l.drop k).find? (fun p => abr p.1 == y) with | none => .inl () | some p => .inr (p.2.1, true)) := by
  induction n with
  | zero =>
    intro k fk hk hf
    obtain ⟨fk, rfl⟩ := fkx fk
    obtain rfl : k = l.length := by omega
    rw [afm, if_neg omg, List.drop_length]; rfl
  | succ n ih =>
    intro k fk hk hf
    obtain ⟨fk, rfl⟩ := fkx fk
    have hlt : k < l.length := by omega
    have hin : (0 : Int) ≤ (k : Int) ∧ (k : Int) < (l.length : Int) := by omega
    have hd : l.drop k = el l (k : Int) :: l.drop (k + 1) := by rw [el_nat _ _ hlt, List.drop_eq_getElem_cons hlt]
    rw [afm, if_pos hin.2, aad hin, aad hin, aml _ (hn _ (el_mem2 l k hlt)), zab, hd, List.find?_cons]
    by_cases h : abr (el l (k : Int)).1 = y
    · rw [if_pos h, show (abr (el l (k : Int)).1 == y) = true by simpa using h]
    · rw [if_neg h, show (abr (el l (k : Int)).1 == y) = false by simpa using h, aad (aiq _ omg omg), anc, ih (k + 1) fk omg omg]
theorem get_eq (l : List PP) (hl : l.length ≤ 4194304) (hn : ∀ p ∈ l, p.1.length ≤ 4194304) (name : Str) (hm : name.length ≤ 4194304) : aio FU l name = some (getP l name) := by
  have := get_lp l hl hn (abr name) l.length 0 FU omg (by rw [akf]; omega)
  rw [List.drop_zero] at this
  have this' : afm FU l (abr name) FU (0 : Int) = _ := this
  unfold aio
  rw [aml _ hm, zab, this', zab]
  have e : getP l name = (match l.find? (fun p => abr p.1 == abr name) with | some p => (p.2.1, true) | none => ([], false)) := rfl
  rw [e]
  cases l.find? (fun p => abr p.1 == abr name) <;> rfl
theorem contains_any (v : Str) (c : UInt8) : Lib.contains v [c] = v.any (· == c) := by
  unfold Lib.contains
  rcases idx47 c v with ⟨h1, h2⟩ | ⟨f, s2, h1, h2, h3⟩
  · rw [h1, decide_eq_false omg]
    symm
    rw [List.any_eq_false]
    intro x hx
    simpa using h2 x hx
  · rw [h3, decide_eq_true omg, h1]
    simp
def cutP (P : Str) : Str × Str × Bool :=
  if akl (· == (58 : UInt8)) P < 0 then (P, [], false)
  else if ((P.take (akl (· == (58 : UInt8)) P).toNat).any (· == 91) && (P.drop (akl (· == (58 : UInt8)) P).toNat).any (· == 93)) = true then (P, [], false)
  else (P.take (akl (· == (58 : UInt8)) P).toNat, P.drop (akl (· == (58 : UInt8)) P + 1).toNat, true)
theorem cutPort_eq (P : Str) (hP : P.length ≤ 4194304) : aiu FU P = some (cutP P) := by
  have hsp := lixb_spec (· == (58 : UInt8)) P
  unfold aiu cutP
  rw [aad omg]
  generalize akl (· == (58 : UInt8)) P = a at hsp ⊢
  by_cases h : a < 0
  · rw [if_pos h, zab, cond_true, if_pos h]
  · have hr : 0 ≤ a ∧ a < (P.length : Int) := by omega
    rw [if_neg h, if_neg h, aad omg, aad (by rw [zaj]; omega), contains_any, contains_any]
    have fin : ∀ o : Option Bool, o = some ((P.take a.toNat).any (· == 91) && (P.drop a.toNat).any (· == 93)) → (o.bind fun (v : Bool) => (bif v then some (P, ([] : Str), false) else (gd (0 ≤ a ∧ a ≤ (P.length : Int)) <| (gd (acy (a + (1 : Int))) <| (gd (0 ≤ (a + (1 : Int)) ∧ (a + (1 : Int)) ≤ (P.length : Int)) <| some (List.take (zac a) P, zam (zac (a + (1 : Int))) P, true)))))) = some (if ((P.take a.toNat).any (· == 91) && (P.drop a.toNat).any (· == 93)) = true then (P, [], false) else (P.take a.toNat, P.drop (a + 1).toNat, true)) := by
      intro o ho
      rw [ho, zab]
      cases ((P.take a.toNat).any (· == 91) && (P.drop a.toNat).any (· == 93)) with
      | true => rfl
      | false => rw [cond_false, aad omg, aad (aiq _ omg omg), aad omg, if_neg (show ¬ (false = true) by decide)]
    refine fin _ ?_
    cases (P.take a.toNat).any (· == 91) with
    | false => rfl
    | true => rw [cond_true, aad omg, aad (by rw [zay]; omega), zav]
theorem cutP_len (P : Str) : (cutP P).1.length ≤ P.length ∧ (cutP P).2.1.length ≤ P.length := by
  unfold cutP
  split
  · simp
  · split
    · simp
    · simp only [zaj, zay]; omega
def sepB (c : UInt8) : Bool := c == 59 || abe c
theorem sep_set : (fun c => ([59, 32, 9] : Str).contains c) = sepB := by
  funext c; revert c; exact act _ (by decide +kernel)
def viaF (tr h : Str) (port : Int) (rest : Str) : VV × UInt8 := if (parP rest).2.2 = 0 then ((tr, h, port, (getP (parP rest).1 BRN).1, (parP rest).1), 0) else (zVia, (parP rest).2.2)
def viaB (tr place rest : Str) : VV × UInt8 :=
  if (acz (cutP place).1).2 = false then (zVia, 5)
  else if (cutP place).2.2 = true then (if (portQ (cutP place).2.1).2 = 0 then viaF tr (acz (cutP place).1).1 (portQ (cutP place).2.1).1 rest else (zVia, (portQ (cutP place).2.1).2))
  else viaF tr (acz (cutP place).1).1 0 rest
def viaP (v : Str) : VV × UInt8 :=
  if (ald v).length < 8 then (zVia, 5)
  else if ¬ adv ((ald v).take 8) = VER then (zVia, 5)
  else if acs abz (ald v) 8 = 8 then (zVia, 5)
  else if acs abe (ald v) (acs abz (ald v) 8 : Int) = acs abz (ald v) 8 then (zVia, 5)
  else viaB (adv (sub (ald v) 8 (acs abz (ald v) 8 : Int)))
    (((ald v).drop (acs abe (ald v) (acs abz (ald v) 8 : Int))).take (ali (fun c => !sepB c) ((ald v).drop (acs abe (ald v) (acs abz (ald v) 8 : Int)))))
    (((ald v).drop (acs abe (ald v) (acs abz (ald v) 8 : Int))).drop (ali (fun c => !sepB c) ((ald v).drop (acs abe (ald v) (acs abz (ald v) 8 : Int)))))
theorem parM_names (s : Str) (hs : s.length ≤ 4194304) : ∀ (f : Nat) (l : List PP) (i : Nat), (∀ p ∈ l, abr p.1 = p.1 ∧ p.1.length ≤ s.length ∧ p.2.1.length ≤ 90000000) → ∀ p ∈ (parM s f l i).1, abr p.1 = p.1 ∧ p.1.length ≤ s.length ∧ p.2.1.length ≤ 90000000
  | 0, _, _, _ => by simp [parM]
  | f + 1, l, i, h => by
    rw [parM]
    split
    · exact h
    · split
      · simp
      · split
        · rename_i h0
          have hb2 := aht abe s ((acs abe s (i : Int) + 1 : Nat) : Int)
          have hbd := listP_bd s hs _ hb2 h0
          split
          · refine parM_names s hs f _ _ fun p hp => ?_
            rcases List.mem_append.1 hp with hp | hp
            · exact h p hp
            · rw [List.mem_singleton.1 hp]; exact ⟨hbd.2.2.2.1, hbd.2.2.2.2.1, hbd.2.2.2.2.2⟩
          · simp
        · simp
theorem parP_names (s : Str) (hs : s.length ≤ 4194304) : ∀ p ∈ (parP s).1, abr p.1 = p.1 ∧ p.1.length ≤ s.length ∧ p.2.1.length ≤ 90000000 := parM_names s hs _ [] 0 (by simp)
theorem parP_len (s : Str) : (parP s).1.length ≤ 16 := parM_len s _ [] 0 (by simp)
theorem viaF_eq (tr h : Str) (port : Int) (rest : Str) (hr : rest.length ≤ 4194304) : ((agl FU rest).bind fun (y : ((List PP) × Int × UInt8)) => (if y.2.2 = (0 : UInt8) then ((aio FU y.1 ([98, 114, 97, 110, 99, 104] : Str)).bind fun (g : (Str × Bool)) => some ((tr, h, port, g.1, y.1), (0 : UInt8))) else some ((([] : Str), ([] : Str), (0 : Int), ([] : Str), ([] : List PP)), y.2.2))) = some (viaF tr h port rest) := by
  have hl := parP_len rest
  have hn := parP_names rest hr
  unfold viaF
  rw [params_eq rest hr, zab]
  by_cases h0 : (parP rest).2.2 = 0
  · rw [if_pos h0, if_pos h0, get_eq _ omg (fun p hp => by have := (hn p hp).2.1; omega) _ (by decide), zab]; rfl
  · rw [if_neg h0, if_neg h0]; rfl
theorem port_ok (y : Int × UInt8) : ((if y.2 = (0 : UInt8) then (if y.1 < (1 : Int) then some true else some (decide ((65535 : Int) < y.1))) else some false).bind fun (b : Bool) => (bif b then some (3 : UInt8) else some y.2)) = some (if y.2 = 0 ∧ (y.1 < 1 ∨ 65535 < y.1) then 3 else y.2) := by
  by_cases h0 : y.2 = 0
  · rw [if_pos h0]
    by_cases h1 : y.1 < 1
    · rw [if_pos h1, if_pos ⟨h0, .inl h1⟩]; rfl
    · rw [if_neg h1]
      by_cases h2 : 65535 < y.1
      · rw [decide_eq_true h2, if_pos ⟨h0, .inr h2⟩]; rfl
      · rw [decide_eq_false h2, if_neg (by rintro ⟨_, h | h⟩ <;> contradiction)]; rfl
  · rw [if_neg h0, if_neg (fun h => h0 h.1)]; rfl
theorem via_eq (v : Str) (hv : v.length ≤ 4194304) : akq FU v = some (viaP v) := by
  have hl := trimL_len v
  unfold akq viaP
  rw [trim_eq v hv, zab]
  generalize ald v = s at hl ⊢
  by_cases h8 : s.length < 8
  · rw [if_pos (show (s.length : Int) < 8 by omega), if_pos h8]; rfl
  rw [if_neg (show ¬ (s.length : Int) < 8 by omega), if_neg h8, aad omg, upper_eq _ (by rw [zaj]; omega), zab, zab]
  by_cases hV : adv (s.take 8) = VER
  · have hV' : adv (List.take (zac (8 : Int)) s) = ([83, 73, 80, 47, 50, 46, 48, 47] : Str) := hV
    have hk1 := akg abz s 8 omg
    have hk2 := aht abz s 8
    have hk1' : 8 ≤ acs abz s 8 := hk1
    rw [decide_eq_true hV', zar, cond_false, if_neg (not_not_intro hV), tokEndP_eq s omg, zab, blanks_eq s omg, zab]
    generalize acs abz s 8 = k at hk1' hk2 ⊢
    have hi1 := akg abe s k hk2
    have hi2 := aht abe s (k : Int)
    generalize acs abe s (k : Int) = i at hi1 hi2 ⊢
    by_cases hk8 : k = 8
    · rw [if_pos omg, zab, cond_true, if_pos hk8]; rfl
    rw [if_neg omg, zab, if_neg hk8]
    by_cases hik : i = k
    · rw [decide_eq_true omg, cond_true, if_pos hik]; rfl
    rw [decide_eq_false omg, cond_false, if_neg hik, aad omg, upper_eq _ (by rw [show (8 : Int) = ((8 : Nat) : Int) from rfl, sub_len]; omega), zab, aad omg, Int.toNat_natCast]
    have hPl : (s.drop i).length ≤ 4194304 := by rw [zay]; omega
    generalize adv (sub s (8 : Int) (k : Int)) = tr
    generalize s.drop i = P at hPl ⊢
    have hsp := ixb_spec sepB P
    have hspl := span_le (fun c => !sepB c) P
    have hpl : ∀ o : Option (Str × Str), o = some (P.take (ali (fun c => !sepB c) P), P.drop (ali (fun c => !sepB c) P)) → ∀ f : Str × Str → Option (VV × UInt8), o.bind f = f (P.take (ali (fun c => !sepB c) P), P.drop (ali (fun c => !sepB c) P)) := fun o ho f => by rw [ho]; rfl
    rw [hpl _ (by
      rw [aad ⟨by omega, by decide, by decide⟩, ane, sep_set]
      by_cases hx : (0 : Int) ≤ ixb sepB P
      · rcases hsp with h | h
        · omega
        · rw [if_pos hx, aad omg, aad omg, h.2.2, Int.toNat_natCast]
      · rcases hsp with h | h
        · rw [if_neg hx, h.2, List.take_length, List.drop_length]
        · omega)]
    have hpt : (P.take (ali (fun c => !sepB c) P)).length ≤ 4194304 := by rw [zaj]; omega
    have hpd : (P.drop (ali (fun c => !sepB c) P)).length ≤ 4194304 := by rw [zay]; omega
    generalize P.take (ali (fun c => !sepB c) P) = pl at hpt ⊢
    generalize P.drop (ali (fun c => !sepB c) P) = rest at hpd ⊢
    have hcl := cutP_len pl
    unfold viaB
    simp only
    rw [cutPort_eq pl hpt, zab, adHost_eq _ omg, zab]
    cases hh : (acz (cutP pl).1).2 with
    | false => rfl
    | true =>
      rw [zar, cond_false, if_neg (show ¬ (true = false) by decide)]
      cases hc : (cutP pl).2.2 with
      | false =>
        rw [cond_false, zab, zau, viaF_eq _ _ _ _ hpd, if_neg (show ¬ (false = true) by decide)]
      | true =>
        rw [cond_true, number_eq, zab, port_ok, zab, if_pos rfl]
        unfold portQ
        by_cases hp : (numQ (cutP pl).2.1).2 = 0 ∧ ((numQ (cutP pl).2.1).1 < 1 ∨ 65535 < (numQ (cutP pl).2.1).1)
        · rw [if_pos hp, if_pos hp, if_neg (by decide), zab, Sum.elim_inr, if_neg (by decide)]; rfl
        · rw [if_neg hp, if_neg hp]
          by_cases h0 : (numQ (cutP pl).2.1).2 = 0
          · rw [if_pos h0, if_pos h0, zab, zau, viaF_eq _ _ _ _ hpd]
          · rw [if_neg h0, if_neg h0, zab, Sum.elim_inr]; rfl
  · have hV' : ¬ adv (List.take (zac (8 : Int)) s) = ([83, 73, 80, 47, 50, 46, 48, 47] : Str) := hV
    rw [decide_eq_false hV', zaA, cond_true, if_pos hV]; rfl
def aig (l : List PP) : List PP := l.filter fun p => !(p.1 == BRN)
def ale (b : Str) : List PP := if b = [] then [] else [(BRN, b, true)]
def aks (h : Str) (n : Int) : Str := if n = 0 then h else h ++ ([58] ++ Lib.itoa n)
def prVia (x : VV) : Str × UInt8 :=
  if (acz x.2.1).2 = true ∧ air x.1 = true ∧ 0 ≤ x.2.2.1 ∧ x.2.2.1 ≤ 65535 ∧ (ppM (agh (aig x.2.2.2.2 ++ ale x.2.2.2.1))).2 = 0
  then (VER ++ adv x.1 ++ [32] ++ aks (acz x.2.1).1 x.2.2.1 ++ (ppM (agh (aig x.2.2.2.2 ++ ale x.2.2.2.1))).1, 0) else ([], 2)
theorem noBr_len (l : List PP) : (aig l).length ≤ l.length := List.length_filter_le _ _
theorem noBr_mem (l : List PP) (p : PP) (h : p ∈ aig l) : p ∈ l := (List.mem_filter.1 h).1
theorem brOf_len (b : Str) : (ale b).length ≤ 1 := by unfold ale; split <;> simp
theorem nobr_lp (x : VV) (hl : x.2.2.2.2.length ≤ 4194304) (q : List PP) : ∀ (p : List PP) (fk : Nat), x.2.2.2.2 = p ++ q → q.length < fk →
    ado FU x fk (aig p) (p.length : Int) = some (aig (p ++ q)) := by
  induction q with
  | nil =>
    intro p fk h hf
    obtain ⟨fk, rfl⟩ := fkx fk
    rw [ado, if_neg (by rw [h]; simp), zaC]
  | cons a q ih =>
    intro p fk h hf
    obtain ⟨fk, rfl⟩ := fkx fk
    have hlen := congrArg List.length h
    simp only [zag, zah] at hlen hf
    have hin : (0 : Int) ≤ (p.length : Int) ∧ (p.length : Int) < (x.2.2.2.2.length : Int) := by omega
    have he : el x.2.2.2.2 (p.length : Int) = a := by rw [h]; simp [el]
    have hih := ih (p ++ [a]) fk (by rw [h]; simp) omg
    rw [show ((p ++ [a]).length : Int) = (p.length : Int) + 1 by simp, List.append_assoc, List.singleton_append] at hih
    have hnl := noBr_len p
    rw [ado, if_pos hin.2, aad hin, aad hin, he]
    by_cases hb : a.1 = BRN
    · have e : aig (p ++ [a]) = aig p := by unfold aig; rw [List.filter_append]; simp [hb]
      rw [if_pos (show a.1 = ([98, 114, 97, 110, 99, 104] : Str) from hb), aad (aiq _ omg omg)]
      rw [e] at hih; exact hih
    · have e : aig (p ++ [a]) = aig p ++ [a] := by unfold aig; rw [List.filter_append]; simp [hb]
      rw [if_neg (show ¬ a.1 = ([98, 114, 97, 110, 99, 104] : Str) from hb)]
      simp only [pp_eta]
      rw [aad (by simp only [zai]; omega), aad (aiq _ omg omg)]
      rw [e] at hih; exact hih
theorem vl_mem (x : VV) (hb : ∀ p ∈ x.2.2.2.2, p.1.length ≤ 4194304 ∧ p.2.1.length ≤ 4194304) (hB : x.2.2.2.1.length ≤ 4194304) : ∀ p ∈ aig x.2.2.2.2 ++ ale x.2.2.2.1, p.1.length ≤ 4194304 ∧ p.2.1.length ≤ 4194304 := by
  intro p hp
  rcases List.mem_append.1 hp with h | h
  · exact hb p (noBr_mem _ p h)
  · unfold ale at h
    split at h
    · simp at h
    · rw [List.mem_singleton.1 h]; exact ⟨show BRN.length ≤ 4194304 by decide, hB⟩
theorem isort_ppM (l : List PP) (hl : l.length ≤ 100) (hb : ∀ p ∈ l, p.1.length ≤ 4194304 ∧ p.2.1.length ≤ 4194304) : ((aeh FU l).bind fun y => acl FU y) = some (ppM (agh l)) := by
  have hil := isort_len l
  by_cases h16 : 16 < l.length
  · obtain ⟨d, g1, g2⟩ := sorted_keeps l hl
    have hm : ppM (agh l) = ([], 2) := by unfold ppM; rw [if_pos omg]
    rw [g1, zab, long_eq2 d omg, hm]
  · rw [sorted_eq l omg, zab, printParams_eq _ (fun p hp => hb p (isort_mem _ p hp))]
theorem aob (x : VV) (h : ¬ ((acz x.2.1).2 = true ∧ air x.1 = true ∧ 0 ≤ x.2.2.1 ∧ x.2.2.1 ≤ 65535 ∧ (ppM (agh (aig x.2.2.2.2 ++ ale x.2.2.2.1))).2 = 0)) : prVia x = ([], 2) := by unfold prVia; rw [if_neg h]
theorem prVia_yes (x : VV) (h : (acz x.2.1).2 = true ∧ air x.1 = true ∧ 0 ≤ x.2.2.1 ∧ x.2.2.1 ≤ 65535 ∧ (ppM (agh (aig x.2.2.2.2 ++ ale x.2.2.2.1))).2 = 0) : prVia x = (VER ++ adv x.1 ++ [32] ++ aks (acz x.2.1).1 x.2.2.1 ++ (ppM (agh (aig x.2.2.2.2 ++ ale x.2.2.2.1))).1, 0) := by unfold prVia; rw [if_pos h]
theorem printVia_eq (x : VV) (h1 : x.1.length ≤ 4194304) (h2 : x.2.1.length ≤ 4194304) (hl : x.2.2.2.2.length ≤ 40) (hb : ∀ p ∈ x.2.2.2.2, p.1.length ≤ 4194304 ∧ p.2.1.length ≤ 4194304) (hB : x.2.2.2.1.length ≤ 4194304) : agv FU x = some (prVia x) := by
  have hnl := noBr_len x.2.2.2.2
  have hbl := brOf_len x.2.2.2.1
  have hvm := vl_mem x hb hB
  have hvl : (aig x.2.2.2.2 ++ ale x.2.2.2.1).length ≤ 41 := by rw [zag]; omega
  have hpl := ppM_len (agh (aig x.2.2.2.2 ++ ale x.2.2.2.1)) (fun p hp => hvm p (isort_mem _ p hp))
  have hh := hostP_len x.2.1
  have hul := upperL_len x.1
  unfold agv
  rw [adHost_eq _ h2, zab]
  cases hH : (acz x.2.1).2 with
  | false => rw [aob x (fun h => by rw [hH] at h; exact absurd h.1 (by decide))]; rfl
  | true =>
    rw [zar, cond_false, token_eq _ omg, zab]
    cases hT : air x.1 with
    | false => rw [aob x (fun h => by rw [hT] at h; exact absurd h.2.1 (by decide))]; rfl
    | true =>
      rw [zar, cond_false]
      by_cases hp0 : x.2.2.1 < 0
      · rw [if_pos hp0, zab, cond_true, aob x (by rintro ⟨_, _, h, _⟩; omega)]
      by_cases hp1 : 65535 < x.2.2.1
      · rw [if_neg hp0, decide_eq_true hp1, zab, cond_true, aob x (by rintro ⟨_, _, _, h, _⟩; omega)]
      have hlp := nobr_lp x omg x.2.2.2.2 [] FU rfl (by rw [akf]; omega)
      have hlp' : ado FU x FU ([] : List PP) (0 : Int) = some (aig x.2.2.2.2) := hlp
      rw [if_neg hp0, decide_eq_false hp1, zab, cond_false, hlp', zab]
      have eb : (if x.2.2.2.1 = ([] : Str) then some (aig x.2.2.2.2) else (gd (((aig x.2.2.2.2).length + ([(([98, 114, 97, 110, 99, 104] : Str), x.2.2.2.1, true)] : List PP).length) * 40 ≤ 140737488355328) <| some (aig x.2.2.2.2 ++ ([(([98, 114, 97, 110, 99, 104] : Str), x.2.2.2.1, true)] : List PP)))) = some (aig x.2.2.2.2 ++ ale x.2.2.2.1) := by
        unfold ale
        by_cases hbr : x.2.2.2.1 = []
        · rw [if_pos hbr, if_pos hbr, zaC]
        · rw [if_neg hbr, if_neg hbr, aad (by simp only [zai]; omega)]; rfl
      rw [eb, zab]
      have hs := isort_ppM (aig x.2.2.2.2 ++ ale x.2.2.2.1) omg hvm
      have hyes := prVia_yes x
      have hno := aob x
      generalize aig x.2.2.2.2 ++ ale x.2.2.2.1 = l at hs hpl hyes hno ⊢
      have key : ∀ f : Str × UInt8 → Option (Str × UInt8), ((aeh FU l).bind fun (y : List PP) => ((acl FU y).bind f)) = f (ppM (agh l)) := by
        intro f
        have : ((aeh FU l).bind fun (y : List PP) => ((acl FU y).bind f)) = ((aeh FU l).bind fun y => acl FU y).bind f := by
          cases aeh FU l <;> rfl
        rw [this, hs]; rfl
      rw [key]
      by_cases h0 : (ppM (agh l)).2 = 0
      · have hi := itoa_port x.2.2.1 omg omg
        have eh : (if x.2.2.1 = (0 : Int) then some (acz x.2.1).1 else (gd (acy x.2.2.1) <| (gd (([58] : Str).length + (Lib.itoa x.2.2.1).length ≤ 9223372036854775807) <| (gd ((acz x.2.1).1.length + (([58] : Str) ++ (Lib.itoa x.2.2.1)).length ≤ 9223372036854775807) <| some ((acz x.2.1).1 ++ (([58] : Str) ++ (Lib.itoa x.2.2.1))))))) = some (aks (acz x.2.1).1 x.2.2.1) := by
          unfold aks
          by_cases hz : x.2.2.1 = 0
          · rw [if_pos hz, if_pos hz]
          · rw [if_neg hz, if_neg hz, aad (aiq _ omg omg), aad (by simp only [zai]; omega), aad (by simp only [zag, zai]; omega)]
        have hpr : (aks (acz x.2.1).1 x.2.2.1).length ≤ (acz x.2.1).1.length + 6 := by
          unfold aks; split
          · omega
          · simp only [zag, zai]; omega
        rw [if_pos h0, eh, zab, upper_eq _ omg, zab, aad (by simp only [zah, zas]; omega), aad (by simp only [zag, zah, zas]; omega), aad (by simp only [zag, zah, zas]; omega), aad (by simp only [zag, zah, zas]; omega), hyes ⟨hH, hT, by omega, by omega, h0⟩]
        rfl
      · rw [if_neg h0, hno (fun h => h0 h.2.2.2.2)]
theorem gtN_less (a b : Str) : gtN a b = Op.bytesLess b a := by unfold gtN; rw [← less_tri b a]
theorem less_trans : ∀ a b c : Str, Op.bytesLess b a = false → Op.bytesLess c b = false → Op.bytesLess c a = false
  | [], b, c, _, _ => by cases c <;> rfl
  | x :: a, [], c, h, _ => by cases h
  | x :: a, y :: b, [], _, h => by cases h
  | x :: a, y :: b, z :: c, h1, h2 => by
    rw [Op.bytesLess, Bool.or_eq_false_iff] at h1 h2 ⊢
    have n1 : ¬ y < x := of_decide_eq_false h1.1
    have n2 : ¬ z < y := of_decide_eq_false h2.1
    rw [UInt8.lt_iff_toNat_lt] at n1 n2
    refine ⟨decide_eq_false (by rw [UInt8.lt_iff_toNat_lt]; omega), ?_⟩
    by_cases h : z = x
    · have e : y = x := by
        apply UInt8.toNat_inj.1
        rw [h] at n2
        omega
      subst h e
      have e1 : (y == y) = true := by simp
      rw [e1, Bool.true_and] at h1 h2 ⊢
      exact less_trans a b c h1.2 h2.2
    · have : (z == x) = false := by simpa using h
      rw [this]; rfl
theorem less_asym (a b : Str) (h : Op.bytesLess a b = true) : Op.bytesLess b a = false := by rw [less_tri b a, h]; rfl
def leP (a b : PP) : Prop := Op.bytesLess b.1 a.1 = false
theorem leP_anti (a b : PP) (h1 : leP a b) (h2 : leP b a) : a.1 = b.1 := by
  unfold leP at h1 h2
  rw [less_tri b.1 a.1, h2, Bool.false_or] at h1
  have : (a.1 == b.1) = true := by simpa using h1
  exact eq_of_beq this
theorem insV_dsc (x : PP) : ∀ V : List PP, V.Pairwise (fun a b => leP b a) → (insV x V).Pairwise (fun a b => leP b a)
  | [], _ => by simp [insV]
  | a :: V, h => by
    rw [List.pairwise_cons] at h
    rw [insV]
    cases hg : gtN a.1 x.1 with
    | true =>
      rw [cond_true, List.pairwise_cons]
      refine ⟨fun y hy => ?_, insV_dsc x V h.2⟩
      rcases insV_mem x y V hy with rfl | hy
      · exact less_asym _ _ (by rw [← gtN_less]; exact hg)
      · exact h.1 y hy
    | false =>
      have hax : leP a x := by unfold leP; rw [← gtN_less]; exact hg
      rw [cond_false, List.pairwise_cons, List.pairwise_cons]
      refine ⟨fun y hy => ?_, h.1, h.2⟩
      rcases List.mem_cons.1 hy with rfl | hy
      · exact hax
      · exact less_trans _ _ _ (h.1 y hy) hax
theorem insV_perm (x : PP) : ∀ V : List PP, (insV x V).Perm (x :: V)
  | [] => List.Perm.refl _
  | a :: V => by
    rw [insV]
    cases gtN a.1 x.1 with
    | true => rw [cond_true]; exact ((insV_perm x V).cons a).trans (List.Perm.swap x a V)
    | false => rw [cond_false]
theorem insR_srt (x : PP) (l : List PP) (h : l.Pairwise leP) : (insR x l).Pairwise leP := by
  unfold insR
  rw [List.pairwise_reverse]
  exact insV_dsc x _ (List.pairwise_reverse.2 (by simpa using h))
theorem insR_perm (x : PP) (l : List PP) : (insR x l).Perm (l ++ [x]) := by
  unfold insR
  refine (List.reverse_perm _).trans ((insV_perm x _).trans ?_)
  exact (((List.reverse_perm l).cons x).trans (List.perm_append_comm (l₁ := [x]) (l₂ := l)))
theorem fold_srt : ∀ (q p : List PP), p.Pairwise leP → (q.foldl (fun out x => insR x out) p).Pairwise leP ∧ (q.foldl (fun out x => insR x out) p).Perm (p ++ q)
  | [], p, h => ⟨h, by simp⟩
  | a :: q, p, h => by
    rw [List.foldl_cons]
    obtain ⟨h1, h2⟩ := fold_srt q (insR a p) (insR_srt a p h)
    refine ⟨h1, h2.trans ?_⟩
    have := (insR_perm a p).append_right q
    rw [List.append_assoc, List.singleton_append] at this
    exact this
theorem isort_srt (l : List PP) : (agh l).Pairwise leP := (fold_srt l [] List.Pairwise.nil).1
theorem akp (l : List PP) : (agh l).Perm l := by
  have := (fold_srt l [] List.Pairwise.nil).2
  rw [List.nil_append] at this
  exact this
def dstN (l : List PP) : Prop := l.Pairwise fun a b => a.1 ≠ b.1
theorem dst_inj : ∀ (l : List PP), dstN l → ∀ a ∈ l, ∀ b ∈ l, a.1 = b.1 → a = b
  | [], _, a, h, _, _, _ => absurd h (by simp)
  | x :: l, hd, a, ha, b, hb, e => by
    unfold dstN at hd
    rw [List.pairwise_cons] at hd
    rcases List.mem_cons.1 ha with rfl | ha'
    · rcases List.mem_cons.1 hb with rfl | hb'
      · rfl
      · exact absurd e (hd.1 b hb')
    · rcases List.mem_cons.1 hb with rfl | hb'
      · exact absurd e.symm (hd.1 a ha')
      · exact dst_inj l hd.2 a ha' b hb' e
theorem dst_perm {l m : List PP} (h : l.Perm m) (hd : dstN l) : dstN m := h.pairwise hd fun h e => h e.symm
theorem isort_uniq (l m : List PP) (h : l.Perm m) (hd : dstN l) : agh l = agh m := by
  have hp : (agh l).Perm (agh m) := (akp l).trans (h.trans (akp m).symm)
  have hdi := dst_perm (akp l).symm hd
  refine List.Perm.eq_of_pairwise (fun a b ha hb h1 h2 => ?_) (isort_srt l) (isort_srt m) hp
  exact dst_inj _ hdi a ha b (hp.mem_iff.2 hb) (leP_anti a b h1 h2)
theorem ppL_dst : ∀ (r pre : List PP) (u : Str), ppL pre r = some u → dstN r ∧ ∀ p ∈ r, (∀ q ∈ pre, q.1 ≠ p.1) ∧ abr p.1 = p.1
  | [], pre, u, _ => ⟨List.Pairwise.nil, by simp⟩
  | p :: r, pre, u, h => by
    rw [ppL] at h
    cases hk : okN pre p && okV p with
    | false => rw [hk] at h; cases h
    | true =>
      rw [hk, cond_true, Option.map_eq_some_iff] at h
      obtain ⟨t, ht, rfl⟩ := h
      rw [Bool.and_eq_true] at hk
      have hN := hk.1
      unfold okN at hN
      simp only [Bool.and_eq_true, decide_eq_true_eq, Bool.not_eq_true'] at hN
      obtain ⟨i1, i2⟩ := ppL_dst r _ t ht
      have hpre : ∀ q ∈ pre, q.1 ≠ p.1 := fun q hq e => by
        have := List.any_eq_false.1 hN.2 q hq
        exact this (by simpa using e)
      refine ⟨List.pairwise_cons.2 ⟨fun q hq => (i2 q hq).1 p (by simp), i1⟩, fun q hq => ?_⟩
      rcases List.mem_cons.1 hq with rfl | hq
      · exact ⟨hpre, hN.1.2⟩
      · exact ⟨fun z hz => (i2 q hq).1 z (by simp [hz]), (i2 q hq).2⟩
theorem get_mem (l : List PP) (hd : dstN l) (hlow : ∀ p ∈ l, abr p.1 = p.1) (p : PP) (hp : p ∈ l) : getP l p.1 = (p.2.1, true) := by
  have e : getP l p.1 = (match l.find? (fun q => abr q.1 == abr p.1) with | some p => (p.2.1, true) | none => ([], false)) := rfl
  rw [e]
  cases hf : l.find? (fun q => abr q.1 == abr p.1) with
  | none =>
    have := List.find?_eq_none.1 hf p hp
    exact absurd (by simp) this
  | some q =>
    have h1 := List.find?_some hf
    have h2 := List.mem_of_find?_eq_some hf
    have h3 : abr q.1 = abr p.1 := by simpa using h1
    rw [hlow q h2, hlow p hp] at h3
    rw [dst_inj l hd q h2 p hp h3]
theorem get_no (l : List PP) (name : Str) (hlow : ∀ p ∈ l, abr p.1 = p.1) (hn : abr name = name) (h : ∀ p ∈ l, p.1 ≠ name) : getP l name = ([], false) := by
  have e : getP l name = (match l.find? (fun q => abr q.1 == abr name) with | some p => (p.2.1, true) | none => ([], false)) := rfl
  rw [e]
  cases hf : l.find? (fun q => abr q.1 == abr name) with
  | none => rfl
  | some q =>
    have h1 := List.find?_some hf
    have h2 := List.mem_of_find?_eq_some hf
    have h3 : abr q.1 = abr name := by simpa using h1
    rw [hlow q h2, hn] at h3
    exact absurd h3 (h q h2)
theorem hostP_q (q : UInt8 → Bool) (h1 : ∀ c, hexB c = true → q (afc c) = true) (h2 : q 58 = true) (h3 : q 48 = true) (h4 : q 91 = true) (h5 : q 93 = true) (h6 : q 46 = true) (h7 : ∀ c, aek c = true → q c = true) (h8 : ∀ c, labB c = true → q (afc c) = true) (s : Str) : ∀ c ∈ (acz s).1, q c = true := by
  intro c hc
  unfold acz at hc
  split at hc
  · split at hc
    · rcases List.mem_append.1 hc with hc | hc
      · rcases List.mem_append.1 hc with hc | hc
        · rw [List.mem_singleton.1 hc]; exact h4
        · exact grpsP_q q h1 h2 h3 _ c hc
      · rw [List.mem_singleton.1 hc]; exact h5
    · simp at hc
  · split at hc
    · rename_i hn
      unfold numsP at hn
      simp only [Bool.and_eq_true] at hn
      rcases alz 46 aek s (fun x hx => (num_parts x (by rw [← oct_num]; exact List.all_eq_true.1 hn.1.2 x hx)).2.2) c hc with h | h
      · exact h7 c h
      · rw [h]; exact h6
    · split at hc
      · rename_i hn
        unfold anq at hn
        simp only [Bool.and_eq_true] at hn
        obtain ⟨d, hd, rfl⟩ := List.mem_map.1 hc
        rcases alz 46 labB s (fun x hx => by
          have := List.all_eq_true.1 hn.1.2 x hx
          unfold anl at this
          simp only [Bool.and_eq_true] at this
          exact this.2) d hd with h | h
        · exact h8 d h
        · rw [h]; exact h6
      · simp at hc
theorem host_sep (s : Str) : ∀ c ∈ (acz s).1, (!sepB c) = true := hostP_q _ (act _ (by decide +kernel)) (by decide) (by decide) (by decide) (by decide) (by decide) (act _ (by decide +kernel)) (act _ (by decide +kernel)) s
theorem sep_blank : ∀ c : UInt8, (!sepB c) = true → abe c = false := act _ (by decide +kernel)
theorem dig_sep : ∀ c : UInt8, aek c = true → (!sepB c) = true := act _ (by decide +kernel)
theorem host_form (s : Str) (h : (acz s).2 = true) : (∃ g, (acz s).1 = [91] ++ g ++ [93]) ∨ (∀ c ∈ (acz s).1, c ≠ 58 ∧ c ≠ 91 ∧ c ≠ 93) := by
  by_cases hb : brkB s = true
  · left
    unfold acz at h ⊢
    rw [if_pos hb] at h ⊢
    by_cases hg : (aku (sub s 1 ((s.length : Int) - 1))).2 = true
    · rw [if_pos hg]; exact ⟨_, rfl⟩
    · rw [if_neg hg] at h; cases h
  · right
    intro c hc
    unfold acz at hc
    rw [if_neg hb] at hc
    split at hc
    · rename_i hn
      unfold numsP at hn
      simp only [Bool.and_eq_true] at hn
      rcases alz 46 aek s (fun x hx => (num_parts x (by rw [← oct_num]; exact List.all_eq_true.1 hn.1.2 x hx)).2.2) c hc with h | h
      · revert h; revert c; exact fun c _ => (act (fun c => aek c = true → c ≠ 58 ∧ c ≠ 91 ∧ c ≠ 93) (by decide +kernel)) c
      · rw [h]; decide
    · split at hc
      · rename_i hn
        unfold anq at hn
        simp only [Bool.and_eq_true] at hn
        obtain ⟨d, hd, rfl⟩ := List.mem_map.1 hc
        rcases alz 46 labB s (fun x hx => by
          have := List.all_eq_true.1 hn.1.2 x hx
          unfold anl at this
          simp only [Bool.and_eq_true] at this
          exact this.2) d hd with h | h
        · exact (act (fun c => labB c = true → afc c ≠ 58 ∧ afc c ≠ 91 ∧ afc c ≠ 93) (by decide +kernel)) d h
        · rw [h]; decide
      · simp at hc
theorem host_ne' (s : Str) (h : (acz s).2 = true) : (acz s).1 ≠ [] := by
  intro e
  have := host_idem s h
  rw [e] at this
  exact absurd (congrArg Prod.snd this) (by decide)
theorem lixb_none (p : UInt8 → Bool) : ∀ l : Str, (∀ c ∈ l, p c = false) → akl p l = -1
  | [], _ => rfl
  | b :: l, h => by
    unfold akl
    rw [lixb_none p l (fun c hc => h c (List.mem_cons_of_mem _ hc)), if_pos rfl, h b (by simp), if_neg (by decide)]
theorem lixb_last (p : UInt8 → Bool) (c : UInt8) (hc : p c = true) (B : Str) (hB : ∀ b ∈ B, p b = false) : ∀ A : Str, akl p (A ++ c :: B) = (A.length : Int)
  | [] => by
    rw [List.nil_append]
    unfold akl
    rw [lixb_none p B hB, if_pos rfl, hc, if_pos rfl]; rfl
  | a :: A => by
    rw [List.cons_append]
    unfold akl
    rw [lixb_last p c hc B hB A, if_neg (by omega), List.length_cons]; omega
theorem cut_host (s : Str) (h : (acz s).2 = true) : cutP (acz s).1 = ((acz s).1, [], false) := by
  rcases host_form s h with ⟨g, hg⟩ | hn
  · rw [hg]
    have hsp := lixb_spec (· == (58 : UInt8)) ([91] ++ g ++ [93])
    unfold cutP
    by_cases hx : akl (· == (58 : UInt8)) ([91] ++ g ++ [93]) < 0
    · rw [if_pos hx]
    · rw [if_neg hx]
      have hl : ([91] ++ g ++ [93]).length = g.length + 2 := by simp
      have h58 : ∀ a : Nat, akl (· == (58 : UInt8)) ([91] ++ g ++ [93]) = (a : Int) → 1 ≤ a ∧ a ≤ g.length := by
        intro a ha
        have e1 : akl (· == (58 : UInt8)) ([91] ++ g ++ [93]) = akl (· == (58 : UInt8)) ([91] ++ g) := by rw [lixb_snoc, if_neg (by decide)]
        rw [e1, List.singleton_append] at ha
        unfold akl at ha
        have hs2 := lixb_spec (· == (58 : UInt8)) g
        split at ha
        · rw [if_neg (by decide)] at ha; omega
        · omega
      obtain ⟨a, ha⟩ : ∃ a : Nat, akl (· == (58 : UInt8)) ([91] ++ g ++ [93]) = (a : Int) := ⟨(akl (· == (58 : UInt8)) ([91] ++ g ++ [93])).toNat, by omega⟩
      have hb := h58 a ha
      rw [ha, Int.toNat_natCast]
      have t1 : (([91] ++ g ++ [93]).take a).any (· == 91) = true := by
        rw [List.any_eq_true]
        refine ⟨91, ?_, by decide⟩
        obtain ⟨b, rfl⟩ : ∃ b, a = b + 1 := ⟨a - 1, by omega⟩
        simp
      have t2 : (([91] ++ g ++ [93]).drop a).any (· == 93) = true := by
        rw [List.any_eq_true]
        refine ⟨93, ?_, by decide⟩
        rw [List.drop_append_of_le_length (by simp; omega)]
        simp
      rw [t1, t2, if_pos (by decide)]
  · unfold cutP
    rw [lixb_none _ _ (fun c hc => by simpa using (hn c hc).1), if_pos (by decide)]
theorem cut_port (s u : Str) (h : (acz s).2 = true) (hu : u.all aek = true) : cutP ((acz s).1 ++ 58 :: u) = ((acz s).1, u, true) := by
  have hd : ∀ c ∈ u, c ≠ 58 ∧ c ≠ 93 := fun c hc => (act (fun c => aek c = true → c ≠ 58 ∧ c ≠ 93) (by decide +kernel)) c (List.all_eq_true.1 hu c hc)
  have hx : akl (· == (58 : UInt8)) ((acz s).1 ++ 58 :: u) = ((acz s).1.length : Int) := lixb_last _ 58 (by decide) u (fun b hb => by simpa using (hd b hb).1) _
  have h93 : (58 :: u).any (· == 93) = false := by
    rw [List.any_eq_false]
    intro c hc
    rcases List.mem_cons.1 hc with rfl | hc
    · decide
    · simpa using (hd c hc).2
  have e : (((acz s).1.length : Int) + 1).toNat = ((acz s).1 ++ [58]).length := by simp
  unfold cutP
  rw [hx, if_neg (by omega), Int.toNat_natCast, List.take_left, List.drop_left, h93, Bool.and_false, if_neg (by decide), e, show (acz s).1 ++ 58 :: u = ((acz s).1 ++ [58]) ++ u by simp, List.drop_left]
theorem up_tok : ∀ c : UInt8, abz c = true → abz (upperB c) = true := act _ (by decide +kernel)
theorem up_up : ∀ c : UInt8, upperB (upperB c) = upperB c := act _ (by decide +kernel)
theorem low_up : ∀ c : UInt8, afc (upperB c) = afc c := act _ (by decide +kernel)
theorem upperL_idem (s : Str) : adv (adv s) = adv s := by
  unfold adv; rw [List.map_map]; exact List.map_congr_left fun c _ => up_up c
theorem low_upperL (s : Str) : abr (adv s) = abr s := by
  unfold adv abr; rw [List.map_map]; exact List.map_congr_left fun c _ => low_up c
theorem upperL_tok (s : Str) (h : air s = true) : air (adv s) = true := by
  obtain ⟨hne, hall⟩ := anb h
  unfold air
  rw [Bool.and_eq_true]
  refine ⟨?_, ?_⟩
  · cases s with
    | nil => exact absurd rfl hne
    | cons a s => rfl
  · unfold adv
    rw [List.all_map]
    exact List.all_eq_true.2 fun c hc => up_tok c (List.all_eq_true.1 hall c hc)
theorem brn_low : abr BRN = BRN := by decide
theorem dst_vl (ps : List PP) (b : Str) (t : Str) (h : ppL [] (agh (aig ps ++ ale b)) = some t) : dstN (aig ps ++ ale b) := dst_perm (akp _) (ppL_dst _ _ _ h).1
theorem get_branch (ps : List PP) (b : Str) (t : Str) (h : ppL [] (agh (aig ps ++ ale b)) = some t) : getP (agh (aig ps ++ ale b)) BRN = (b, !(decide (b = []))) := by
  obtain ⟨hd, hl⟩ := ppL_dst _ _ _ h
  by_cases hb : b = []
  · rw [decide_eq_true hb, hb]
    refine get_no _ _ (fun p hp => (hl p (by rw [hb]; exact hp)).2) brn_low fun p hp => ?_
    have hp' := isort_mem _ p hp
    unfold ale at hp'
    rw [if_pos rfl, List.append_nil] at hp'
    have := (List.mem_filter.1 hp').2
    simpa using this
  · rw [decide_eq_false hb]
    have hm : ((BRN, b, true) : PP) ∈ agh (aig ps ++ ale b) := (akp _).mem_iff.2 (by unfold ale; rw [if_neg hb]; simp)
    exact get_mem _ hd (fun p hp => (hl p hp).2) _ hm
theorem prHost_all (s : Str) (n : Int) (h0 : 0 ≤ n) (h1 : n ≤ 65535) : (aks (acz s).1 n).all (fun c => !sepB c) = true := by
  rw [List.all_eq_true]
  intro c hc
  unfold aks at hc
  split at hc
  · exact host_sep s c hc
  · rcases List.mem_append.1 hc with hc | hc
    · exact host_sep s c hc
    · rcases List.mem_append.1 hc with hc | hc
      · rw [List.mem_singleton.1 hc]; decide
      · exact dig_sep c (List.all_eq_true.1 (itoa_port n h0 h1).2.2.2 c hc)
theorem prHost_ne (s : Str) (n : Int) (h : (acz s).2 = true) : aks (acz s).1 n ≠ [] ∧ (aks (acz s).1 n).head? = (acz s).1.head? := by
  have hne := host_ne' s h
  unfold aks
  split
  · exact ⟨hne, rfl⟩
  · exact ⟨by simp [hne], head_app _ _ hne⟩
theorem via_back (x : VV) (h : (prVia x).2 = 0) : viaP (prVia x).1 = ((adv x.1, (acz x.2.1).1, x.2.2.1, x.2.2.2.1, agh (aig x.2.2.2.2 ++ ale x.2.2.2.1)), 0) := by
  unfold prVia at h ⊢
  by_cases hc : (acz x.2.1).2 = true ∧ air x.1 = true ∧ 0 ≤ x.2.2.1 ∧ x.2.2.1 ≤ 65535 ∧ (ppM (agh (aig x.2.2.2.2 ++ ale x.2.2.2.1))).2 = 0
  · rw [if_pos hc]
    obtain ⟨hH, hT, hp0, hp1, h0⟩ := hc
    obtain ⟨b1, b2, b3, b4⟩ := par_back (agh (aig x.2.2.2.2 ++ ale x.2.2.2.1)) (ppM (agh (aig x.2.2.2.2 ++ ale x.2.2.2.1))).1 (by rw [← h0])
    have hbr := get_branch _ _ _ b3
    have hcutP : cutP (aks (acz x.2.1).1 x.2.2.1) = if x.2.2.1 = 0 then ((acz x.2.1).1, [], false) else ((acz x.2.1).1, Lib.itoa x.2.2.1, true) := by
      unfold aks
      by_cases hz : x.2.2.1 = 0
      · rw [if_pos hz, if_pos hz, cut_host _ hH]
      · rw [if_neg hz, if_neg hz, List.singleton_append, cut_port _ _ hH (itoa_port _ hp0 hp1).2.2.2]
    generalize agh (aig x.2.2.2.2 ++ ale x.2.2.2.1) = l at b1 b2 b3 b4 hbr ⊢
    generalize (ppM l).1 = t at b1 b2 b3 ⊢
    have hall := prHost_all x.2.1 x.2.2.1 hp0 hp1
    obtain ⟨hpn, hph⟩ := prHost_ne x.2.1 x.2.2.1 hH
    have hidem := host_idem x.2.1 hH
    have hnum := (itoa_port x.2.2.1 hp0 hp1).1
    have hUT := upperL_tok x.1 hT
    obtain ⟨hUn, hUa⟩ := anb hUT
    simp only
    have hs : VER ++ adv x.1 ++ [32] ++ aks (acz x.2.1).1 x.2.2.1 ++ t = (VER ++ adv x.1 ++ [32]) ++ (aks (acz x.2.1).1 x.2.2.1 ++ t) := by simp
    have hPh : ∀ c, (aks (acz x.2.1).1 x.2.2.1 ++ t).head? = some c → abe c = false := fun c hc => by
      rw [head_app _ _ hpn] at hc
      exact sep_blank c (head_all (fun c => !sepB c) _ hall c hc)
    generalize aks (acz x.2.1).1 x.2.2.1 = ph at hcutP hall hpn hph hs hPh ⊢
    have htr : ald (VER ++ adv x.1 ++ [32] ++ ph ++ t) = VER ++ adv x.1 ++ [32] ++ ph ++ t := by
      refine trim_id _ (fun c hc => ?_) (ppL_last _ [] t _ b3 (lastOk_app _ _ hpn (lastOk_all (fun c => !sepB c) sep_blank _ hall)))
      have : c = 83 := by
        have e : (VER ++ adv x.1 ++ [32] ++ ph ++ t).head? = some 83 := rfl
        rw [e, Option.some.injEq] at hc
        exact hc.symm
      rw [this]; decide
    have h8 : (VER : Str).length = 8 := rfl
    have hA : VER ++ adv x.1 ++ [32] ++ ph ++ t = VER ++ (adv x.1 ++ 32 :: (ph ++ t)) := by simp
    have htk : acs abz (VER ++ adv x.1 ++ [32] ++ ph ++ t) 8 = 8 + (adv x.1).length := by
      have := skipA abz _ VER _ hA
      rw [span_app abz _ _ hUa, span_no abz 32 _ (by decide)] at this
      exact this
    have hl2 : (VER ++ adv x.1).length = 8 + (adv x.1).length := by rw [List.length_append, h8]
    have hB : VER ++ adv x.1 ++ [32] ++ ph ++ t = (VER ++ adv x.1) ++ 32 :: (ph ++ t) := by simp
    have hbl : acs abe (VER ++ adv x.1 ++ [32] ++ ph ++ t) ((8 + (adv x.1).length : Nat) : Int) = 8 + (adv x.1).length + 1 := by
      have := skipA abe _ (VER ++ adv x.1) _ hB
      have e : ali abe (32 :: (ph ++ t)) = 1 := by
        rw [ali, if_pos (by decide), amn abe _ hPh]
      rw [e, hl2] at this
      exact this
    have hsub : sub (VER ++ adv x.1 ++ [32] ++ ph ++ t) 8 ((8 + (adv x.1).length : Nat) : Int) = adv x.1 := subA _ VER (adv x.1) (32 :: (ph ++ t)) hA
    have hl3 : (VER ++ adv x.1 ++ [32]).length = 8 + (adv x.1).length + 1 := by rw [List.length_append, hl2]; rfl
    have hdrop : (VER ++ adv x.1 ++ [32] ++ ph ++ t).drop (8 + (adv x.1).length + 1) = ph ++ t := by rw [hs, ← hl3, List.drop_left]
    have hspan : ali (fun c => !sepB c) (ph ++ t) = ph.length := by
      rw [span_app _ _ _ hall, amn _ t (fun c hc => by rw [b2 c hc]; decide)]; rfl
    have hlt : ¬ (VER ++ adv x.1 ++ [32] ++ ph ++ t).length < 8 := by rw [hA, List.length_append, h8]; omega
    have hup : adv ((VER ++ adv x.1 ++ [32] ++ ph ++ t).take 8) = VER := by
      rw [hA, ← h8, List.take_left]; decide
    have hUl := List.length_pos_iff.2 hUn
    unfold viaP
    rw [htr, if_neg hlt, if_neg (not_not_intro hup), htk, if_neg (by omega), hbl, if_neg (by omega), hsub, hdrop, hspan, List.take_left, List.drop_left, upperL_idem]
    unfold viaB
    rw [hcutP]
    have fin : ∀ port : Int, viaF (adv x.1) (acz x.2.1).1 port t = ((adv x.1, (acz x.2.1).1, port, x.2.2.2.1, l), 0) := by
      intro port
      unfold viaF
      rw [b1, if_pos rfl, hbr]
    by_cases hz : x.2.2.1 = 0
    · rw [if_pos hz]
      simp only
      rw [hidem, if_neg (show ¬ (true = false) by decide), if_neg (by decide), fin, hz]
    · have hq : portQ (Lib.itoa x.2.2.1) = (x.2.2.1, 0) := by
        unfold portQ
        rw [hnum, if_neg (by rintro ⟨_, h | h⟩ <;> simp only at h <;> omega)]
      rw [if_neg hz]
      simp only
      rw [hidem, if_neg (show ¬ (true = false) by decide), if_pos trivial, hq, if_pos rfl, fin]
  · rw [if_neg hc] at h; exact absurd h (by decide)
theorem via_again (x : VV) (h : (prVia x).2 = 0) : prVia (adv x.1, (acz x.2.1).1, x.2.2.1, x.2.2.2.1, agh (aig x.2.2.2.2 ++ ale x.2.2.2.1)) = prVia x := by
  have h' := h
  unfold prVia at h'
  by_cases hc : (acz x.2.1).2 = true ∧ air x.1 = true ∧ 0 ≤ x.2.2.1 ∧ x.2.2.1 ≤ 65535 ∧ (ppM (agh (aig x.2.2.2.2 ++ ale x.2.2.2.1))).2 = 0
  · obtain ⟨hH, hT, hp0, hp1, h0⟩ := hc
    obtain ⟨b1, b2, b3, b4⟩ := par_back (agh (aig x.2.2.2.2 ++ ale x.2.2.2.1)) (ppM (agh (aig x.2.2.2.2 ++ ale x.2.2.2.1))).1 (by rw [← h0])
    have hd := dst_vl _ _ _ b3
    have hperm : (aig (agh (aig x.2.2.2.2 ++ ale x.2.2.2.1)) ++ ale x.2.2.2.1).Perm (aig x.2.2.2.2 ++ ale x.2.2.2.1) := by
      refine List.Perm.append_right _ ?_
      have h1 : (aig (agh (aig x.2.2.2.2 ++ ale x.2.2.2.1))).Perm (aig (aig x.2.2.2.2 ++ ale x.2.2.2.1)) := (akp _).filter _
      have h2 : aig (aig x.2.2.2.2 ++ ale x.2.2.2.1) = aig x.2.2.2.2 := by
        unfold aig
        rw [List.filter_append, List.filter_filter]
        have e1 : (ale x.2.2.2.1).filter (fun p => !(p.1 == BRN)) = [] := by
          unfold ale
          split
          · rfl
          · simp
        rw [e1, List.append_nil]
        congr 1
        funext p
        simp
      rw [h2] at h1
      exact h1
    have he := isort_uniq _ _ hperm.symm hd
    unfold prVia
    simp only
    rw [← he, host_idem _ hH, upperL_tok _ hT, hH, hT, upperL_idem]
  · rw [if_neg hc] at h'; exact absurd h' (by decide)
def szP (l : List PP) : Nat := (l.map fun z => z.1.length + z.2.1.length).sum
theorem szP_cons (p : PP) (l : List PP) : szP (p :: l) = p.1.length + p.2.1.length + szP l := by unfold szP; rw [List.map_cons, List.sum_cons]
theorem szP_perm {l m : List PP} (h : l.Perm m) : szP l = szP m := by unfold szP; exact (h.map _).sum_nat
theorem szP_app (a b : List PP) : szP (a ++ b) = szP a + szP b := by unfold szP; rw [List.map_append, List.sum_append]
theorem szP_filter (q : PP → Bool) : ∀ l : List PP, szP (l.filter q) ≤ szP l
  | [] => Nat.le_refl _
  | p :: l => by
    have := szP_filter q l
    rw [List.filter_cons]
    split
    · rw [szP_cons, szP_cons]; omega
    · rw [szP_cons]; omega
theorem szP_mem : ∀ (l : List PP) (p : PP), p ∈ l → p.1.length + p.2.1.length ≤ szP l
  | [], _, h => by simp at h
  | a :: l, p, h => by
    rw [szP_cons]
    rcases List.mem_cons.1 h with rfl | h
    · omega
    · have := szP_mem l p h; omega
theorem txt_len2 (p : PP) : (txt p).length ≤ 2 * p.2.1.length + 3 := by
  have := quoT_len p.2.1
  unfold txt
  cases p.2.2 with
  | false => simp
  | true =>
    rw [cond_true, List.length_cons]
    cases (air p.2.1 || brV p.2.1) with
    | true => rw [cond_true]; omega
    | false => rw [cond_false]; omega
theorem ppL_len2 : ∀ (r pre : List PP) (t : Str), ppL pre r = some t → t.length ≤ 2 * szP r + 4 * r.length
  | [], _, t, h => by rw [ppL, Option.some.injEq] at h; subst h; simp
  | p :: r, pre, t, h => by
    rw [ppL] at h
    cases hk : okN pre p && okV p with
    | false => rw [hk] at h; cases h
    | true =>
      rw [hk, cond_true, Option.map_eq_some_iff] at h
      obtain ⟨u, hu, rfl⟩ := h
      have := ppL_len2 r _ u hu
      have ht := txt_len2 p
      rw [szP_cons]
      simp only [List.length_cons, List.length_append]
      omega
theorem ppM_len2 (l : List PP) : (ppM l).1.length ≤ 2 * szP l + 64 := by
  unfold ppM
  split
  · simp
  · cases hp : ppL [] l with
    | none => simp
    | some t =>
      have := ppL_len2 l [] t hp
      simp only
      omega
theorem grps_len2 (s : Str) : (aku s).1.length ≤ 250 := by
  unfold aku
  by_cases h39 : 39 < s.length
  · rw [if_pos h39]; simp
  · rw [if_neg h39]
    have hb : ∀ x : Str, x.length ≤ 39 → (Lib.join (afs x).1 [58]).length ≤ 40 * 5 := fun x hx => by
      have h1 := ans x
      have h2 := ana [58] 4 (afs x).1 h1.2
      simp only [List.length_singleton] at h2
      omega
    split
    · have := hb s (by omega); simp only; omega
    · split
      · simp
      · rename_i hn
        simp only [Bool.or_eq_true, Bool.not_eq_true', decide_eq_true_eq, not_or] at hn
        have lA := ana [58] 4 (ais (Lib.cut s [58, 58]).1).1 (gdG_len (grpL0_gd _))
        have lB := ana [58] 4 (ais (Lib.cut s [58, 58]).2.1).1 (gdG_len (grpL0_gd _))
        simp only [List.length_singleton, List.length_append, List.length_cons, List.length_nil] at lA lB ⊢
        omega
theorem host_len2 (s : Str) : (acz s).1.length ≤ s.length + 252 := by
  have := grps_len2 (sub s 1 ((s.length : Int) - 1))
  unfold acz
  split
  · split
    · simp only [List.length_append, List.length_singleton]; omega
    · simp
  · split
    · simp
    · split
      · unfold abr; simp
      · simp
theorem szP_vl (ps : List PP) (b : Str) : szP (aig ps ++ ale b) ≤ szP ps + b.length + 6 := by
  have h1 := szP_filter (fun p => !(p.1 == BRN)) ps
  have h2 : szP (ale b) ≤ b.length + 6 := by
    unfold ale
    split
    · exact Nat.zero_le _
    · rw [szP_cons]
      have : BRN.length = 6 := rfl
      have h0 : szP [] = 0 := rfl
      simp only
      omega
  rw [szP_app]
  unfold aig
  omega
theorem prVia_len (x : VV) : (prVia x).1.length ≤ x.1.length + x.2.1.length + 2 * (szP x.2.2.2.2 + x.2.2.2.1.length) + 400 := by
  by_cases hc : (acz x.2.1).2 = true ∧ air x.1 = true ∧ 0 ≤ x.2.2.1 ∧ x.2.2.1 ≤ 65535 ∧ (ppM (agh (aig x.2.2.2.2 ++ ale x.2.2.2.1))).2 = 0
  · have h1 := ppM_len2 (agh (aig x.2.2.2.2 ++ ale x.2.2.2.1))
    rw [szP_perm (akp _)] at h1
    have h2 := szP_vl x.2.2.2.2 x.2.2.2.1
    have h3 := host_len2 x.2.1
    have h4 := upperL_len x.1
    have h5 := (itoa_port x.2.2.1 hc.2.2.1 hc.2.2.2.1).2.2.1
    have h6 : (aks (acz x.2.1).1 x.2.2.1).length ≤ (acz x.2.1).1.length + 6 := by
      unfold aks
      split
      · omega
      · simp only [List.length_append, List.length_singleton]; omega
    have h8 : VER.length = 8 := rfl
    rw [prVia_yes x hc]
    simp only [List.length_append, List.length_singleton]
    omega
  · rw [aob x hc]; simp
open Bool renaming not_true → zar
open List renaming append_nil → zaC, length_append → zag, length_cons → zah, length_singleton → zai
theorem awake_true : ajs FU = some true := by kernel_rfl
theorem prVia_err (x : VV) (h : ¬ (prVia x).2 = 0) : prVia x = ([], 2) := by
  unfold prVia at h ⊢
  split
  · rename_i hc
    rw [if_pos hc] at h
    exact absurd rfl h
  · rfl
theorem isort_app_len (ps : List PP) (b : Str) : (agh (aig ps ++ ale b)).length = (aig ps).length + (ale b).length := by rw [isort_len, zag]
theorem vb_lp (x : VV) (y : VV × UInt8) (L : List PP) (hy : y.1.2.2.2.2 = L) (hlL : L.length ≤ 16) (hl : x.2.2.2.2.length ≤ 40) (hb : ∀ p ∈ x.2.2.2.2, p.1.length ≤ 4194304) (hbL : ∀ p ∈ L, p.1.length ≤ 4194304)
    (hg : ∀ p ∈ aig x.2.2.2.2, getP L p.1 = (p.2.1, true)) (q : List PP) : ∀ (p : List PP) (fk : Nat), x.2.2.2.2 = p ++ q → q.length < fk →
    acq FU x y fk ((aig p).length : Int) (p.length : Int) = some (.inl ((aig (p ++ q)).length : Int)) := by
  induction q with
  | nil =>
    intro p fk h hf
    obtain ⟨fk, rfl⟩ := fkx fk
    rw [acq, if_neg (by rw [h]; simp), zaC]
  | cons a q ih =>
    intro p fk h hf
    obtain ⟨fk, rfl⟩ := fkx fk
    have hlen := congrArg List.length h
    simp only [zag, zah] at hlen hf
    have hin : (0 : Int) ≤ (p.length : Int) ∧ (p.length : Int) < (x.2.2.2.2.length : Int) := by omega
    have he : el x.2.2.2.2 (p.length : Int) = a := by rw [h]; simp [el]
    have hih := ih (p ++ [a]) fk (by rw [h]; simp) omg
    rw [show ((p ++ [a]).length : Int) = (p.length : Int) + 1 by simp, List.append_assoc, List.singleton_append] at hih
    have hnl := noBr_len p
    have ha : a ∈ x.2.2.2.2 := by rw [h]; simp
    rw [acq, if_pos hin.2, aad hin, aad hin, he]
    by_cases hbr : a.1 = BRN
    · have e : aig (p ++ [a]) = aig p := by unfold aig; rw [List.filter_append]; simp [hbr]
      rw [if_pos (show a.1 = ([98, 114, 97, 110, 99, 104] : Str) from hbr), aad (aiq _ omg omg)]
      rw [e] at hih; exact hih
    · have e : aig (p ++ [a]) = aig p ++ [a] := by unfold aig; rw [List.filter_append]; simp [hbr]
      have hm : a ∈ aig x.2.2.2.2 := List.mem_filter.2 ⟨ha, by simpa using hbr⟩
      rw [if_neg (show ¬ a.1 = ([98, 114, 97, 110, 99, 104] : Str) from hbr), aad (aiq _ omg omg), aad hin, aad hin, hy, get_eq L omg hbL a.1 (hb a ha), zab, hg a hm, zar, cond_false, aad hin, aad hin, decide_eq_true rfl, zar, zab, cond_false, aad (aiq _ omg omg)]
      rw [e, zag, zai] at hih
      exact hih
theorem plain_HeaderViaBack (x : Str × Str × Int × Str × List PQ) (h : x.1.length + x.2.1.length + x.2.2.2.1.length + (x.2.2.2.2.map fun z => z.1.length + z.2.1.length).sum ≤ 1048576) : ahg FU x = some true := by
  have h' : x.1.length + x.2.1.length + x.2.2.2.1.length + szP x.2.2.2.2 ≤ 1048576 := h
  have hb : ∀ p ∈ x.2.2.2.2, p.1.length ≤ 4194304 ∧ p.2.1.length ≤ 4194304 := fun p hp => by
    have := szP_mem x.2.2.2.2 p hp
    omega
  unfold ahg
  by_cases h40 : 40 < x.2.2.2.2.length
  · rw [if_pos omg, awake_true]; rfl
  · have hl := prVia_len x
    have hpr := printVia_eq x omg omg omg hb omg
    rw [if_neg omg, hpr, zab]
    by_cases h0 : (prVia x).2 = 0
    · have hback := via_back x h0
      have hagain := via_again x h0
      rw [if_pos h0, via_eq _ omg, zab, adHost_eq _ omg, zab, hback]
      have hc : (acz x.2.1).2 = true ∧ air x.1 = true ∧ 0 ≤ x.2.2.1 ∧ x.2.2.1 ≤ 65535 ∧ (ppM (agh (aig x.2.2.2.2 ++ ale x.2.2.2.1))).2 = 0 := by
        by_cases hc : (acz x.2.1).2 = true ∧ air x.1 = true ∧ 0 ≤ x.2.2.1 ∧ x.2.2.1 ≤ 65535 ∧ (ppM (agh (aig x.2.2.2.2 ++ ale x.2.2.2.1))).2 = 0
        · exact hc
        · rw [aob x hc] at h0; exact absurd h0 (by decide)
      obtain ⟨b1, b2, b3, b4⟩ := par_back (agh (aig x.2.2.2.2 ++ ale x.2.2.2.1)) (ppM (agh (aig x.2.2.2.2 ++ ale x.2.2.2.1))).1 (by rw [← hc.2.2.2.2])
      obtain ⟨hd, hlow⟩ := ppL_dst _ _ _ b3
      have hul := upperL_len x.1
      have hh := host_len2 x.2.1
      have hmemL : ∀ p ∈ agh (aig x.2.2.2.2 ++ ale x.2.2.2.1), p.1.length ≤ 4194304 ∧ p.2.1.length ≤ 4194304 := fun p hp => vl_mem x hb omg p (isort_mem _ p hp)
      have hg : ∀ p ∈ aig x.2.2.2.2, getP (agh (aig x.2.2.2.2 ++ ale x.2.2.2.1)) p.1 = (p.2.1, true) := fun p hp => get_mem _ hd (fun q hq => (hlow q hq).2) p ((akp _).mem_iff.2 (List.mem_append_left _ hp))
      have hlp := vb_lp x ((adv x.1, (acz x.2.1).1, x.2.2.1, x.2.2.2.1, agh (aig x.2.2.2.2 ++ ale x.2.2.2.1)), 0) _ rfl b4 omg (fun p hp => (hb p hp).1) (fun p hp => (hmemL p hp).1) hg x.2.2.2.2 [] FU rfl (by rw [akf]; omega)
      have hlp' : acq FU x ((adv x.1, (acz x.2.1).1, x.2.2.1, x.2.2.2.1, agh (aig x.2.2.2.2 ++ ale x.2.2.2.1)), 0) FU (0 : Int) (0 : Int) = some (.inl ((aig x.2.2.2.2).length : Int)) := hlp
      have hnl := noBr_len x.2.2.2.2
      have hlen := isort_app_len x.2.2.2.2 x.2.2.2.1
      have hn : (if x.2.2.2.1 = ([] : Str) then some ((aig x.2.2.2.2).length : Int) else (gd (acy (((aig x.2.2.2.2).length : Int) + (1 : Int))) <| some (((aig x.2.2.2.2).length : Int) + (1 : Int)))) = some ((agh (aig x.2.2.2.2 ++ ale x.2.2.2.1)).length : Int) := by
        rw [hlen]
        unfold ale
        by_cases hbe : x.2.2.2.1 = []
        · rw [if_pos hbe, if_pos hbe]; rfl
        · rw [if_neg hbe, if_neg hbe, aad (aiq _ omg omg)]; rfl
      have hpr2 := printVia_eq (adv x.1, (acz x.2.1).1, x.2.2.1, x.2.2.2.1, agh (aig x.2.2.2.2 ++ ale x.2.2.2.1)) (by simp only; omega) (by simp only; omega) (by simp only; omega) hmemL (by simp only; omega)
      rw [hagain] at hpr2
      simp only
      rw [if_pos trivial, hc.1, zar, cond_false, if_pos trivial, if_pos trivial, if_pos trivial, refLower_eq _ omg, zab, refLower_eq _ omg, zab, low_upperL, decide_eq_true rfl, zar, zab, cond_false, hlp', zab, zau, hn, zab, hpr2, zab, if_pos rfl, if_pos h0, if_pos rfl, awake_true]
      rfl
    · rw [if_neg h0, prVia_err x h0, if_pos rfl, if_pos rfl, awake_true]
      rfl
end Go.Wk
