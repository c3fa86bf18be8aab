/-
  The law HeaderItemBack holds, second form: for every item of at most 1048576 values and letters the call returns true; no condition beyond the statement's own (part 3 of 7).
-/
import Derived.Test.YtbfppjfgcjpknaaGreatDoorHl2
import Derived.Laws.Bits64
set_option linter.unusedVariables false
set_option linter.unusedSimpArgs false
set_option maxRecDepth 100000
namespace Go.Wk
open Go.Px
open Go.IntKind renaming wrap → zaa
open Go.Op renaming bytesLess → zay
open List renaming length_set → zaq, set → zaf
open Option renaming bind_some → zab
open Sum renaming elim_inl → zav
def Keeps (o : Option (List PP)) (n : Nat) : Prop := ∃ d, o = some d ∧ d.length = n
theorem ahq (a : Int) (h0 : -1000 ≤ a) (h : a ≤ 100000) : acw a := ⟨by omega, by omega⟩
theorem tIns1 (fu : Nat) (a : Nat) (n : Nat) : ∀ (data : List PP) (fk : Nat), n < data.length → data.length ≤ 100 → n < fk → Keeps (aae fu (a : Int) fk data (n : Int)) data.length := by
  induction n with
  | zero =>
    intro data fk hn hl hf
    obtain ⟨fk, rfl⟩ := fkx fk
    rw [aae, if_neg omg]
    exact ⟨data, rfl, rfl⟩
  | succ n ih =>
    intro data fk hn hl hf
    obtain ⟨fk, rfl⟩ := fkx fk
    have e1 : (((n + 1 : Nat) : Int) - 1) = (n : Int) := by omega
    have hin : (0 : Int) ≤ ((n + 1 : Nat) : Int) ∧ ((n + 1 : Nat) : Int) < (data.length : Int) := by omega
    have hin1 : (0 : Int) ≤ (n : Int) ∧ (n : Int) < (data.length : Int) := by omega
    rw [aae, e1]
    simp only [hs1_eq, zab, cmp_lt, aag hin, aag hin1, aag (ahq (n : Int) omg omg), zaq]
    by_cases h : (a : Int) < ((n + 1 : Nat) : Int)
    · rw [if_pos h, zab]
      cases zay (el data ((n + 1 : Nat) : Int)).1 (el data (n : Int)).1 with
      | false => exact ⟨data, rfl, rfl⟩
      | true =>
        rw [cond_true]
        have := ih (zaf (zaf data (((n + 1 : Nat) : Int).toNat) (el data (n : Int))) ((n : Int).toNat) (el data ((n + 1 : Nat) : Int))) fk (by simp only [zaq]; omega) (by simp only [zaq]; omega) omg
        rw [zaq, zaq] at this
        exact this
    · rw [if_neg h]; exact ⟨data, rfl, rfl⟩
theorem tIns0 (fu : Nat) (hfu : 1000 ≤ fu) (a b : Nat) (m : Nat) : ∀ (data : List PP) (i fk : Nat), b ≤ i + m → m < fk → b ≤ data.length → data.length ≤ 100 → Keeps (aac fu (a : Int) (b : Int) fk data (i : Int)) data.length := by
  induction m with
  | zero =>
    intro data i fk hm hf hb hl
    obtain ⟨fk, rfl⟩ := fkx fk
    rw [aac, if_neg omg]
    exact ⟨data, rfl, rfl⟩
  | succ m ih =>
    intro data i fk hm hf hb hl
    obtain ⟨fk, rfl⟩ := fkx fk
    rw [aac]
    by_cases h : (i : Int) < (b : Int)
    · obtain ⟨d, h1, h2⟩ := tIns1 fu a i data fu omg hl omg
      rw [if_pos h, h1, zab, aag (ahq _ omg omg)]
      have := ih d (i + 1) fk omg omg omg omg
      rw [h2] at this
      exact this
    · rw [if_neg h]; exact ⟨data, rfl, rfl⟩
theorem tIns (fu : Nat) (hfu : 1000 ≤ fu) (a b : Nat) (data : List PP) (ha : a ≤ 100) (hb : b ≤ data.length) (hl : data.length ≤ 100) : Keeps (aai fu data (a : Int) (b : Int)) data.length := by
  unfold aai
  rw [aag (ahq _ omg omg)]
  exact tIns0 fu hfu a b 100 data (a + 1) fu omg omg hb hl
theorem tSwap0 (fu : Nat) (a b n : Nat) (m : Nat) : ∀ (data : List PP) (i fk : Nat), n ≤ i + m → m < fk → a + n ≤ data.length → b + n ≤ data.length → data.length ≤ 100 → Keeps (aar fu (a : Int) (b : Int) (n : Int) fk data (i : Int)) data.length := by
  induction m with
  | zero =>
    intro data i fk hm hf ha hb hl
    obtain ⟨fk, rfl⟩ := fkx fk
    rw [aar, if_neg omg]
    exact ⟨data, rfl, rfl⟩
  | succ m ih =>
    intro data i fk hm hf ha hb hl
    obtain ⟨fk, rfl⟩ := fkx fk
    rw [aar]
    by_cases h : (i : Int) < (n : Int)
    · have hA : (0 : Int) ≤ (a : Int) + (i : Int) ∧ (a : Int) + (i : Int) < (data.length : Int) := by omega
      have hB : (0 : Int) ≤ (b : Int) + (i : Int) ∧ (b : Int) + (i : Int) < (data.length : Int) := by omega
      rw [if_pos h]
      simp only [aag hA, aag hB, aag (ahq ((a : Int) + (i : Int)) omg omg), aag (ahq ((b : Int) + (i : Int)) omg omg), aag (ahq ((i : Int) + 1) omg omg), zaq]
      have := ih (zaf (zaf data ((a : Int) + (i : Int)).toNat (el data ((b : Int) + (i : Int)))) ((b : Int) + (i : Int)).toNat (el data ((a : Int) + (i : Int)))) (i + 1) fk omg omg (by simp only [zaq]; omega) (by simp only [zaq]; omega) (by simp only [zaq]; omega)
      rw [zaq, zaq] at this
      exact this
    · rw [if_neg h]; exact ⟨data, rfl, rfl⟩
theorem tSwap (fu : Nat) (hfu : 1000 ≤ fu) (a b n : Int) (data : List PP) (ha0 : 0 ≤ a) (hb0 : 0 ≤ b) (hn0 : 0 ≤ n) (ha : a + n ≤ data.length) (hb : b + n ≤ data.length) (hl : data.length ≤ 100) : Keeps (aay fu data a b n) data.length := by
  obtain ⟨a, rfl⟩ : ∃ k : Nat, a = (k : Int) := ⟨a.toNat, by omega⟩
  obtain ⟨b, rfl⟩ : ∃ k : Nat, b = (k : Int) := ⟨b.toNat, by omega⟩
  obtain ⟨n, rfl⟩ : ∃ k : Nat, n = (k : Int) := ⟨n.toNat, by omega⟩
  unfold aay
  exact tSwap0 fu a b n n data 0 fu omg omg omg omg hl
theorem tRot0 (fu : Nat) (hfu : 1000 ≤ fu) (m : Nat) (t : Nat) : ∀ (data : List PP) (i j : Int) (fk : Nat), i + j ≤ (t : Int) → t < fk → 0 < i → 0 < j → i ≤ (m : Int) → (m : Int) + j ≤ (data.length : Int) → data.length ≤ 100 →
    ∃ d i', aax fu (m : Int) fk data i j = some (d, i') ∧ d.length = data.length ∧ 0 ≤ i' ∧ i' ≤ (m : Int) ∧ (m : Int) + i' ≤ (data.length : Int) := by
  induction t with
  | zero => intro data i j fk h; omega
  | succ t ih =>
    intro data i j fk h hf hi hj him hjm hl
    obtain ⟨fk, rfl⟩ := fkx fk
    rw [aax]
    by_cases hij : i = j
    · rw [if_pos hij]; exact ⟨data, i, rfl, rfl, by omega, by omega, by omega⟩
    · rw [if_neg hij]
      by_cases hlt : j < i
      · obtain ⟨d, h1, h2⟩ := tSwap fu hfu ((m : Int) - i) (m : Int) j data omg omg omg omg omg hl
        rw [if_pos hlt, aag (ahq _ omg omg), h1, zab, aag (ahq _ omg omg)]
        have := ih d (i - j) j fk omg omg omg omg omg omg omg
        rw [h2] at this
        exact this
      · obtain ⟨d, h1, h2⟩ := tSwap fu hfu ((m : Int) - i) ((m : Int) + j - i) i data omg omg omg omg omg hl
        rw [if_neg hlt, aag (ahq _ omg omg), aag (ahq _ omg omg), aag (ahq _ omg omg), h1, zab, aag (ahq _ omg omg)]
        have := ih d i (j - i) fk omg omg omg omg omg omg omg
        rw [h2] at this
        exact this
theorem tRot (fu : Nat) (hfu : 1000 ≤ fu) (data : List PP) (a m b : Int) (ha : 0 ≤ a) (ham : a < m) (hmb : m < b) (hb : b ≤ (data.length : Int)) (hl : data.length ≤ 100) : Keeps (abl fu data a m b) data.length := by
  obtain ⟨m, rfl⟩ : ∃ k : Nat, m = (k : Int) := ⟨m.toNat, by omega⟩
  unfold abl
  obtain ⟨d, i', h1, h2, h3, h4, h5⟩ := tRot0 fu hfu m 200 data ((m : Int) - a) (b - (m : Int)) fu omg omg omg omg omg omg hl
  obtain ⟨e, h6, h7⟩ := tSwap fu hfu ((m : Int) - i') (m : Int) i' d omg omg omg omg omg omg
  rw [aag (ahq _ omg omg), aag (ahq _ omg omg), h1, zab]
  simp only
  rw [aag (ahq _ omg omg), h6, zab]
  exact ⟨e, rfl, by omega⟩
theorem wmid (x : Int) (h0 : 0 ≤ x) (h1 : x ≤ 100000) : zaa .i64 ((zaa .u64 x) / 2) = x / 2 := by
  rw [IntKind.wrap_u64, Int.emod_eq_of_lt h0 omg, wrap64_id omg omg]
theorem tM0 (fu : Nat) (data : List PP) (hl : data.length ≤ 100) (a : Int) (ha : 0 ≤ a ∧ a < (data.length : Int)) (t : Nat) : ∀ (i j : Int) (fk : Nat), j - i ≤ (t : Int) → t < fk → 0 ≤ i → i ≤ j → j ≤ (data.length : Int) →
    ∃ k, aan fu data a fk i j = some k ∧ i ≤ k ∧ k ≤ j := by
  induction t with
  | zero =>
    intro i j fk h hf h0 hij hj
    obtain ⟨fk, rfl⟩ := fkx fk
    rw [aan, if_neg omg]
    exact ⟨i, rfl, by omega, hij⟩
  | succ t ih =>
    intro i j fk h hf h0 hij hj
    obtain ⟨fk, rfl⟩ := fkx fk
    rw [aan]
    by_cases hlt : i < j
    · rw [if_pos hlt, aag (ahq _ omg omg), wmid _ omg omg]
      have hm : 0 ≤ (i + j) / 2 ∧ (i + j) / 2 < (data.length : Int) := by omega
      simp only [aag hm, aag ha, hs1_eq, zab]
      by_cases hc : cmpV (el data ((i + j) / 2)).1 (el data a).1 < 0
      · rw [if_pos hc, aag (ahq _ omg omg)]
        obtain ⟨k, h1, h2, h3⟩ := ih ((i + j) / 2 + 1) j fk omg omg omg omg hj
        exact ⟨k, h1, by omega, h3⟩
      · rw [if_neg hc]
        obtain ⟨k, h1, h2, h3⟩ := ih i ((i + j) / 2) fk omg omg omg omg omg
        exact ⟨k, h1, h2, by omega⟩
    · rw [if_neg hlt]; exact ⟨i, rfl, by omega, hij⟩
theorem tM2 (fu : Nat) (data : List PP) (hl : data.length ≤ 100) (a : Int) (ha : 0 ≤ a ∧ a < (data.length : Int)) (t : Nat) : ∀ (i j : Int) (fk : Nat), j - i ≤ (t : Int) → t < fk → 0 ≤ i → i ≤ j → j ≤ (data.length : Int) →
    ∃ k, aam fu data a fk i j = some k ∧ i ≤ k ∧ k ≤ j := by
  induction t with
  | zero =>
    intro i j fk h hf h0 hij hj
    obtain ⟨fk, rfl⟩ := fkx fk
    rw [aam, if_neg omg]
    exact ⟨i, rfl, by omega, hij⟩
  | succ t ih =>
    intro i j fk h hf h0 hij hj
    obtain ⟨fk, rfl⟩ := fkx fk
    rw [aam]
    by_cases hlt : i < j
    · rw [if_pos hlt, aag (ahq _ omg omg), wmid _ omg omg]
      have hm : 0 ≤ (i + j) / 2 ∧ (i + j) / 2 < (data.length : Int) := by omega
      simp only [aag hm, aag ha, hs1_eq, zab]
      by_cases hc : cmpV (el data a).1 (el data ((i + j) / 2)).1 < 0
      · rw [if_pos hc]
        obtain ⟨k, h1, h2, h3⟩ := ih i ((i + j) / 2) fk omg omg omg omg omg
        exact ⟨k, h1, h2, by omega⟩
      · rw [if_neg hc, aag (ahq _ omg omg)]
        obtain ⟨k, h1, h2, h3⟩ := ih ((i + j) / 2 + 1) j fk omg omg omg omg hj
        exact ⟨k, h1, by omega, h3⟩
    · rw [if_neg hlt]; exact ⟨i, rfl, by omega, hij⟩
theorem tM1 (fu : Nat) (v : Int) (t : Nat) : ∀ (data : List PP) (k : Int) (fk : Nat), v - k ≤ (t : Int) → t < fk → 0 ≤ k → v ≤ (data.length : Int) → 0 ≤ v → k ≤ 1000 → data.length ≤ 100 → Keeps (aau fu v fk data k) data.length := by
  induction t with
  | zero =>
    intro data k fk h hf hk hv h0 h1 hl
    obtain ⟨fk, rfl⟩ := fkx fk
    rw [aau, aag (ahq _ omg omg), if_neg omg]
    exact ⟨data, rfl, rfl⟩
  | succ t ih =>
    intro data k fk h hf hk hv h0 h1 hl
    obtain ⟨fk, rfl⟩ := fkx fk
    rw [aau, aag (ahq _ omg omg)]
    by_cases hlt : k < v - 1
    · have hA : (0 : Int) ≤ k ∧ k < (data.length : Int) := by omega
      have hB : (0 : Int) ≤ k + 1 ∧ k + 1 < (data.length : Int) := by omega
      rw [if_pos hlt]
      simp only [aag hA, aag hB, aag (ahq (k + 1) omg omg), zaq]
      have := ih (zaf (zaf data k.toNat (el data (k + 1))) (k + 1).toNat (el data k)) (k + 1) fk omg omg omg (by simp only [zaq]; omega) h0 omg (by simp only [zaq]; omega)
      rw [zaq, zaq] at this
      exact this
    · rw [if_neg hlt]; exact ⟨data, rfl, rfl⟩
theorem tM3 (fu : Nat) (v : Int) (hv : 0 ≤ v) (t : Nat) : ∀ (data : List PP) (k : Int) (fk : Nat), k - v ≤ (t : Int) → t < fk → k < (data.length : Int) → data.length ≤ 100 → Keeps (aat fu v fk data k) data.length := by
  induction t with
  | zero =>
    intro data k fk h hf hk hl
    obtain ⟨fk, rfl⟩ := fkx fk
    rw [aat, if_neg omg]
    exact ⟨data, rfl, rfl⟩
  | succ t ih =>
    intro data k fk h hf hk hl
    obtain ⟨fk, rfl⟩ := fkx fk
    rw [aat]
    by_cases hlt : v < k
    · have hA : (0 : Int) ≤ k ∧ k < (data.length : Int) := by omega
      have hB : (0 : Int) ≤ k - 1 ∧ k - 1 < (data.length : Int) := by omega
      rw [if_pos hlt]
      simp only [aag hA, aag hB, aag (ahq (k - 1) omg omg), zaq]
      have := ih (zaf (zaf data k.toNat (el data (k - 1))) (k - 1).toNat (el data k)) (k - 1) fk omg omg (by simp only [zaq]; omega) (by simp only [zaq]; omega)
      rw [zaq, zaq] at this
      exact this
    · rw [if_neg hlt]; exact ⟨data, rfl, rfl⟩
theorem tM4 (fu : Nat) (data : List PP) (hl : data.length ≤ 100) (a m b : Int) (h0 : 0 ≤ a) (hab : a + b ≤ 200) (hb0 : 0 ≤ b) (hm0 : 0 ≤ m) (hm1 : m ≤ 100) (lo hi : Int) (hlo : 0 ≤ lo) (hhi : hi ≤ (data.length : Int))
    (hp : ∀ c, lo ≤ c → c < hi → 0 ≤ ((a + b) / 2 + m - 1) - c ∧ ((a + b) / 2 + m - 1) - c < (data.length : Int)) (t : Nat) : ∀ (i j : Int) (fk : Nat), j - i ≤ (t : Int) → t < fk → lo ≤ i → i ≤ j → j ≤ hi →
    ∃ k, aal fu data a m b fk i j = some k ∧ i ≤ k ∧ k ≤ j := by
  induction t with
  | zero =>
    intro i j fk h hf h1 hij hj
    obtain ⟨fk, rfl⟩ := fkx fk
    rw [aal, if_neg omg]
    exact ⟨i, rfl, by omega, hij⟩
  | succ t ih =>
    intro i j fk h hf h1 hij hj
    obtain ⟨fk, rfl⟩ := fkx fk
    rw [aal]
    by_cases hlt : i < j
    · have hpc := hp ((i + j) / 2) omg omg
      have hm : 0 ≤ (i + j) / 2 ∧ (i + j) / 2 < (data.length : Int) := by omega
      rw [if_pos hlt, aag (ahq _ omg omg), wmid (i + j) omg omg, wmid (a + b) omg omg]
      simp only [aag hm, aag hpc, aag (ahq ((a + b) / 2 + m - 1 - (i + j) / 2) omg omg), hs1_eq, zab]
      by_cases hc : cmpV (el data ((a + b) / 2 + m - 1 - (i + j) / 2)).1 (el data ((i + j) / 2)).1 < 0
      · rw [if_pos hc]
        obtain ⟨k, g1, g2, g3⟩ := ih i ((i + j) / 2) fk omg omg omg omg omg
        exact ⟨k, g1, g2, by omega⟩
      · rw [if_neg hc, aag (ahq _ omg omg)]
        obtain ⟨k, g1, g2, g3⟩ := ih ((i + j) / 2 + 1) j fk omg omg omg omg hj
        exact ⟨k, g1, by omega, g3⟩
    · rw [if_neg hlt]; exact ⟨i, rfl, by omega, hij⟩
theorem tSym (z : Nat) : ∀ (fu : Nat) (data : List PP) (a m b : Int), b - a ≤ (z : Int) → z + 1001 ≤ fu → 0 ≤ a → a < m → m < b → b ≤ (data.length : Int) → data.length ≤ 100 → Keeps (aaj fu data a m b) data.length := by
  induction z with
  | zero => intro fu data a m b h; omega
  | succ z ih =>
    intro fu data a m b h hf ha ham hmb hb hl
    obtain ⟨fu, rfl⟩ : ∃ k, fu = k + 1 := ⟨fu - 1, by omega⟩
    rw [aaj, aag (ahq _ omg omg)]
    by_cases h1 : m - a = 1
    · obtain ⟨k, g1, g2, g3⟩ := tM0 fu data hl a omg 200 m b fu omg omg omg omg hb
      obtain ⟨d, g4, g5⟩ := tM1 fu k 200 data a fu omg omg ha omg omg omg hl
      rw [if_pos h1, g1, zab, g4, zab, zab, Sum.elim_inr]
      exact ⟨d, rfl, g5⟩
    · rw [if_neg h1, zab, zav, aag (ahq _ omg omg)]
      by_cases h2 : b - m = 1
      · obtain ⟨k, g1, g2, g3⟩ := tM2 fu data hl m omg 200 a m fu omg omg ha omg omg
        obtain ⟨d, g4, g5⟩ := tM3 fu k omg 200 data m fu omg omg omg hl
        rw [if_pos h2, g1, zab, g4, zab, zab, Sum.elim_inr]
        exact ⟨d, rfl, g5⟩
      · rw [if_neg h2, zab, zav, aag (ahq _ omg omg), wmid (a + b) omg omg, aag (ahq _ omg omg)]
        have hpair : ∃ lo hi : Int, (if (a + b) / 2 < m then gd (acw ((a + b) / 2 + m - b)) (some ((a + b) / 2 + m - b, (a + b) / 2)) else some (a, m)) = some (lo, hi) ∧ a ≤ lo ∧ lo ≤ hi ∧ hi ≤ m ∧ hi ≤ (a + b) / 2 ∧ (∀ c, lo ≤ c → c ≤ hi → (a + b) / 2 + m - c ≤ b ∧ m ≤ (a + b) / 2 + m - c) := by
          by_cases hmm : (a + b) / 2 < m
          · exact ⟨_, _, by rw [if_pos hmm, aag (ahq _ omg omg)], by omega, by omega, by omega, by omega, fun c h1 h2 => by omega⟩
          · exact ⟨a, m, by rw [if_neg hmm], by omega, by omega, by omega, by omega, fun c h1 h2 => by omega⟩
        obtain ⟨lo, hi, e, p1, p2, p3, p4, p5⟩ := hpair
        rw [e, zab, aag (ahq _ omg omg)]
        simp only
        obtain ⟨st, g1, g2, g3⟩ := tM4 fu data hl a m b ha omg omg omg omg lo hi omg omg (fun c c1 c2 => by have := p5 c c1 omg; omega) 200 lo hi fu omg omg omg p2 omg
        have p6 := p5 st g2 g3
        rw [g1, zab, aag (ahq _ omg omg)]
        have hrot : ∃ d1, (((if st < m then some (decide (m < (a + b) / 2 + m - st)) else some false)).bind fun (v1323 : Bool) => (bif v1323 then ((abl fu data st m ((a + b) / 2 + m - st)).bind fun (y1328 : List PP) => some y1328) else some data)) = some d1 ∧ d1.length = data.length := by
          by_cases c1 : st < m
          · rw [if_pos c1, zab]
            by_cases c2 : m < (a + b) / 2 + m - st
            · obtain ⟨d, k1, k2⟩ := tRot fu omg data st m ((a + b) / 2 + m - st) omg c1 c2 omg hl
              rw [decide_eq_true c2, cond_true, k1]; exact ⟨d, rfl, k2⟩
            · rw [decide_eq_false c2]; exact ⟨data, rfl, rfl⟩
          · rw [if_neg c1]; exact ⟨data, rfl, rfl⟩
        obtain ⟨d1, r1, r2⟩ := hrot
        rw [r1, zab]
        have hs1 : ∃ d2, (((if a < st then some (decide (st < (a + b) / 2)) else some false)).bind fun (v1360 : Bool) => (bif v1360 then ((aaj fu d1 a st ((a + b) / 2)).bind fun (y1365 : List PP) => some y1365) else some d1)) = some d2 ∧ d2.length = data.length := by
          by_cases c1 : a < st
          · rw [if_pos c1, zab]
            by_cases c2 : st < (a + b) / 2
            · obtain ⟨d, k1, k2⟩ := ih fu d1 a st ((a + b) / 2) omg omg ha c1 c2 omg omg
              rw [decide_eq_true c2, cond_true, k1]; exact ⟨d, rfl, by omega⟩
            · rw [decide_eq_false c2]; exact ⟨d1, rfl, r2⟩
          · rw [if_neg c1]; exact ⟨d1, rfl, r2⟩
        obtain ⟨d2, s1, s2⟩ := hs1
        rw [s1, zab]
        by_cases c1 : (a + b) / 2 < (a + b) / 2 + m - st
        · rw [if_pos c1, zab]
          by_cases c2 : (a + b) / 2 + m - st < b
          · obtain ⟨d, k1, k2⟩ := ih fu d2 ((a + b) / 2) ((a + b) / 2 + m - st) b omg omg omg c1 c2 omg omg
            rw [decide_eq_true c2, cond_true, k1]; exact ⟨d, rfl, by omega⟩
          · rw [decide_eq_false c2]; exact ⟨d2, rfl, s2⟩
        · rw [if_neg c1]; exact ⟨d2, rfl, s2⟩
open Bool renaming and_eq_true → zau, not_false → zaz, not_true → zat, true_and → zaA
open Go.Lib renaming cut → zaB, index → zap
open List renaming length_cons → zam, length_nil → zaw, length_singleton → zai
theorem tSt0 (n : Nat) (t : Nat) : ∀ (data : List PP) (a b fk : Nat), n < b + t → t < fk → a ≤ n → n = data.length → data.length ≤ 100 →
    ∃ d a' : _, aah FU (n : Int) fk data (a : Int) (b : Int) = some (d, ((a' : Nat) : Int)) ∧ d.length = data.length ∧ a' ≤ n := by
  induction t with
  | zero =>
    intro data a b fk h hf ha hn hl
    obtain ⟨fk, rfl⟩ := fkx fk
    rw [aah, if_neg omg]
    exact ⟨data, a, rfl, rfl, ha⟩
  | succ t ih =>
    intro data a b fk h hf ha hn hl
    obtain ⟨fk, rfl⟩ := fkx fk
    rw [aah]
    by_cases hb : (b : Int) ≤ (n : Int)
    · obtain ⟨d, h1, h2⟩ := tIns FU (by rw [aks]; omega) a b data omg omg hl
      rw [if_pos hb, h1, zab, aag (ahq _ omg omg)]
      have := ih d b (b + 20) fk omg omg omg omg omg
      rw [h2] at this
      exact this
    · rw [if_neg hb]; exact ⟨data, a, rfl, rfl, ha⟩
theorem tSt2 (n bs : Nat) (hbs : 1 ≤ bs) (hbs2 : bs ≤ 1000) (t : Nat) : ∀ (data : List PP) (a b fk : Nat), n < b + t → t < fk → a ≤ n → b = a + 2 * bs → n = data.length → data.length ≤ 100 →
    ∃ d a' : _, aao FU (n : Int) (bs : Int) fk data (a : Int) (b : Int) = some (d, ((a' : Nat) : Int)) ∧ d.length = data.length ∧ a' ≤ n := by
  induction t with
  | zero =>
    intro data a b fk h hf ha hab hn hl
    obtain ⟨fk, rfl⟩ := fkx fk
    rw [aao, if_neg omg]
    exact ⟨data, a, rfl, rfl, ha⟩
  | succ t ih =>
    intro data a b fk h hf ha hab hn hl
    obtain ⟨fk, rfl⟩ := fkx fk
    rw [aao]
    by_cases hb : (b : Int) ≤ (n : Int)
    · obtain ⟨d, h1, h2⟩ := tSym 100 FU data (a : Int) ((a : Int) + (bs : Int)) (b : Int) omg (by rw [aks]; omega) omg omg omg omg hl
      rw [if_pos hb, aag (ahq _ omg omg), h1, zab, aag (ahq _ omg omg), aag (ahq _ omg omg)]
      have := ih d b (b + 2 * bs) fk omg omg omg rfl omg omg
      rw [h2] at this
      have e : (b : Int) + 2 * (bs : Int) = ((b + 2 * bs : Nat) : Int) := by omega
      rw [e]
      exact this
    · rw [if_neg hb]; exact ⟨data, a, rfl, rfl, ha⟩
theorem tSt1 (n : Nat) (t : Nat) : ∀ (data : List PP) (bs fk : Nat), n < bs + t → t < fk → 1 ≤ bs → bs ≤ 200 → n = data.length → data.length ≤ 100 → Keeps (aad FU (n : Int) fk data (bs : Int)) data.length := by
  induction t with
  | zero =>
    intro data bs fk h hf h1 h2 hn hl
    obtain ⟨fk, rfl⟩ := fkx fk
    rw [aad, if_neg omg]
    exact ⟨data, rfl, rfl⟩
  | succ t ih =>
    intro data bs fk h hf h1 h2 hn hl
    obtain ⟨fk, rfl⟩ := fkx fk
    rw [aad]
    by_cases hb : (bs : Int) < (n : Int)
    · obtain ⟨d, a', g1, g2, g3⟩ := tSt2 n bs h1 omg 200 data 0 (2 * bs) FU omg (by rw [aks]; omega) omg omg hn hl
      have g1' : aao FU (n : Int) (bs : Int) FU data (0 : Int) ((2 : Int) * (bs : Int)) = some (d, ((a' : Nat) : Int)) := g1
      rw [if_pos hb, aag (ahq _ omg omg), g1', zab]
      simp only
      rw [aag (ahq _ omg omg)]
      have e : (bs : Int) * 2 = ((bs * 2 : Nat) : Int) := by omega
      by_cases hc : (a' : Int) + (bs : Int) < (n : Int)
      · obtain ⟨d2, k1, k2⟩ := tSym 100 FU d (a' : Int) ((a' : Int) + (bs : Int)) (n : Int) omg (by rw [aks]; omega) omg omg omg omg omg
        rw [if_pos hc, k1, zab, aag (ahq _ omg omg), e]
        have := ih d2 (bs * 2) fk omg omg omg omg omg omg
        rw [k2, g2] at this
        exact this
      · rw [if_neg hc, aag (ahq _ omg omg), e]
        have := ih d (bs * 2) fk omg omg omg omg omg omg
        rw [g2] at this
        exact this
    · rw [if_neg hb]; exact ⟨data, rfl, rfl⟩
theorem sorted_keeps (l : List PP) (hl : l.length ≤ 100) : Keeps (afv FU l) l.length := by
  unfold afv afu abb abw abx
  obtain ⟨d, a', g1, g2, g3⟩ := tSt0 l.length 200 l 0 20 FU omg (by rw [aks]; omega) omg rfl hl
  have g1' : aah FU (l.length : Int) FU l (0 : Int) (20 : Int) = some (d, ((a' : Nat) : Int)) := g1
  obtain ⟨d2, k1, k2⟩ := tIns FU (by rw [aks]; omega) a' l.length d omg omg omg
  obtain ⟨d3, m1, m2⟩ := tSt1 l.length 200 d2 20 FU omg (by rw [aks]; omega) omg omg omg omg
  have m1' : aad FU (l.length : Int) FU d2 (20 : Int) = some d3 := m1
  rw [zab, collect_eq l omg, zab, g1', zab]
  simp only
  rw [k1, zab, m1', zab, zab, zab]
  exact ⟨d3, rfl, by omega⟩
theorem sorted_eq (l : List PP) (hl : l.length < 20) : afv FU l = some (akw l) := by
  unfold afv afu abb abw abx
  obtain ⟨m, hm⟩ : ∃ m, FU = m + 1 := ⟨FU - 1, by rw [aks]⟩
  have g1 : aah FU (l.length : Int) FU l (0 : Int) (20 : Int) = some (l, 0) := by
    have : ∀ k, aah FU (l.length : Int) (k + 1) l (0 : Int) (20 : Int) = some (l, 0) := fun k => by
      rw [aah, if_neg omg]
    have := this m
    rw [← hm] at this
    exact this
  have g2 : aad FU (l.length : Int) FU (akw l) (20 : Int) = some (akw l) := by
    have : ∀ k, aad FU (l.length : Int) (k + 1) (akw l) (20 : Int) = some (akw l) := fun k => by
      rw [aad, if_neg omg]
    have := this m
    rw [← hm] at this
    exact this
  rw [zab, collect_eq l omg, zab, g1, zab]
  simp only
  rw [ins_eq l omg, zab, g2]; rfl
theorem idx47 (c : UInt8) : ∀ v : Str, (zap v [c] = -1 ∧ ∀ b ∈ v, b ≠ c) ∨ (∃ f s2, v = f ++ c :: s2 ∧ (∀ b ∈ f, b ≠ c) ∧ zap v [c] = (f.length : Int))
  | [] => .inl ⟨rfl, by simp⟩
  | b :: l => by
    rw [index_cons]
    have e : ([c] : Str).isPrefixOf (b :: l) = (c == b) := by simp [List.isPrefixOf]
    rw [e]
    by_cases h : b = c
    · subst h
      right
      exact ⟨[], l, rfl, by simp, by rw [if_pos (by simp)]; rfl⟩
    · rw [if_neg (by simpa using fun x => h x.symm)]
      rcases idx47 c l with ⟨h1, h2⟩ | ⟨f, s2, h1, h2, h3⟩
      · left
        rw [if_pos h1]
        exact ⟨rfl, fun x hx => by rcases List.mem_cons.1 hx with rfl | hx; exact h; exact h2 x hx⟩
      · right
        refine ⟨b :: f, s2, by rw [h1]; rfl, fun x hx => by rcases List.mem_cons.1 hx with rfl | hx; exact h; exact h2 x hx, ?_⟩
        rw [if_neg omg, h3, zam]; omega
def cutOk (v : Str) : Bool := ajg (zaB v [47]).1 && (!(zaB v [47]).2.2 || ajg (zaB v [47]).2.1)
theorem tok47 : aba 47 = false := by decide
theorem span_all_iff (p : UInt8 → Bool) (l : Str) : l.all p = decide (ajv p l = l.length) := by
  have := span_eq_iff p l
  rw [Bool.eq_iff_iff, decide_eq_true_eq]; exact this.symm
theorem span_part (p : UInt8 → Bool) : ∀ (f : Str) (c : UInt8) (s2 : Str), f.all p = false → ajv p (f ++ c :: s2) < f.length ∧ p (at_ (f ++ c :: s2) (ajv p (f ++ c :: s2) : Int)) = false
  | [], c, s2, h => by cases h
  | a :: f, c, s2, h => by
    cases ha : p a with
    | false =>
      rw [List.cons_append, span_no p a _ ha]
      exact ⟨by simp, by simpa [at_] using ha⟩
    | true =>
      rw [List.all_cons, ha, zaA] at h
      have ih := span_part p f c s2 h
      have e : ajv p (a :: f ++ c :: s2) = ajv p (f ++ c :: s2) + 1 := by rw [List.cons_append, ajv, if_pos ha]
      rw [e]
      refine ⟨by rw [zam]; omega, ?_⟩
      have := ih.2
      simpa [at_] using this
theorem item_cut (v : Str) : cutOk v = decide (v ≠ [] ∧ itemE v = v.length) := by
  unfold cutOk itemE
  rw [skipL_zero, cut_eq]
  have hle := anh aba v
  rcases idx47 47 v with ⟨h1, h2⟩ | ⟨f, s2, h1, h2, h3⟩
  · rw [if_pos h1]
    simp only [zaz, Bool.true_or, Bool.and_true]
    have hs : akh v (ajv aba v) 47 = false := by
      cases h : akh v (ajv aba v) 47 with
      | false => rfl
      | true =>
        have := amk h
        exact absurd this.2 (h2 _ (at_mem v _ this.1))
    rw [hs, if_neg (show ¬ (false = true) by decide)]
    unfold ajg
    rw [span_all_iff, Bool.eq_iff_iff]
    simp only [zau, Bool.not_eq_true', List.isEmpty_eq_false_iff, decide_eq_true_eq]
    constructor
    · rintro ⟨a, b⟩
      have := List.length_pos_iff.2 a
      exact ⟨a, by rw [if_neg omg]; exact b⟩
    · rintro ⟨a, b⟩
      have := List.length_pos_iff.2 a
      refine ⟨a, ?_⟩
      split at b
      · omega
      · exact b
  · rw [if_neg omg, h3]
    have et : ((f.length : Nat) : Int).toNat = f.length := by omega
    have e1 : v.take f.length = f := by rw [h1, List.take_left]
    have e2 : v.drop (f.length + ([47] : Str).length) = s2 := by
      rw [h1, zai, show f ++ 47 :: s2 = (f ++ [47]) ++ s2 by simp, show f.length + 1 = (f ++ [47]).length by simp, List.drop_left]
    rw [et, e1, e2]
    simp only [zat, Bool.false_or]
    have hvl : v.length = f.length + 1 + s2.length := by rw [h1]; simp; omega
    have hne : v ≠ [] := by intro e; rw [e, zaw] at hvl; omega
    cases hf : f.all aba with
    | false =>
      have hsp := span_part aba f 47 s2 hf
      rw [← h1] at hsp
      have hs : akh v (ajv aba v) 47 = false := by
        cases h : akh v (ajv aba v) 47 with
        | false => rfl
        | true =>
          exfalso
          have ha := (amk h).2
          have hm : at_ v (ajv aba v : Int) ∈ f := by
            have : at_ v (ajv aba v : Int) = at_ f (ajv aba v : Int) := by
              rw [h1]
              simp only [at_, List.getD_eq_getElem?_getD]
              rw [List.getElem?_append_left (by rw [← h1]; omega)]
            rw [this]; exact at_mem f _ hsp.1
          exact h2 _ hm ha
      have ht : ajg f = false := by unfold ajg; rw [hf, Bool.and_false]
      rw [ht, Bool.false_and, hs, if_neg (show ¬ (false = true) by decide)]
      symm
      rw [decide_eq_false_iff_not]
      rintro ⟨_, b⟩
      split at b <;> omega
    | true =>
      have hsp : ajv aba v = f.length := by rw [h1, span_app aba f _ hf, span_no aba 47 s2 tok47]; omega
      have hat : at_ v ((f.length : Nat) : Int) = 47 := by rw [h1, at_mid]
      have hs : akh v (ajv aba v) 47 = true := by
        unfold akh
        rw [hsp, hat, decide_eq_true omg]; rfl
      have hsk : ach aba v ((f.length + 1 : Nat) : Int) = f.length + 1 + ajv aba s2 := by
        unfold ach
        rw [aia _ _ omg]
        have : v.drop (f.length + 1) = s2 := by rw [← e2, zai]
        rw [this]
      rw [hs, if_pos rfl, hsp, hsk]
      unfold ajg
      rw [hf, Bool.and_true, span_all_iff]
      have hl2 := anh aba s2
      rw [Bool.eq_iff_iff]
      simp only [zau, Bool.not_eq_true', List.isEmpty_eq_false_iff, decide_eq_true_eq]
      constructor
      · rintro ⟨a, b, c⟩
        have ha := List.length_pos_iff.2 a
        have hb := List.length_pos_iff.2 b
        refine ⟨hne, ?_⟩
        rw [if_neg omg, if_neg omg]; omega
      · rintro ⟨_, b⟩
        by_cases h0 : f.length = 0
        · rw [if_pos h0] at b; omega
        · rw [if_neg h0] at b
          by_cases h4 : f.length + 1 + ajv aba s2 = f.length + 1
          · rw [if_pos h4] at b; omega
          · rw [if_neg h4] at b
            exact ⟨fun e => h0 (by rw [e]; rfl), fun e => by rw [e] at h4; simp [ajv] at h4, by omega⟩
theorem ppM_len (l : List PP) (hb : ∀ p ∈ l, p.1.length ≤ 4194304 ∧ p.2.1.length ≤ 4194304) : (ppM l).1.length ≤ 256000000 := by
  unfold ppM
  split
  · simp
  · rename_i h
    cases hp : ppL [] l with
    | none => simp
    | some t =>
      have := ppL_len l [] t hb hp
      simp only
      omega
def prItem (x : Str × List PP) : Str × UInt8 := if cutOk x.1 = true ∧ (ppM (akw x.2)).2 = 0 then (x.1 ++ (ppM (akw x.2)).1, 0) else ([], 2)
theorem long_eq2 (l : List PP) (h : 16 < l.length) : adi FU l = some ([], 2) := by
  unfold adi; rw [if_pos omg]
theorem printItem_eq (x : Str × List PP) (h1 : x.1.length ≤ 4194304) (hl : x.2.length ≤ 40) (hb : ∀ p ∈ x.2, p.1.length ≤ 4194304 ∧ p.2.1.length ≤ 4194304) : agy FU x = some (prItem x) := by
  have hb' : ∀ p ∈ akw x.2, p.1.length ≤ 4194304 ∧ p.2.1.length ≤ 4194304 := fun p hp => hb p (isort_mem _ p hp)
  have hil := isort_len x.2
  have hpl := ppM_len (akw x.2) hb'
  have hc := cut_len x.1 [47]
  unfold agy prItem
  rw [aag omg, token_eq _ omg, zab]
  have e : (bif (!ajg (zaB x.1 [47]).1) then some true else (bif ((zaB x.1 [47]).2.2) then ((afk FU ((zaB x.1 [47]).2.1)).bind fun (y31 : Bool) => some (!y31)) else some false)) = some (!cutOk x.1) := by
    unfold cutOk
    rw [token_eq _ omg]
    cases ajg (zaB x.1 [47]).1 <;> cases (zaB x.1 [47]).2.2 <;> simp
  rw [e, zab]
  cases hk : cutOk x.1 with
  | false => rw [zaz, cond_true, if_neg (fun h => absurd h.1 (by decide))]
  | true =>
    rw [zat, cond_false]
    obtain ⟨y, hy1, hy2⟩ : ∃ y, ((afv FU x.2).bind fun (y39 : List PP) => ((adi FU y39).bind fun (y47 : (Str × UInt8)) => (if y47.2 = (0 : UInt8) then (gd (x.1.length + y47.1.length ≤ 9223372036854775807) <| some (x.1 ++ y47.1, (0 : UInt8))) else some (([] : Str), (2 : UInt8))))) = (if (ppM (akw x.2)).2 = (0 : UInt8) then (gd (x.1.length + (ppM (akw x.2)).1.length ≤ 9223372036854775807) <| some (x.1 ++ (ppM (akw x.2)).1, (0 : UInt8))) else some (([] : Str), (2 : UInt8))) ∧ y = 0 := by
      refine ⟨0, ?_, rfl⟩
      by_cases h16 : 16 < x.2.length
      · obtain ⟨d, g1, g2⟩ := sorted_keeps x.2 omg
        have hm : ppM (akw x.2) = ([], 2) := by unfold ppM; rw [if_pos omg]
        rw [g1, zab, long_eq2 d omg, zab, hm]
      · rw [sorted_eq x.2 omg, zab, printParams_eq _ hb', zab]
    rw [hy1]
    by_cases h4 : (ppM (akw x.2)).2 = 0
    · rw [if_pos h4, aag omg, if_pos ⟨rfl, h4⟩]
    · rw [if_neg h4, if_neg (fun h => h4 h.2)]
theorem same_lp2 (X : List PP) (hX : X.length ≤ 4194304) (n : Nat) : ∀ (k fk : Nat), k + n = X.length → n < fk → adp FU X X fk (k : Int) = some (.inl ()) := by
  induction n with
  | zero =>
    intro k fk hk hf
    obtain ⟨fk, rfl⟩ := fkx fk
    rw [adp, if_neg omg]
  | succ n ih =>
    intro k fk hk hf
    obtain ⟨fk, rfl⟩ := fkx fk
    have hin : (0 : Int) ≤ (k : Int) ∧ (k : Int) < (X.length : Int) := by omega
    rw [adp, if_pos hin.2, aag hin, aag hin, aag hin, aag hin, if_pos rfl, aag (akt _ omg omg)]
    exact ih (k + 1) fk omg omg
theorem sameParams_self (X : List PP) (hX : X.length ≤ 4194304) : agw FU X X = some true := by
  have := same_lp2 X hX X.length 0 FU omg (by rw [aks]; omega)
  have this' : adp FU X X FU (0 : Int) = _ := this
  unfold agw
  rw [if_pos rfl, this']; rfl
theorem skipA (p : UInt8 → Bool) (s A B : Str) (h : s = A ++ B) : ach p s (A.length : Int) = A.length + ajv p B := by
  subst h
  unfold ach
  rw [aia _ _ (by rw [List.length_append]; omega), List.drop_left]
theorem atA (s A B : Str) (c : UInt8) (h : s = A ++ c :: B) : at_ s (A.length : Int) = c := by rw [h, at_mid]
theorem seesA (s A B : Str) (b : UInt8) (h : s = A ++ B) : akh s A.length b = decide (B.head? = some b) := by
  subst h
  unfold akh
  cases B with
  | nil => simp
  | cons c B =>
    rw [at_mid, decide_eq_true (by rw [List.length_append, List.length_cons]; omega), Bool.true_and, List.head?_cons]
    by_cases h : c = b
    · subst h; simp
    · simp [h]
theorem subA (s A B C : Str) (h : s = A ++ (B ++ C)) : sub s (A.length : Int) ((A.length + B.length : Nat) : Int) = B := by
  subst h
  unfold sub
  rw [Int.toNat_natCast, Int.toNat_natCast, List.drop_left, Nat.add_sub_cancel_left, List.take_left]
theorem amw (p : UInt8 → Bool) (B : Str) (h : ∀ c, B.head? = some c → p c = false) : ajv p B = 0 := by
  cases B with
  | nil => rfl
  | cons c B => exact span_no p c B (h c rfl)
theorem head_app (a b : Str) (h : a ≠ []) : (a ++ b).head? = a.head? := by
  cases a with
  | nil => exact absurd rfl h
  | cons x a => rfl
theorem head_all (p : UInt8 → Bool) (a : Str) (h : a.all p = true) (c : UInt8) (hc : a.head? = some c) : p c = true := by
  cases a with
  | nil => cases hc
  | cons x a =>
    rw [List.head?_cons, Option.some.injEq] at hc
    rw [List.all_cons, Bool.and_eq_true] at h
    rw [← hc]; exact h.1
theorem isTok_ne {v : Str} (h : ajg v = true) : v ≠ [] ∧ v.all aba = true := by
  unfold ajg at h
  rw [Bool.and_eq_true] at h
  refine ⟨fun e => ?_, h.2⟩
  subst e
  exact absurd h.1 (by decide)
theorem qs_yes (c : UInt8) (h : c = 34 ∨ c = 92) : ail c = [92, c] := by unfold ail; rw [if_pos h]
theorem qs_no (c : UInt8) (h : ¬ (c = 34 ∨ c = 92)) : ail c = [c] := by unfold ail; rw [if_neg h]
theorem unq_flat : ∀ (v rest : Str) (k : Nat) (acc : Str), v.any adg = false → unqL (v.flatMap ail ++ 34 :: rest) k acc = (acc ++ v, ((k + (v.flatMap ail).length + 1 : Nat) : Int), 0)
  | [], rest, k, acc, _ => by
    rw [List.flatMap_nil, List.nil_append, unqL_cons, if_pos rfl, List.append_nil, List.length_nil]
  | c :: v, rest, k, acc, h => by
    rw [List.any_cons, Bool.or_eq_false_iff] at h
    by_cases hq : c = 34 ∨ c = 92
    · have he : escapedB c = true := by rcases hq with rfl | rfl <;> decide
      have e : (c :: v).flatMap ail ++ 34 :: rest = 92 :: c :: (v.flatMap ail ++ 34 :: rest) := by rw [List.flatMap_cons, qs_yes c hq]; rfl
      rw [e, unqL_cons, if_neg (by decide), if_pos rfl, if_neg (by simp)]
      have ha : at_ (c :: (v.flatMap ail ++ 34 :: rest)) 0 = c := by simp [at_]
      rw [ha, if_pos he, List.drop_one, List.tail_cons, unq_flat v rest (k + 2) _ h.2, List.flatMap_cons, qs_yes c hq]
      simp only [List.append_assoc, List.singleton_append, List.length_append, List.length_cons, List.length_nil]
      congr 2
      omega
    · have e : (c :: v).flatMap ail ++ 34 :: rest = c :: (v.flatMap ail ++ 34 :: rest) := by rw [List.flatMap_cons, qs_no c hq]; rfl
      rw [e, unqL_cons, if_neg (fun h => hq (.inl h)), if_neg (fun h => hq (.inr h)), if_neg (by rw [h.1]; decide), unq_flat v rest (k + 1) _ h.2, List.flatMap_cons, qs_no c hq]
      simp only [List.append_assoc, List.singleton_append, List.length_append, List.length_cons, List.length_nil]
      congr 2
      omega
theorem unqA (s A v C : Str) (h : s = A ++ (quoT v ++ C)) (hv : v.any adg = false) : unqP8 s (A.length : Int) = (v, ((A.length + (quoT v).length : Nat) : Int), 0) := by
  have e : quoT v ++ C = 34 :: (v.flatMap ail ++ 34 :: C) := by unfold quoT; simp
  have hs : s = A ++ 34 :: (v.flatMap ail ++ 34 :: C) := by rw [h, e]
  have hl : s.length = A.length + (v.flatMap ail ++ 34 :: C).length + 1 := by rw [hs, List.length_append, List.length_cons]; omega
  have ha := atA s A _ 34 hs
  have hd : s.drop (A.length + 1) = v.flatMap ail ++ 34 :: C := by
    rw [hs, show A ++ 34 :: (v.flatMap ail ++ 34 :: C) = (A ++ [34]) ++ (v.flatMap ail ++ 34 :: C) by simp, show A.length + 1 = (A ++ [34]).length by simp, List.drop_left]
  unfold unqP8
  rw [if_neg (by omega), if_neg (by rintro (h | h); omega; exact h ha), Int.toNat_natCast, hd, unq_flat v C _ [] hv, List.nil_append]
  have hq : (quoT v).length = (v.flatMap ail).length + 2 := by unfold quoT; simp
  rw [hq]
  congr 2
  omega
section
variable (q : UInt8 → Bool) (h1 : ∀ c, hexB c = true → q (aki c) = true) (h2 : q 58 = true) (h3 : q 48 = true)
include h1 h2 h3
omit h2 in
theorem grpN_q (g : Str) (h : ama g = true) : ∀ c ∈ grpN g, q c = true := by
  have hx : g.all hexB = true := by unfold ama at h; simp only [Bool.and_eq_true] at h; exact h.2
  intro c hc
  unfold grpN at hc
  split at hc
  · rw [List.mem_singleton.1 hc]; exact h3
  · have hm : c ∈ lowP g := (List.dropWhile_suffix _).subset hc
    obtain ⟨d, hd, rfl⟩ := List.mem_map.1 hm
    exact h1 d (List.all_eq_true.1 hx d hd)
omit h1 h3 in
theorem join_q : ∀ (l : List Str), (∀ x ∈ l, ∀ c ∈ x, q c = true) → ∀ c ∈ Lib.join l [58], q c = true
  | [], _, c, hc => by simp [Lib.join, List.intercalate] at hc
  | [a], h, c, hc => by
    simp [Lib.join, List.intercalate] at hc
    exact h a (by simp) c hc
  | a :: b :: l, h, c, hc => by
    have e : Lib.join (a :: b :: l) [58] = a ++ (58 :: Lib.join (b :: l) [58]) := by simp [Lib.join, List.intercalate, List.intersperse]
    rw [e] at hc
    rcases List.mem_append.1 hc with hc | hc
    · exact h a (by simp) c hc
    · rcases List.mem_cons.1 hc with rfl | hc
      · exact h2
      · exact join_q (b :: l) (fun x hx => h x (List.mem_cons_of_mem _ hx)) c hc
omit h2 in
theorem grpList_q (s : Str) : ∀ x ∈ (ahe s).1, ∀ c ∈ x, q c = true := by
  intro x hx
  unfold ahe at hx
  split at hx
  · rename_i ha
    obtain ⟨y, hy, rfl⟩ := List.mem_map.1 hx
    exact grpN_q q h1 h3 y (List.all_eq_true.1 ha y hy)
  · simp at hx
omit h2 in
theorem grpL0_q (s : Str) : ∀ x ∈ (alu s).1, ∀ c ∈ x, q c = true := by
  intro x hx
  unfold alu at hx
  split at hx
  · simp at hx
  · exact grpList_q q h1 h3 s x hx
theorem grpsP_q (s : Str) : ∀ c ∈ (grpsP s).1, q c = true := by
  intro c hc
  unfold grpsP at hc
  split at hc
  · simp at hc
  · split at hc
    · exact join_q q h2 _ (grpList_q q h1 h3 s) c hc
    · split at hc
      · simp at hc
      · rcases List.mem_append.1 hc with hc | hc
        · rcases List.mem_append.1 hc with hc | hc
          · exact join_q q h2 _ (grpL0_q q h1 h3 _) c hc
          · have h58 : c = 58 := by simpa using hc
            rw [h58]; exact h2
        · exact join_q q h2 _ (grpL0_q q h1 h3 _) c hc
end
theorem hex_n93 : ∀ c : UInt8, hexB c = true → (!(aki c == 93)) = true := afs _ (by decide +kernel)
theorem dig_n91 : ∀ c : UInt8, ahx c = true → c ≠ 91 := afs _ (by decide +kernel)
theorem lab_n91 : ∀ c : UInt8, labB c = true → c ≠ 91 := afs _ (by decide +kernel)
theorem brV_form (v : Str) (h : brV v = true) : ∃ g : Str, v = 91 :: (g ++ [93]) ∧ (∀ c ∈ g, (!(c == 93)) = true) := by
  unfold brV at h
  simp only [Bool.and_eq_true, decide_eq_true_eq, beq_iff_eq] at h
  obtain ⟨⟨h1, h2⟩, h3⟩ := h
  have hm : 0 < v.length → (91 : UInt8) ∈ v := fun hl => by
    have := at_mem v 0 hl
    have e : at_ v ((0 : Nat) : Int) = 91 := h3
    rw [e] at this; exact this
  have hne := host_ne v h1 h2
  have hl := List.length_pos_iff.2 hne
  unfold hostP at h1 h2
  split at h1
  · rename_i hb
    rw [if_pos hb] at h2
    split at h1
    · rename_i hg
      rw [if_pos hg] at h2
      refine ⟨(grpsP (sub v 1 ((v.length : Int) - 1))).1, ?_, grpsP_q (fun c => !(c == 93)) hex_n93 (by decide) (by decide) _⟩
      exact h2.symm
    · cases h1
  · exfalso
    split at h1
    · rename_i hn
      unfold numsP at hn
      simp only [Bool.and_eq_true] at hn
      rcases spl_all 46 ahx v (fun x hx => (num_parts x (by rw [← oct_num]; exact List.all_eq_true.1 hn.1.2 x hx)).2.2) 91 (hm hl) with h | h
      · exact dig_n91 91 h rfl
      · exact absurd h (by decide)
    · split at h1
      · rename_i hn
        unfold namedP at hn
        simp only [Bool.and_eq_true] at hn
        rcases spl_all 46 labB v (fun x hx => by
          have := List.all_eq_true.1 hn.1.2 x hx
          unfold labOk at this
          simp only [Bool.and_eq_true] at this
          exact this.2) 91 (hm hl) with h | h
        · exact lab_n91 91 h rfl
        · exact absurd h (by decide)
      · cases h1
theorem valP_tok (s A v C : Str) (h : s = A ++ (v ++ C)) (hv : ajg v = true) (hC : ∀ c, C.head? = some c → aba c = false) : valP s A.length = (v, ((A.length + v.length : Nat) : Int), 0) := by
  obtain ⟨hne, hall⟩ := isTok_ne hv
  have hsk : ach aba s (A.length : Int) = A.length + v.length := by rw [skipA aba s A _ h, span_app aba v C hall, amw aba C hC]; rfl
  have hh : ∀ c : UInt8, aba c = false → akh s A.length c = false := fun c hc => by
    rw [seesA s A _ c h, head_app v C hne, decide_eq_false_iff_not]
    intro e
    rw [head_all aba v hall c e] at hc; cases hc
  have hl := List.length_pos_iff.2 hne
  unfold valP
  rw [hh 34 (by decide), if_neg (by decide), hh 91 (by decide), if_neg (by decide), hsk, if_neg (by omega), subA s A v C h]
theorem valP_quo (s A v C : Str) (h : s = A ++ (quoT v ++ C)) (hv : v.any adg = false) : valP s A.length = (v, ((A.length + (quoT v).length : Nat) : Int), 0) := by
  unfold valP
  rw [seesA s A _ 34 h, decide_eq_true (by unfold quoT; rfl), if_pos rfl, unqA s A v C h hv]
theorem valP_brk (s A v C : Str) (h : s = A ++ (v ++ C)) (hv : brV v = true) : valP s A.length = (v, ((A.length + v.length : Nat) : Int), 0) := by
  obtain ⟨g, hg, hq⟩ := brV_form v hv
  have hhead : (v ++ C).head? = some 91 := by rw [hg]; rfl
  have hsp : ajv (fun b => !(b == 93)) (s.drop A.length) = v.length - 1 := by
    rw [h, List.drop_left, hg, show (91 :: (g ++ [93])) ++ C = (91 :: g) ++ 93 :: C by simp, span_app _ _ _ (by
      rw [List.all_eq_true]
      intro c hc
      rcases List.mem_cons.1 hc with rfl | hc
      · decide
      · exact hq c hc), span_no _ 93 C (by decide)]
    simp
  have hl : 2 ≤ v.length := by rw [hg]; simp
  have hsl : s.length = A.length + v.length + C.length := by rw [h, List.length_append, List.length_append]; omega
  have hb := hv
  unfold brV at hb
  simp only [Bool.and_eq_true, decide_eq_true_eq] at hb
  have hmin : (min ((A.length + (v.length - 1) : Nat) + 1 : Int) (s.length : Int)) = ((A.length + v.length : Nat) : Int) := by omega
  unfold valP
  rw [seesA s A _ 34 h, hhead, decide_eq_false (by decide), if_neg (by decide), seesA s A _ 91 h, hhead, decide_eq_true rfl, if_pos rfl, hsp, hmin, subA s A v C h, if_pos hb.1.1, hb.1.2]
  congr 2
  omega
theorem alz : ∀ c : UInt8, aba c = true → abv c = false := afs _ (by decide +kernel)
theorem head_tok (v B : Str) (hv : ajg v = true) : ∀ c, (v ++ B).head? = some c → aba c = true := fun c hc => by
  obtain ⟨hne, hall⟩ := isTok_ne hv
  rw [head_app v B hne] at hc
  exact head_all aba v hall c hc
def vtx (v : Str) : Str := bif ajg v || brV v then v else quoT v
theorem vtx_val (s A v C : Str) (h : s = A ++ (vtx v ++ C)) (hv : v.any adg = false) (hC : ∀ c, C.head? = some c → aba c = false) : valP s A.length = (v, ((A.length + (vtx v).length : Nat) : Int), 0) := by
  unfold vtx at h ⊢
  cases h1 : ajg v with
  | true => rw [h1, Bool.true_or, cond_true] at h; rw [Bool.true_or, cond_true]; exact valP_tok s A v C h h1 hC
  | false =>
    cases h2 : brV v with
    | true => rw [h1, h2, Bool.or_true, cond_true] at h; rw [Bool.or_true, cond_true]; exact valP_brk s A v C h h2
    | false => rw [h1, h2, Bool.or_false, cond_false] at h; rw [Bool.or_false, cond_false]; exact valP_quo s A v C h hv
theorem vtx_blank (v C : Str) : ∀ c, (vtx v ++ C).head? = some c → abv c = false := by
  intro c hc
  unfold vtx at hc
  cases h1 : ajg v with
  | true => rw [h1, Bool.true_or, cond_true] at hc; exact alz c (head_tok v C h1 c hc)
  | false =>
    cases h2 : brV v with
    | true =>
      obtain ⟨g, hg, _⟩ := brV_form v h2
      rw [h1, h2, Bool.or_true, cond_true, hg] at hc
      have : c = 91 := by simpa using hc.symm
      rw [this]; decide
    | false =>
      rw [h1, h2, Bool.or_false, cond_false] at hc
      have : c = 34 := by unfold quoT at hc; simpa using hc.symm
      rw [this]; decide
theorem txt_eq (p : PP) (h : p.2.2 = true) : txt p = 61 :: vtx p.2.1 := by unfold txt vtx; rw [h]; rfl
theorem txt_no (p : PP) (h : p.2.2 = false) : txt p = [] := by unfold txt; rw [h]; rfl
theorem listA (s A C : Str) (p : PP) (h : s = A ++ (p.1 ++ (txt p ++ C))) (hn : ajg p.1 = true) (hlow : ajq p.1 = p.1) (hv : okV p = true) (hC : ∀ c, C.head? = some c → c = 59) :
    alj s A.length = (p, 0, 0, (s, ((A.length + (p.1.length + (txt p).length) : Nat) : Int))) := by
  obtain ⟨hne, hall⟩ := isTok_ne hn
  have hl := List.length_pos_iff.2 hne
  have hC' : ∀ f : UInt8 → Bool, f 59 = false → ∀ c, C.head? = some c → f c = false := fun f hf c hc => by rw [hC c hc]; exact hf
  have hstop : ∀ f : UInt8 → Bool, f 59 = false → f 61 = false → ∀ c, (txt p ++ C).head? = some c → f c = false := by
    intro f h59 h61 c hc
    cases h2 : p.2.2 with
    | true =>
      rw [txt_eq p h2, List.cons_append, List.head?_cons, Option.some.injEq] at hc
      rw [← hc]; exact h61
    | false => rw [txt_no p h2, List.nil_append] at hc; exact hC' f h59 c hc
  have ht : ach aba s (A.length : Int) = A.length + p.1.length := by
    rw [skipA aba s A _ h, span_app aba p.1 _ hall, amw aba _ (hstop aba (by decide) (by decide))]; rfl
  have hsub := subA s A p.1 _ h
  have h' : s = (A ++ p.1) ++ (txt p ++ C) := by rw [h, List.append_assoc]
  have hlen : (A ++ p.1).length = A.length + p.1.length := List.length_append
  have hy : ach abv s ((A.length + p.1.length : Nat) : Int) = A.length + p.1.length := by
    rw [← hlen, skipA abv s (A ++ p.1) _ h', amw abv _ (hstop abv (by decide) (by decide))]; rfl
  have hsee := seesA s (A ++ p.1) _ 61 h'
  rw [hlen] at hsee
  unfold alj
  rw [ht, if_neg (by omega), hy, hsee, hsub, hlow]
  cases h2 : p.2.2 with
  | false =>
    have hnil : p.2.1 = [] := by unfold okV at hv; rw [h2, cond_false] at hv; exact of_decide_eq_true hv
    have h61 : ¬ (txt p ++ C).head? = some 61 := fun e => by
      rw [txt_no p h2, List.nil_append] at e
      exact absurd (hC 61 e) (by decide)
    rw [decide_eq_false h61, if_pos rfl, txt_no p h2]
    have ep : (p.1, ([] : Str), false) = p := by rw [← hnil, ← h2]
    rw [ep]; rfl
  | true =>
    have hnc : p.2.1.any adg = false := by unfold okV at hv; rw [h2, cond_true] at hv; simpa using hv
    have h61 : (txt p ++ C).head? = some 61 := by rw [txt_eq p h2]; rfl
    have h3 : s = (A ++ p.1 ++ [61]) ++ (vtx p.2.1 ++ C) := by rw [h', txt_eq p h2]; simp
    have hlen3 : (A ++ p.1 ++ [61]).length = A.length + p.1.length + 1 := by simp; omega
    have hz : ach abv s ((A.length + p.1.length + 1 : Nat) : Int) = A.length + p.1.length + 1 := by
      rw [← hlen3, skipA abv s (A ++ p.1 ++ [61]) _ h3, amw abv _ (vtx_blank p.2.1 C)]; rfl
    have hval := vtx_val s (A ++ p.1 ++ [61]) p.2.1 C h3 hnc (hC' aba (by decide))
    rw [hlen3] at hval
    rw [decide_eq_true h61, if_neg (by decide), hz, hval, if_pos rfl]
    have ep : (p.1, p.2.1, true) = p := by rw [← h2]
    have el : (txt p).length = (vtx p.2.1).length + 1 := by rw [txt_eq p h2]; rfl
    rw [ep, el]
    show (p, (0 : Int), (0 : UInt8), (s, ((A.length + p.1.length + 1 + (vtx p.2.1).length : Nat) : Int))) = _
    rw [show A.length + p.1.length + 1 + (vtx p.2.1).length = A.length + (p.1.length + ((vtx p.2.1).length + 1)) by omega]
theorem ppL_head : ∀ (r pre : List PP) (u : Str), ppL pre r = some u → ∀ c, u.head? = some c → c = 59
  | [], pre, u, h, c, hc => by
    rw [ppL, Option.some.injEq] at h
    subst h; cases hc
  | p :: r, pre, u, h, c, hc => by
    rw [ppL] at h
    cases hk : okN pre p && okV p with
    | false => rw [hk] at h; cases h
    | true =>
      rw [hk, cond_true, Option.map_eq_some_iff] at h
      obtain ⟨t, _, rfl⟩ := h
      rw [List.head?_cons, Option.some.injEq] at hc
      exact hc.symm
theorem parA (s : Str) : ∀ (r pre : List PP) (u A : Str) (f : Nat), ppL pre r = some u → s = A ++ u → r.length < f → pre.length + r.length ≤ 16 → parM s f pre A.length = (pre ++ r, 0, 0)
  | [], pre, u, A, f, h, hs, hf, hl => by
    obtain ⟨f, rfl⟩ : ∃ m, f = m + 1 := ⟨f - 1, by omega⟩
    rw [ppL, Option.some.injEq] at h
    subst h
    rw [List.append_nil] at hs
    subst hs
    rw [parM, if_pos (by rw [skipL_end]; exact Nat.le_refl _), List.append_nil]
  | p :: r, pre, u, A, f, h, hs, hf, hl => by
    obtain ⟨f, rfl⟩ : ∃ m, f = m + 1 := ⟨f - 1, by omega⟩
    rw [ppL] at h
    cases hk : okN pre p && okV p with
    | false => rw [hk] at h; cases h
    | true =>
      rw [hk, cond_true, Option.map_eq_some_iff] at h
      obtain ⟨t, ht, rfl⟩ := h
      rw [Bool.and_eq_true] at hk
      obtain ⟨hN, hV⟩ := hk
      unfold okN at hN
      simp only [Bool.and_eq_true, decide_eq_true_eq, Bool.not_eq_true'] at hN
      obtain ⟨⟨hn, hlow⟩, hany⟩ := hN
      simp only [List.length_cons] at hf hl
      have hsl : s.length = A.length + ((p.1 ++ (txt p ++ t)).length + 1) := by rw [hs, List.length_append, List.length_cons]
      have hsk : ach abv s (A.length : Int) = A.length := by
        rw [skipA abv s A _ hs, span_no abv 59 _ (by decide)]; rfl
      have hat := atA s A _ 59 hs
      have hs2 : s = (A ++ [59]) ++ (p.1 ++ (txt p ++ t)) := by rw [hs]; simp
      have hlen2 : (A ++ [59]).length = A.length + 1 := by simp
      have hsk2 : ach abv s ((A.length + 1 : Nat) : Int) = A.length + 1 := by
        rw [← hlen2, skipA abv s (A ++ [59]) _ hs2, amw abv _ (fun c hc => alz c (head_tok p.1 _ hn c hc))]; rfl
      have hlist := listA s (A ++ [59]) t p hs2 hn hlow hV (ppL_head r _ t ht)
      rw [hlen2] at hlist
      have hroom : roomB pre p.1 = 0 := by
        unfold roomB
        rw [hany, if_neg (by decide), if_neg (by omega)]
      have hs3 : s = (A ++ [59] ++ p.1 ++ txt p) ++ t := by rw [hs]; simp
      have hlen3 : (A ++ [59] ++ p.1 ++ txt p).length = A.length + 1 + (p.1.length + (txt p).length) := by simp; omega
      have ih := parA s r (pre ++ [p]) t (A ++ [59] ++ p.1 ++ txt p) f ht hs3 (by omega) (by simp only [List.length_append, List.length_singleton]; omega)
      rw [hlen3, List.append_assoc, List.singleton_append] at ih
      have h59 : at_ s ((A.length : Nat) : Int) = 59 := hat
      rw [parM, hsk, if_neg (by omega), if_neg (not_not_intro h59), hsk2, hlist, if_pos rfl]
      show (if roomB pre p.1 = 0 then _ else _) = _
      rw [if_pos hroom]
      exact ih
theorem ppL_rl : ∀ (r pre : List PP) (u : Str), ppL pre r = some u → r.length ≤ u.length
  | [], _, _, _ => Nat.zero_le _
  | p :: r, pre, u, h => by
    rw [ppL] at h
    cases hk : okN pre p && okV p with
    | false => rw [hk] at h; cases h
    | true =>
      rw [hk, cond_true, Option.map_eq_some_iff] at h
      obtain ⟨t, ht, rfl⟩ := h
      have := ppL_rl r _ t ht
      simp only [List.length_cons, List.length_append]; omega
theorem par_back (l : List PP) (t : Str) (h : ppM l = (t, 0)) : parP t = (l, 0, 0) ∧ (∀ c, t.head? = some c → c = 59) ∧ ppL [] l = some t ∧ l.length ≤ 16 := by
  unfold ppM at h
  by_cases h16 : 16 < l.length
  · rw [if_pos h16] at h; exact absurd (congrArg Prod.snd h) (by simp)
  · rw [if_neg h16] at h
    cases hp : ppL [] l with
    | none => rw [hp] at h; exact absurd (congrArg Prod.snd h) (by simp)
    | some u =>
      rw [hp] at h
      have e : u = t := congrArg Prod.fst h
      subst e
      have hl := ppL_rl l [] u hp
      exact ⟨parA u l [] u [] (u.length + 1) hp rfl (by omega) (by simp only [List.length_nil]; omega), ppL_head l [] u hp, rfl, by omega⟩
open Go.Px
def lastOk (l : Str) : Prop := ∀ c, l.getLast? = some c → abv c = false
theorem lastOk_app (a b : Str) (hb : b ≠ []) (h : lastOk b) : lastOk (a ++ b) := by
  intro c hc
  refine h c ?_
  cases hl : b.getLast? with
  | none => exact absurd (List.getLast?_eq_none_iff.1 hl) hb
  | some d =>
    rw [List.getLast?_append, hl] at hc
    exact hc
theorem lastOk_all (p : UInt8 → Bool) (hp : ∀ c, p c = true → abv c = false) (b : Str) (h : b.all p = true) : lastOk b :=
  fun c hc => hp c (List.all_eq_true.1 h c (List.mem_of_getLast? hc))
theorem lastOk_snoc (a : Str) (d : UInt8) (h : abv d = false) : lastOk (a ++ [d]) := by
  intro c hc
  rw [List.getLast?_concat, Option.some.injEq] at hc
  rw [← hc]; exact h
theorem trim_id (s : Str) (h1 : ∀ c, s.head? = some c → abv c = false) (h2 : lastOk s) : trimL s = s := by
  have e1 : s.dropWhile abv = s := by
    cases s with
    | nil => rfl
    | cons c l => exact List.dropWhile_cons_of_neg (by rw [h1 c rfl]; decide)
  have e2 : s.reverse.dropWhile abv = s.reverse := by
    cases hr : s.reverse with
    | nil => rfl
    | cons c l =>
      refine List.dropWhile_cons_of_neg ?_
      have : s.getLast? = some c := by rw [← List.head?_reverse, hr]; rfl
      rw [h2 c this]; decide
  unfold trimL rdw
  rw [e1, e2, List.reverse_reverse]
theorem vtx_last (v : Str) (hne : vtx v ≠ []) : lastOk (vtx v) := by
  unfold vtx at hne ⊢
  cases h1 : ajg v with
  | true => rw [Bool.true_or, cond_true]; exact lastOk_all aba alz v (isTok_ne h1).2
  | false =>
    cases h2 : brV v with
    | true =>
      obtain ⟨g, hg, _⟩ := brV_form v h2
      rw [Bool.or_true, cond_true, hg]
      exact lastOk_snoc (91 :: g) 93 (by decide)
    | false =>
      rw [Bool.or_false, cond_false]
      unfold quoT
      exact lastOk_snoc (34 :: v.flatMap ail) 34 (by decide)
theorem ppL_last : ∀ (r pre : List PP) (u V : Str), ppL pre r = some u → lastOk V → lastOk (V ++ u)
  | [], pre, u, V, h, hV => by
    rw [ppL, Option.some.injEq] at h
    subst h; rw [List.append_nil]; exact hV
  | p :: r, pre, u, V, h, hV => by
    rw [ppL] at h
    cases hk : okN pre p && okV p with
    | false => rw [hk] at h; cases h
    | true =>
      rw [hk, cond_true, Option.map_eq_some_iff] at h
      obtain ⟨t, ht, rfl⟩ := h
      rw [Bool.and_eq_true] at hk
      have hn : ajg p.1 = true := by
        have := hk.1
        unfold okN at this
        simp only [Bool.and_eq_true] at this
        exact this.1.1
      have e : V ++ 59 :: (p.1 ++ (txt p ++ t)) = (V ++ 59 :: (p.1 ++ txt p)) ++ t := by simp
      rw [e]
      refine ppL_last r _ t _ ht ?_
      have hp1 := lastOk_all aba alz p.1 (isTok_ne hn).2
      cases h2 : p.2.2 with
      | false =>
        rw [txt_no p h2, List.append_nil, show V ++ 59 :: p.1 = (V ++ [59]) ++ p.1 by simp]
        exact lastOk_app _ _ (isTok_ne hn).1 hp1
      | true =>
        rw [txt_eq p h2, show V ++ 59 :: (p.1 ++ 61 :: vtx p.2.1) = (V ++ 59 :: p.1 ++ [61]) ++ vtx p.2.1 by simp]
        by_cases hv : vtx p.2.1 = []
        · rw [hv, List.append_nil]
          exact lastOk_snoc _ 61 (by decide)
        · exact lastOk_app _ _ hv (vtx_last _ hv)
theorem span_ext (p : UInt8 → Bool) (t : Str) (ht : ∀ c, t.head? = some c → p c = false) : ∀ s : Str, ajv p (s ++ t) = ajv p s
  | [] => amw p t ht
  | c :: s => by
    rw [List.cons_append, ajv, ajv, span_ext p t ht s]
theorem skip_ext (p : UInt8 → Bool) (s t : Str) (k : Nat) (hk : k ≤ s.length) (ht : ∀ c, t.head? = some c → p c = false) : ach p (s ++ t) (k : Int) = ach p s (k : Int) := by
  unfold ach
  rw [aia k _ (by rw [List.length_append]; omega), aia k _ hk, List.drop_append_of_le_length hk, span_ext p t ht]
theorem sees_ext (s t : Str) (k : Nat) (b : UInt8) (hk : k ≤ s.length) (ht : ∀ c, t.head? = some c → c ≠ b) : akh (s ++ t) k b = akh s k b := by
  by_cases h : k < s.length
  · unfold akh
    rw [decide_eq_true h, decide_eq_true (show k < (s ++ t).length by rw [List.length_append]; omega)]
    congr 2
    simp only [at_, List.getD_eq_getElem?_getD]
    rw [List.getElem?_append_left (by omega)]
  · have e : k = s.length := by omega
    subst e
    rw [seesA (s ++ t) s t b rfl, seesA s s [] b (by simp), decide_eq_false (fun e => ht b e rfl)]
    rfl
theorem itemE_ext (V t : Str) (ht : ∀ c, t.head? = some c → c = 59) : itemE (V ++ t) = itemE V := by
  have hs : ∀ k, k ≤ V.length → ach aba (V ++ t) (k : Int) = ach aba V (k : Int) := fun k hk => skip_ext aba V t k hk fun c hc => by rw [ht c hc]; decide
  have h0 : ach aba (V ++ t) 0 = ach aba V 0 := hs 0 (Nat.zero_le _)
  have hk := agv aba V 0
  unfold itemE
  rw [h0]
  generalize ach aba V 0 = k at hk ⊢
  rw [sees_ext V t k 47 hk fun c hc => by rw [ht c hc]; decide]
  by_cases hk0 : k = 0
  · rw [if_pos hk0, if_pos hk0]
  · rw [if_neg hk0, if_neg hk0]
    cases h47 : akh V k 47 with
    | false => rfl
    | true => rw [hs (k + 1) (amk h47).1]
theorem itemE_head (V : Str) (h : itemE V = V.length) (hne : V ≠ []) : ∀ c, V.head? = some c → aba c = true := by
  intro c hc
  cases V with
  | nil => exact absurd rfl hne
  | cons d l =>
    rw [List.head?_cons, Option.some.injEq] at hc
    subst hc
    cases ht : aba d with
    | true => rfl
    | false =>
      have : ach aba (d :: l) 0 = 0 := by rw [skipL_zero, span_no aba d l ht]
      unfold itemE at h
      rw [if_pos this] at h
      cases h
theorem itemE_last (V : Str) (h : itemE V = V.length) (hne : V ≠ []) : lastOk V := by
  have hsp : ∀ (i : Nat), i ≤ V.length → ach aba V (i : Int) = V.length → i < V.length → lastOk V := by
    intro i hi he hlt
    unfold ach at he
    rw [aia i _ hi] at he
    have hd : (V.drop i).all aba = true := by
      rw [span_all_iff, decide_eq_true_eq, List.length_drop]; omega
    have e := (List.take_append_drop i V).symm
    rw [e]
    refine lastOk_app _ _ ?_ (lastOk_all aba alz _ hd)
    intro e2
    have := congrArg List.length e2
    rw [List.length_drop, List.length_nil] at this
    omega
  have hl := List.length_pos_iff.2 hne
  unfold itemE at h
  split at h
  · omega
  · split at h
    · rename_i h47
      have h1 := (amk h47).1
      split at h
      · omega
      · rename_i hx
        have := agv aba V ((ach aba V 0 + 1 : Nat) : Int)
        exact hsp (ach aba V 0 + 1) (by omega) h (by omega)
    · exact hsp 0 (Nat.zero_le _) h hl
theorem item_back (x : Str × List PP) (h : (prItem x).2 = 0) : itemP (prItem x).1 = ((x.1, akw x.2), 0) := by
  unfold prItem at h ⊢
  by_cases hc : cutOk x.1 = true ∧ (ppM (akw x.2)).2 = 0
  · rw [if_pos hc] at h ⊢
    obtain ⟨h1, h2⟩ := hc
    rw [item_cut, decide_eq_true_eq] at h1
    obtain ⟨hne, hE⟩ := h1
    obtain ⟨b1, b2, b3, b4⟩ := par_back (akw x.2) (ppM (akw x.2)).1 (by rw [← h2])
    generalize (ppM (akw x.2)).1 = t at b1 b2 b3 ⊢
    have htr : trimL (x.1 ++ t) = x.1 ++ t := by
      refine trim_id _ (fun c hc => ?_) (ppL_last _ [] t x.1 b3 (itemE_last x.1 hE hne))
      rw [head_app x.1 t hne] at hc
      exact alz c (itemE_head x.1 hE hne c hc)
    have hl := List.length_pos_iff.2 hne
    simp only
    unfold itemP
    rw [htr, itemE_ext x.1 t b2, hE, if_neg (by omega), List.drop_left, List.take_left, b1, if_pos rfl]
  · rw [if_neg hc] at h; exact absurd h (by decide)
theorem gtN_less (a b : Str) : gtN a b = Op.bytesLess b a := by unfold gtN; rw [← less_tri b a]
theorem less_trans : ∀ a b c : Str, Op.bytesLess b a = false → Op.bytesLess c b = false → Op.bytesLess c a = false
  | [], b, c, _, _ => by cases c <;> rfl
  | x :: a, [], c, h, _ => by cases h
  | x :: a, y :: b, [], _, h => by cases h
  | x :: a, y :: b, z :: c, h1, h2 => by
    rw [Op.bytesLess, Bool.or_eq_false_iff] at h1 h2 ⊢
    have n1 : ¬ y < x := of_decide_eq_false h1.1
    have n2 : ¬ z < y := of_decide_eq_false h2.1
    rw [UInt8.lt_iff_toNat_lt] at n1 n2
    refine ⟨decide_eq_false (by rw [UInt8.lt_iff_toNat_lt]; omega), ?_⟩
    by_cases h : z = x
    · have e : y = x := by
        apply UInt8.toNat_inj.1
        rw [h] at n2
        omega
      subst h e
      have e1 : (y == y) = true := by simp
      rw [e1, Bool.true_and] at h1 h2 ⊢
      exact less_trans a b c h1.2 h2.2
    · have : (z == x) = false := by simpa using h
      rw [this]; rfl
theorem less_asym (a b : Str) (h : Op.bytesLess a b = true) : Op.bytesLess b a = false := by rw [less_tri b a, h]; rfl
def leP (a b : PP) : Prop := Op.bytesLess b.1 a.1 = false
theorem insV_dsc (x : PP) : ∀ V : List PP, V.Pairwise (fun a b => leP b a) → (insV x V).Pairwise (fun a b => leP b a)
  | [], _ => by simp [insV]
  | a :: V, h => by
    rw [List.pairwise_cons] at h
    rw [insV]
    cases hg : gtN a.1 x.1 with
    | true =>
      rw [cond_true, List.pairwise_cons]
      refine ⟨fun y hy => ?_, insV_dsc x V h.2⟩
      rcases insV_mem x y V hy with rfl | hy
      · exact less_asym _ _ (by rw [← gtN_less]; exact hg)
      · exact h.1 y hy
    | false =>
      have hax : leP a x := by unfold leP; rw [← gtN_less]; exact hg
      rw [cond_false, List.pairwise_cons, List.pairwise_cons]
      refine ⟨fun y hy => ?_, h.1, h.2⟩
      rcases List.mem_cons.1 hy with rfl | hy
      · exact hax
      · exact less_trans _ _ _ (h.1 y hy) hax
theorem insV_perm (x : PP) : ∀ V : List PP, (insV x V).Perm (x :: V)
  | [] => List.Perm.refl _
  | a :: V => by
    rw [insV]
    cases gtN a.1 x.1 with
    | true => rw [cond_true]; exact ((insV_perm x V).cons a).trans (List.Perm.swap x a V)
    | false => rw [cond_false]
theorem insR_srt (x : PP) (l : List PP) (h : l.Pairwise leP) : (insR x l).Pairwise leP := by
  unfold insR
  rw [List.pairwise_reverse]
  exact insV_dsc x _ (List.pairwise_reverse.2 (by simpa using h))
theorem insR_perm (x : PP) (l : List PP) : (insR x l).Perm (l ++ [x]) := by
  unfold insR
  refine (List.reverse_perm _).trans ((insV_perm x _).trans ?_)
  exact (((List.reverse_perm l).cons x).trans (List.perm_append_comm (l₁ := [x]) (l₂ := l)))
theorem fold_srt : ∀ (q p : List PP), p.Pairwise leP → (q.foldl (fun out x => insR x out) p).Pairwise leP ∧ (q.foldl (fun out x => insR x out) p).Perm (p ++ q)
  | [], p, h => ⟨h, by simp⟩
  | a :: q, p, h => by
    rw [List.foldl_cons]
    obtain ⟨h1, h2⟩ := fold_srt q (insR a p) (insR_srt a p h)
    refine ⟨h1, h2.trans ?_⟩
    have := (insR_perm a p).append_right q
    rw [List.append_assoc, List.singleton_append] at this
    exact this
theorem isort_perm (l : List PP) : (akw l).Perm l := by
  have := (fold_srt l [] List.Pairwise.nil).2
  rw [List.nil_append] at this
  exact this
def szP (l : List PP) : Nat := (l.map fun z => z.1.length + z.2.1.length).sum
theorem szP_cons (p : PP) (l : List PP) : szP (p :: l) = p.1.length + p.2.1.length + szP l := by unfold szP; rw [List.map_cons, List.sum_cons]
theorem szP_perm {l m : List PP} (h : l.Perm m) : szP l = szP m := by unfold szP; exact (h.map _).sum_nat
theorem szP_mem : ∀ (l : List PP) (p : PP), p ∈ l → p.1.length + p.2.1.length ≤ szP l
  | [], _, h => by simp at h
  | a :: l, p, h => by
    rw [szP_cons]
    rcases List.mem_cons.1 h with rfl | h
    · omega
    · have := szP_mem l p h; omega
theorem txt_len2 (p : PP) : (txt p).length ≤ 2 * p.2.1.length + 3 := by
  have := quoT_len p.2.1
  unfold txt
  cases p.2.2 with
  | false => simp
  | true =>
    rw [cond_true, List.length_cons]
    cases (ajg p.2.1 || brV p.2.1) with
    | true => rw [cond_true]; omega
    | false => rw [cond_false]; omega
theorem ppL_len2 : ∀ (r pre : List PP) (t : Str), ppL pre r = some t → t.length ≤ 2 * szP r + 4 * r.length
  | [], _, t, h => by rw [ppL, Option.some.injEq] at h; subst h; simp
  | p :: r, pre, t, h => by
    rw [ppL] at h
    cases hk : okN pre p && okV p with
    | false => rw [hk] at h; cases h
    | true =>
      rw [hk, cond_true, Option.map_eq_some_iff] at h
      obtain ⟨u, hu, rfl⟩ := h
      have := ppL_len2 r _ u hu
      have ht := txt_len2 p
      rw [szP_cons]
      simp only [List.length_cons, List.length_append]
      omega
theorem ppM_len2 (l : List PP) : (ppM l).1.length ≤ 2 * szP l + 64 := by
  unfold ppM
  split
  · simp
  · cases hp : ppL [] l with
    | none => simp
    | some t =>
      have := ppL_len2 l [] t hp
      simp only
      omega
theorem prItem_len (x : Str × List PP) : (prItem x).1.length ≤ x.1.length + 2 * szP x.2 + 64 := by
  have := ppM_len2 (akw x.2)
  rw [szP_perm (isort_perm x.2)] at this
  unfold prItem
  split
  · simp only [List.length_append]; omega
  · simp
open Option renaming bind_some → zab
theorem awake_true : aji FU = some true := by kernel_rfl
theorem prItem_err (x : Str × List PP) (h : ¬ (prItem x).2 = 0) : prItem x = ([], 2) := by
  unfold prItem at h ⊢
  split
  · rename_i hc
    rw [if_pos hc] at h
    exact absurd rfl h
  · rfl
theorem plain_HeaderItemBack (x : Str × List PQ) (h : x.1.length + (x.2.map fun z => z.1.length + z.2.1.length).sum ≤ 1048576) : agl FU x = some true := by
  have h' : x.1.length + szP x.2 ≤ 1048576 := h
  have hb : ∀ p ∈ x.2, p.1.length ≤ 4194304 ∧ p.2.1.length ≤ 4194304 := fun p hp => by
    have := szP_mem x.2 p hp
    omega
  unfold agl
  by_cases h40 : 40 < x.2.length
  · rw [if_pos omg, awake_true]; rfl
  · have hl := prItem_len x
    have hil := isort_len x.2
    rw [if_neg omg, printItem_eq x omg omg hb, zab]
    by_cases h0 : (prItem x).2 = 0
    · rw [if_pos h0, item_eq _ omg, zab, item_back x h0, if_pos rfl, if_pos rfl, rfSorted_eq x.2 omg, zab, sameParams_self _ (show (akw x.2).length ≤ 4194304 by omega), zab, cond_true, awake_true]
      rfl
    · rw [if_neg h0, prItem_err x h0, if_pos rfl, if_pos rfl, awake_true]
      rfl
end Go.Wk
