/-
  The law HeaderElements holds: for every list of numbers and every number of blanks the call returns true; no condition beyond the statement's own (part 3 of 8).
-/
import Derived.Test.YtbfppjfgcjpknaaGreatDoorHe2
import Derived.Test.YtbfppjfgcjpknaaGreatDoorProg
set_option linter.unusedVariables false
set_option linter.unusedSimpArgs false
set_option maxRecDepth 20000
set_option maxHeartbeats 1000000
namespace Go.Proofs
open Go.Wk Go.Px
open Go.Value renaming slice → Vs, int → Vi, bool → Vb, pointer → Vp
theorem ent55 : Go.Wk.Enters Tryz.prog 55 := ⟨Tryz.f55, _, Tryz.func55, rfl, by kernel_rfl⟩
theorem ent104 : Go.Wk.Enters Tryz.prog 104 := ⟨Tryz.f104, _, Tryz.func104, rfl, by kernel_rfl⟩
theorem ent112 : Go.Wk.Enters Tryz.prog 112 := ⟨Tryz.f112, _, Tryz.func112, rfl, by kernel_rfl⟩
theorem alu {fu : Nat} {a1 : UInt8} {w : World} {r : Bool} (hr : afr fu a1 = some r) (hG : Gl w) : CR Tryz.prog 104 [(bt a1)] w fun v w' => v = (Vb r) ∧ Hp w [] [] w' := by
  have hH : Hp w [] [] w := Hp.refl w
  refine enter (k := 9) Tryz.func104 rfl rfl (Nat.le_of_ble_eq_true rfl) ?_
  unfold afr at hr
  refine sr (wp 1 (nq (bi hr fun v5 a0 hr => agq hH [2] [(2, (Vb v5))] ?_ ?_)))
  refine cr (wp 1 (ack a1 (32 : UInt8) (by kernel_rfl) (by kernel_rfl) (wd a0 (fun h6 a0 => ?_) (fun h6 a0 => ?_))))
  refine wp 4 (wl (ql ?_))
  obtain rfl := oi a0
  exact je hH.kp
  refine wp 1 (gy 5 (ack a1 (9 : UInt8) (by kernel_rfl) (by kernel_rfl) (wp 2 (wl (ql ?_)))))
  obtain rfl := oi a0
  exact je hH.kp
  intro w7 G a2
  refine ct ?_
  obtain rfl := oi hr
  exact rv a2.kp
theorem ald {fu : Nat} {s_0 : Str} {a3 : Int} {w : World} {r : Int} (hr : aep fu s_0 a3 = some r) (hG : Gl w) : CR Tryz.prog 102 [(str s_0), (Vi .i64 a3), (Value.func (.func 104) #[] #[])] w fun v w' => v = (Vi .i64 r) ∧ Hp w [] [] w' := by
  have hH : Hp w [] [] w := Hp.refl w
  refine enter (k := 26) Tryz.func102 rfl rfl (Nat.le_of_ble_eq_true rfl) ?_
  unfold aep at hr
  refine sr (wp 1 (nq (sr (wp 1 (w_max .i64 a3 (0 : Int) (by kernel_rfl) (by kernel_rfl) (wp 2 ?_))))))
  refine w_min .i64 (max a3 (0 : Int)) (s_0.length : Int) (by kernel_rfl) (by kernel_rfl) (wp 1 (nq (bi hr fun a7 a8 hr => agq hH [1, 6] [(1, (Vi .i64 a7))] ?_ ?_)))
  refine ce (lpS (fun a5 a2 => abe fu s_0 a5 a2) (min (max a3 (0 : Int)) (s_0.length : Int)) hH a8 [0, 1, 2, 6] (fun a2 => [(1, (Vi .i64 a2))]) (fun _ => rfl) ?_)
  rintro a5 a2 b7 G a4 a0
  rw [abe.eq_2] at a0
  refine cs (bi a0 fun a9 a1 a0 => agq a4 [0, 1, 2, 6, 22] [(22, (Vb a9))] ?_ ?_)
  refine cr (wp 4 (wd a1 (fun b0 a1 => ?_) (fun b0 a1 => ?_)))
  refine wp 3 (gy 16 (gi a1 fun b1 a1 => adz s_0 .i64 a2 Tryz.underlying9 (by kernel_rfl) (by kernel_rfl) b1 (gy 16 (bi a1 fun b8 b2 a1 => wc ent104 a4 (alu b2 (hG.hp0 a4)) fun b9 b3 => wp 1 (wl (ql ?_))))))
  obtain rfl := oi a1
  exact je b3.kp
  refine wp 6 (wl (ql ?_))
  obtain rfl := oi a1
  exact je a4.kp
  intro c0 G a6
  refine cb a0 (fun b4 a0 => ?_) (fun b4 a0 => ?_)
  refine ck (qn (ce (cr (wp 1 (gi a0 fun b5 a0 => aac a2 (1 : Int) (by kernel_rfl) (by kernel_rfl) b5 (wp 1 (wl (bn ?_))))))))
  exact ql (le' (a2 + (1 : Int)) a6.kp a0)
  refine ach (acg (acq (aci (ql ?_))))
  obtain rfl := oi a0
  exact je a6.kp
  intro c1 G b6
  refine sr (wp 2 (nq (ct ?_)))
  obtain rfl := oi hr
  exact rv b6.kp
theorem ajx {fu : Nat} {s_0 : Str} {a0 : Int} {w : World} {r : Int} (hr : agd fu s_0 a0 = some r) (hG : Gl w) : CR Tryz.prog 55 [(str s_0), (Vi .i64 a0)] w fun v w' => v = (Vi .i64 r) ∧ Hp w [] [] w' := by
  have hH : Hp w [] [] w := Hp.refl w
  refine enter (k := 8) Tryz.func55 rfl rfl (Nat.le_of_ble_eq_true rfl) ?_
  unfold agd at hr
  refine sr (wp 1 (nq (sr (wp 2 (bi hr fun y1 a1 hr => wc ent102 hH (ald a1 (hG.hp0 hH)) fun w3 a2 => ?_)))))
  refine wp 1 (nq (ct ?_))
  obtain rfl := oi hr
  exact rv a2.kp
theorem adc {fu : Nat} {a0 : (Str × Int)} (a1 : Nat) {w : World} {r : (Str × Int)} (hr : acr fu a0 = some r) (hG : Gl w) (hM : Hp w (aaj [blk a1 [(str a0.1), (Vi .i64 a0.2)] 119]) [blk a1 [(str a0.1), (Vi .i64 a0.2)] 119] w) (hS : ∀ b ∈ aaj [blk a1 [(str a0.1), (Vi .i64 a0.2)] 119], 9 ≤ b) : CR Tryz.prog 111 [(Vp (some ⟨a1, 0, none⟩))] w fun v w' => v = (Value.tuple #[]) ∧ Hp w (aaj [blk a1 [(str a0.1), (Vi .i64 a0.2)] 119]) [blk a1 [(str r.1), (Vi .i64 r.2)] 119] w' := by
  have hH : Hp w (aaj [blk a1 [(str a0.1), (Vi .i64 a0.2)] 119]) [blk a1 [(str a0.1), (Vi .i64 a0.2)] 119] w := hM
  refine enter (k := 15) Tryz.func111 rfl rfl (Nat.le_of_ble_eq_true rfl) ?_
  unfold acr at hr
  refine bi hr fun y1 a3 hr => adm 11 (fun j_ w_ w_' => abv [10, 11, 12, 13] (fun w' => w'.heap[a1]? = some (.cells [(str a0.1), (Vi .i64 a0.2)].toArray 119 (0, 0))) j_ w_ w_' ∧ True) [false, false, false, false, false, false, false, false, false, false, false, false, false, false] (fun _ _ => ⟨abv.same, trivial⟩) (by kernel_rfl) (by kernel_rfl) hH rfl acf fun w6 a2 => rp 6 [0, 1, 2, 3, 4] (aag [true, true, true, true, true, true, false, false, false, false, false, false, false, false] 5 7 (str a0.1) [10, 11, 12, 13] (fun _ _ _ h => h.1) _ rfl rfl (by kernel_rfl) (by kernel_rfl) (by kernel_rfl) (by kernel_rfl) (by kernel_rfl) rfl (aai rfl (by intro w hS_; exact (afx a1 0 [(str a0.1), (Vi .i64 a0.2)] 119 (str a0.1) hS_ rfl (by kernel_rfl) (by kernel_rfl)))) (by exact a2.blkAt 0 rfl) (rp 2 [6, 7, 8] (aag [true, true, true, true, true, true, true, true, true, true, false, false, false, false] 9 11 (Vi .i64 a0.2) [10, 11, 12, 13] (fun _ _ _ h => h.1) _ rfl rfl (by kernel_rfl) (by kernel_rfl) (by kernel_rfl) (by kernel_rfl) (by kernel_rfl) rfl (aai rfl (by intro w hS_; exact (afx a1 1 [(str a0.1), (Vi .i64 a0.2)] 119 (Vi .i64 a0.2) hS_ rfl (by kernel_rfl) (by kernel_rfl)))) (by exact a2.blkAt 0 rfl) (ro 10 rfl (wc ent55 a2 (ajx a3 (hG.hp a2 hS)) fun w3 a4 => wl (abk (by exact ⟨abv.out rfl, trivial⟩) ?_))))))
  refine acw (by kernel_rfl) (wp 2 (aeu a4 0 a1 1 [(str a0.1), (Vi .i64 a0.2)] 119 (Vi .i64 y1) [blk a1 [(str a0.1), (Vi .i64 y1)] 119] rfl (Nat.lt_of_lt_of_le (Nat.lt_succ_self _) (Nat.le_of_ble_eq_true rfl)) (by kernel_rfl) (by kernel_rfl) rfl (by kernel_rfl) rfl fun w8 a5 => wl ?_))
  obtain rfl := oi hr
  refine ahn  rfl  ?_
  exact ⟨(by first | rfl | (simp; done) | (simp; omega)), a5.kp⟩
theorem aes {fu : Nat} {a0 : (Str × Int)} (a1 : Nat) {w : World} {r : Bool} (hr : aek fu a0 = some r) (hG : Gl w) (hM : Hp w (aaj [blk a1 [(str a0.1), (Vi .i64 a0.2)] 119]) [blk a1 [(str a0.1), (Vi .i64 a0.2)] 119] w) (hS : ∀ b ∈ aaj [blk a1 [(str a0.1), (Vi .i64 a0.2)] 119], 9 ≤ b) : CR Tryz.prog 112 [(Vp (some ⟨a1, 0, none⟩))] w fun v w' => v = (Vb r) ∧ Hp w (aaj [blk a1 [(str a0.1), (Vi .i64 a0.2)] 119]) [blk a1 [(str a0.1), (Vi .i64 a0.2)] 119] w' := by
  have hH : Hp w (aaj [blk a1 [(str a0.1), (Vi .i64 a0.2)] 119]) [blk a1 [(str a0.1), (Vi .i64 a0.2)] 119] w := hM
  refine enter (k := 14) Tryz.func112 rfl rfl (Nat.le_of_ble_eq_true rfl) ?_
  unfold aek at hr
  refine sr (wp 1 (nq (cs (adm 10 (fun j_ w_ w_' => abv [10, 11] (fun w' => w'.heap[a1]? = some (.cells [(str a0.1), (Vi .i64 a0.2)].toArray 119 (0, 0))) j_ w_ w_' ∧ abv [9, 10, 11] (fun w' => w'.heap[a1]? = some (.cells [(str a0.1), (Vi .i64 a0.2)].toArray 119 (0, 0))) j_ w_ w_' ∧ True) [false, false, false, false, false, false, false, false, false, false, false, false] (fun _ _ => ⟨abv.same, abv.same, trivial⟩) (by kernel_rfl) (by kernel_rfl) hH rfl (adb acf) fun w1 a2 => rp 7 [0, 1, 2] (aag [true, true, true, true, false, false, false, false, false, false, false, false] 3 6 (Vi .i64 a0.2) [10, 11] (fun _ _ _ h => h.1) _ rfl rfl (by kernel_rfl) (by kernel_rfl) (by kernel_rfl) (by kernel_rfl) (by kernel_rfl) rfl (aai rfl (by intro w hS_; exact (afx a1 1 [(str a0.1), (Vi .i64 a0.2)] 119 (Vi .i64 a0.2) hS_ rfl (by kernel_rfl) (by kernel_rfl)))) (by exact a2.blkAt 0 rfl) (rp 2 [4, 5, 6, 7] ?_))))))
  refine aag [true, true, true, true, true, true, true, true, true, false, false, false] 8 11 (str a0.1) [9, 10, 11] (fun _ _ _ h => h.2.1) _ rfl rfl (by kernel_rfl) (by kernel_rfl) (by kernel_rfl) (by kernel_rfl) (by kernel_rfl) rfl (aai rfl (by intro w hS_; exact (afx a1 0 [(str a0.1), (Vi .i64 a0.2)] 119 (str a0.1) hS_ rfl (by kernel_rfl) (by kernel_rfl)))) (by exact a2.blkAt 0 rfl) (rp 0 [9] (acw (by kernel_rfl) (wp 2 (nq (ct ?_)))))
  obtain rfl := oi hr
  refine ana (Vb (decide ((a0.1.length : Int) ≤ a0.2))) rfl (by kernel_rfl) ?_
  exact ⟨(by first | rfl | (simp; done) | (simp; omega)), a2.kp⟩
theorem aar {fu : Nat} {a0 : (Str × Int)} {a8 : UInt8} (a1 : Nat) {w : World} {r : Bool} (hr : aap fu a0 a8 = some r) (hG : Gl w) (hM : Hp w (aaj [blk a1 [(str a0.1), (Vi .i64 a0.2)] 119]) [blk a1 [(str a0.1), (Vi .i64 a0.2)] 119] w) (hS : ∀ b ∈ aaj [blk a1 [(str a0.1), (Vi .i64 a0.2)] 119], 9 ≤ b) : CR Tryz.prog 113 [(Vp (some ⟨a1, 0, none⟩)), (bt a8)] w fun v w' => v = (Vb r) ∧ Hp w (aaj [blk a1 [(str a0.1), (Vi .i64 a0.2)] 119]) [blk a1 [(str a0.1), (Vi .i64 a0.2)] 119] w' := by
  have hH : Hp w (aaj [blk a1 [(str a0.1), (Vi .i64 a0.2)] 119]) [blk a1 [(str a0.1), (Vi .i64 a0.2)] 119] w := hM
  refine enter (k := 22) Tryz.func113 rfl rfl (Nat.le_of_ble_eq_true rfl) ?_
  unfold aap at hr
  refine sr (wp 1 (nq (bi hr fun b1 a2 hr => agq hH [4] [(4, (Vb b1))] ?_ ?_)))
  refine bi a2 fun a9 b2 a2 => ?_
  rcases Bool.eq_false_or_eq_true (!a9) with a4 | a4
  replace a2 := cft a4 a2
  refine gi a2 fun b3 a2 => adm 15 (fun j_ w_ w_' => abv [13, 15, 16, 17] (fun w' => w'.heap[a1]? = some (.cells [(str a0.1), (Vi .i64 a0.2)].toArray 119 (0, 0))) j_ w_ w_' ∧ True) [false, false, false, false, false, false, false, false, false, false, false, false, false, false, false, false, false, false] (fun _ _ => ⟨abv.same, trivial⟩) (by kernel_rfl) (by kernel_rfl) hH rfl (aal acf) fun b5 a6 => rp 14 [0] (ro 1 rfl (aad 112 #[] [(Vp (some ⟨a1, 0, none⟩))] _ ent112 (by kernel_rfl) (by kernel_rfl) (aes a1 b2 (hG.hp a6 hS) (a6.hand (L1 := [blk a1 [(str a0.1), (Vi .i64 a0.2)] 119]) (L2 := [])) (a6.highs hG hS 1 rfl)) ?_))
  rintro _ b0 ⟨rfl, a5⟩
  have a3 : Hp w (aaj [blk a1 [(str a0.1), (Vi .i64 a0.2)] 119]) [blk a1 [(str a0.1), (Vi .i64 a0.2)] 119] b0 := Hp.callK (L1 := [blk a1 [(str a0.1), (Vi .i64 a0.2)] 119]) (L2 := []) a6 a5; clear a5
  refine wl (abk (by exact ⟨abv.new (a3.blkAt 0 rfl), trivial⟩) (rp 12 [2] (rt 3 (Vb true) rfl rfl (aai rfl (by intro w hS_; exact Eq.trans (b := Result.ok (Next.value (.bool (!a9))) w) (by kernel_rfl) (congrArg (fun b => Result.ok (Next.value (.bool b)) w) a4))) (rp 7 [4, 5, 6, 7] (aag [true, true, true, true, true, true, true, true, true, false, false, false, false, false, false, false, false, false] 8 13 (str a0.1) [13, 15, 16, 17] (fun _ _ _ h => h.1) _ rfl rfl (by kernel_rfl) (by kernel_rfl) (by kernel_rfl) (by kernel_rfl) (by kernel_rfl) rfl (akb 8 (by kernel_rfl) (by kernel_rfl) (by kernel_rfl) (by intro w hS_; exact (afx a1 0 [(str a0.1), (Vi .i64 a0.2)] 119 (str a0.1) hS_ rfl (by kernel_rfl) (by kernel_rfl)))) (by exact a3.blkAt 0 rfl) (rp 3 [9, 10, 11] (aag [true, true, true, true, true, true, true, true, true, true, true, true, true, false, false, false, false, false] 12 17 (Vi .i64 a0.2) [13, 15, 16, 17] (fun _ _ _ h => h.1) _ rfl rfl (by kernel_rfl) (by kernel_rfl) (by kernel_rfl) (by kernel_rfl) (by kernel_rfl) rfl (akb 8 (by kernel_rfl) (by kernel_rfl) (by kernel_rfl) (by intro w hS_; exact (afx a1 1 [(str a0.1), (Vi .i64 a0.2)] 119 (Vi .i64 a0.2) hS_ rfl (by kernel_rfl) (by kernel_rfl)))) (by exact a3.blkAt 0 rfl) (rt 13 (bt (at_ a0.1 a0.2)) rfl rfl (akb 8 (by kernel_rfl) (by kernel_rfl) (by kernel_rfl) (by intro w hS_; exact (x_index a0.1 .i64 a0.2 Tryz.underlying9 (by kernel_rfl) (by kernel_rfl) b3))) (rp 0 [14] ?_)))))))))
  refine acw (by kernel_rfl) (gy 8 (ack (at_ a0.1 a0.2) a8 (by kernel_rfl) (by kernel_rfl) (wp 2 (wl (ql ?_)))))
  obtain rfl := oi a2
  exact je a3.kp
  replace a2 := cff a4 a2
  refine adm 15 (fun j_ w_ w_' => abv [13, 15, 16, 17] (fun w' => w'.heap[a1]? = some (.cells [(str a0.1), (Vi .i64 a0.2)].toArray 119 (0, 0))) j_ w_ w_' ∧ True) [false, false, false, false, false, false, false, false, false, false, false, false, false, false, false, false, false, false] (fun _ _ => ⟨abv.same, trivial⟩) (by kernel_rfl) (by kernel_rfl) hH rfl (aal acf) fun b6 a7 => rp 14 [0] (ro 1 rfl (aad 112 #[] [(Vp (some ⟨a1, 0, none⟩))] _ ent112 (by kernel_rfl) (by kernel_rfl) (aes a1 b2 (hG.hp a7 hS) (a7.hand (L1 := [blk a1 [(str a0.1), (Vi .i64 a0.2)] 119]) (L2 := [])) (a7.highs hG hS 1 rfl)) ?_))
  rintro _ b0 ⟨rfl, a5⟩
  have a3 : Hp w (aaj [blk a1 [(str a0.1), (Vi .i64 a0.2)] 119]) [blk a1 [(str a0.1), (Vi .i64 a0.2)] 119] b0 := Hp.callK (L1 := [blk a1 [(str a0.1), (Vi .i64 a0.2)] 119]) (L2 := []) a7 a5; clear a5
  refine wl (abk (by exact ⟨abv.new (a3.blkAt 0 rfl), trivial⟩) (rp 12 [2] (rt 3 (Vb false) rfl rfl (aai rfl (by intro w hS_; exact Eq.trans (b := Result.ok (Next.value (.bool (!a9))) w) (by kernel_rfl) (congrArg (fun b => Result.ok (Next.value (.bool b)) w) a4))) (rp 0 [4, 5, 6, 7, 8, 9, 10, 11, 12, 13, 14] (acw (by kernel_rfl) (wp 3 (wl (ql ?_))))))))
  obtain rfl := oi a2
  exact je a3.kp
  intro b7 G b4
  refine ct ?_
  obtain rfl := oi hr
  refine ana (Vb b1) rfl (by kernel_rfl) ?_
  exact ⟨(by first | rfl | (simp; done) | (simp; omega)), b4.kp⟩
theorem K_L_lexis_char_escaped {fu : Nat} {a1 : UInt8} {w : World} {r : Bool} (hr : ajo fu a1 = some r) (hG : Gl w) : CR Tryz.prog 196 [(bt a1)] w fun v w' => v = (Vb r) ∧ Hp w [] [] w' := by
  have hH : Hp w [] [] w := Hp.refl w
  refine enter (k := 9) Tryz.func196 rfl rfl (Nat.le_of_ble_eq_true rfl) ?_
  unfold ajo at hr
  refine sr (wp 1 (nq (bi hr fun v5 a0 hr => agq hH [2] [(2, (Vb v5))] ?_ ?_)))
  refine cr (wp 1 (amq a1 (32 : UInt8) (by kernel_rfl) (by kernel_rfl) (wd a0 (fun h6 a0 => ?_) (fun h6 a0 => ?_))))
  refine wp 1 (gy 5 (amp a1 (126 : UInt8) (by kernel_rfl) (by kernel_rfl) (wp 2 (wl (ql ?_)))))
  obtain rfl := oi a0
  exact je hH.kp
  refine wp 4 (wl (ql ?_))
  obtain rfl := oi a0
  exact je hH.kp
  intro w7 G a2
  refine ct ?_
  obtain rfl := oi hr
  exact rv a2.kp
theorem aku {fu : Nat} {a1 : UInt8} {w : World} {r : Bool} (hr : ahg fu a1 = some r) (hG : Gl w) : CR Tryz.prog 162 [(bt a1)] w fun v w' => v = (Vb r) ∧ Hp w [] [] w' := by
  have hH : Hp w [] [] w := Hp.refl w
  refine enter (k := 13) Tryz.func162 rfl rfl (Nat.le_of_ble_eq_true rfl) ?_
  unfold ahg at hr
  refine sr (wp 1 (nq (bi hr fun v6 a0 hr => agq hH [2] [(2, (Vb v6))] ?_ ?_)))
  refine cr (wp 1 (w8_lss a1 (32 : UInt8) (by kernel_rfl) (by kernel_rfl) (wd a0 (fun h7 a0 => ?_) (fun h7 a0 => ?_))))
  refine wp 1 (gy 5 (aec a1 (9 : UInt8) (by kernel_rfl) (by kernel_rfl) (wp 1 (wn a0 (fun h8 a0 => ?_) (fun h8 a0 => ?_)))))
  refine wp 4 (wl (ql ?_))
  obtain rfl := oi a0
  exact je hH.kp
  refine wp 1 (gy 9 (ack a1 (127 : UInt8) (by kernel_rfl) (by kernel_rfl) (wp 2 (wl (ql ?_)))))
  obtain rfl := oi a0
  exact je hH.kp
  refine wp 5 (gy 9 (ack a1 (127 : UInt8) (by kernel_rfl) (by kernel_rfl) (wp 2 (wl (ql ?_)))))
  obtain rfl := oi a0
  exact je hH.kp
  intro w9 G a2
  refine ct ?_
  obtain rfl := oi hr
  exact rv a2.kp
end Go.Proofs
set_option linter.unusedVariables false
set_option linter.unusedSimpArgs false
set_option maxRecDepth 20000
set_option maxHeartbeats 1000000
namespace Go.Proofs
open Go.Wk Go.Px
open Go.Value renaming slice → Vs, int → Vi, bool → Vb, pointer → Vp
theorem ent56 : Go.Wk.Enters Tryz.prog 56 := ⟨Tryz.f56, _, Tryz.func56, rfl, by kernel_rfl⟩
theorem ent80 : Go.Wk.Enters Tryz.prog 80 := ⟨Tryz.f80, _, Tryz.func80, rfl, by kernel_rfl⟩
theorem ent111 : Go.Wk.Enters Tryz.prog 111 := ⟨Tryz.f111, _, Tryz.func111, rfl, by kernel_rfl⟩
theorem als : Go.Wk.Enters Tryz.prog 113 := ⟨Tryz.f113, _, Tryz.func113, rfl, by kernel_rfl⟩
theorem ent145 : Go.Wk.Enters Tryz.prog 145 := ⟨Tryz.f145, _, Tryz.func145, rfl, by kernel_rfl⟩
theorem ent162 : Go.Wk.Enters Tryz.prog 162 := ⟨Tryz.f162, _, Tryz.func162, rfl, by kernel_rfl⟩
theorem ent176 : Go.Wk.Enters Tryz.prog 176 := ⟨Tryz.f176, _, Tryz.func176, rfl, by kernel_rfl⟩
theorem ent196 : Go.Wk.Enters Tryz.prog 196 := ⟨Tryz.f196, _, Tryz.func196, rfl, by kernel_rfl⟩
theorem ale {fu : Nat} {s_0 : Str} {b0 : Int} {w : World} {r : (Str × Int × UInt8)} (hr : aiy fu s_0 b0 = some r) (hG : Gl w) : CR Tryz.prog 145 [(str s_0), (Vi .i64 b0)] w fun v w' => v = (Value.tuple #[(str r.1), (Vi .i64 r.2.1), (bt r.2.2)]) ∧ Hp w [] [] w' := by
  have hH : Hp w [] [] w := Hp.refl w
  refine enter (k := 82) Tryz.func145 rfl rfl (Nat.le_of_ble_eq_true rfl) ?_
  unfold aiy at hr
  refine sr (wp 3 (nq (c_scope (cs (bi hr fun v5 b1 hr => agq hH [0, 1, 4, 5, 6, 17] [(17, (Vb v5))] ?_ ?_)))))
  refine cr (wp 2 (wd b1 (fun h6 b1 => ?_) (fun h6 b1 => ?_)))
  refine wp 5 (wl (ql ?_))
  obtain rfl := oi b1
  exact je hH.kp
  refine wp 5 (wl (ql ?_))
  obtain rfl := oi b1
  exact je hH.kp
  intro w7 G b4
  refine cb hr (fun h9 hr => ?_) (fun h9 hr => ?_)
  refine sr (wp 3 (nq (ct (st (n_ret ?_)))))
  obtain rfl := oi hr
  exact rv b4.kp
  refine ck (qn (cs (bi hr fun d3 a7 hr => agq b4 [0, 1, 4, 5, 6, 27] [(27, (Vb d3))] ?_ ?_)))
  refine cr (wp 4 (wd a7 (fun d4 a7 => ?_) (fun d4 a7 => ?_)))
  refine wp 5 (wl (ql ?_))
  obtain rfl := oi a7
  exact je b4.kp
  refine wp 2 (gy 22 (gi a7 fun d5 a7 => adz s_0 .i64 b0 Tryz.underlying9 (by kernel_rfl) (by kernel_rfl) d5 (gy 22 (aec (at_ s_0 b0) (34 : UInt8) (by kernel_rfl) (by kernel_rfl) (wp 1 (wl (ql ?_)))))))
  obtain rfl := oi a7
  exact je b4.kp
  intro g3 G c1
  refine cb hr (fun d6 hr => ?_) (fun d6 hr => ?_)
  refine sr (wp 4 (nq (ct (st (n_ret ?_)))))
  obtain rfl := oi hr
  exact rv c1.kp
  refine ck (qn (sr (wp 1 (nq (sr (wp 1 ?_))))))
  refine gi hr fun d7 hr => aac b0 (1 : Int) (by kernel_rfl) (by kernel_rfl) d7 (wp 1 (nq (cs (c_label (qn (bi hr fun c2 d8 hr => cut (σ := ((List UInt8) × Int) × (Option Nat) × (Option Addr) × Nat) [0, 4, 5, 6, 7, 8] (fun ⟨a3, b5, b2, b3⟩ => [(7, (Vs b2 a3.1.length b3)), (8, (Vi .i64 a3.2))]) (fun ⟨a3, b5, b2, b3⟩ w' => Hp w [] [rwt eB 5 1 b5 b2 b3 a3.1] w' ∧ .inl a3 = c2) ?_ ?_))))))
  refine ce (lpG (σ := Nat × (List UInt8) × Int × (Option Nat) × (Option Addr) × Nat) [0, 4, 5, 6, 7, 8] (fun ⟨a8, a2, a1, a6, a4, a5⟩ => [(7, (Vs a4 a2.length a5)), (8, (Vi .i64 a1))]) (fun ⟨a8, a2, a1, a6, a4, a5⟩ w' => Hp w [] [rwt eB 5 1 a6 a4 a5 a2] w' ∧ agk fu s_0 a8 a2 a1 = some c2) (fun ⟨a8, a2, a1, a6, a4, a5⟩ => a8) (fu, ([] : List UInt8), b0 + (1 : Int), none, none, 0) (by exact ⟨(Hp.nilrw c1 eB 5 1 none).kp, d8⟩) ?_ (mc (by kernel_rfl) (mc (by kernel_rfl) (mc (by kernel_rfl) (mc (by kernel_rfl) (mc (Eq.trans (b := (Vs none 0 0)) (by kernel_rfl) (aae (by (try simp only [List.length_set]) <;> first | rfl | omega | simp))) (mc (by kernel_rfl) rfl)))))))
  rintro ⟨_ | a8, a2, a1, a6, a4, a5⟩ g4 G ⟨a9, a0⟩
  · exact absurd (show none = some _ from a0) (by simp)
  rw [agk.eq_2] at a0
  refine cs (sr (wp 4 (nq (cd a0 (fun d9 a0 => ?_) (fun d9 a0 => ?_)))))
  refine ck (qn (ce (sr (wp 2 (gi a0 fun e0 a0 => adz s_0 .i64 a1 Tryz.underlying9 (by kernel_rfl) (by kernel_rfl) e0 (wp 1 (wl ?_)))))))
  refine qn (cs (ce (sr (wp 1 (ack (at_ s_0 a1) (34 : UInt8) (by kernel_rfl) (by kernel_rfl) (wp 1 (nq (cd a0 (fun e1 a0 => ?_) (fun e1 a0 => ?_)))))))))
  refine ach (b_past (by kernel_rfl) (acg (b_past (by kernel_rfl) (acq (aci (ql ?_))))))
  obtain rfl := oi a0
  exact ⟨((a2, a1), a6, a4, a5), _, rfl, by kernel_rfl, a9.kp, rfl⟩
  refine sr (wp 1 (ack (at_ s_0 a1) (92 : UInt8) (by kernel_rfl) (by kernel_rfl) (wp 1 (nq (cd a0 (fun e2 a0 => ?_) (fun e2 a0 => ?_))))))
  refine cs (sr (wp 1 (gi a0 fun e3 a0 => aac a1 (1 : Int) (by kernel_rfl) (by kernel_rfl) e3 (wp 3 (nq (cd a0 (fun e4 a0 => ?_) (fun e4 a0 => ?_)))))))
  refine sr (wp 5 (nq (ct (st (bt_ (st (bt_ ?_)))))))
  refine acp (bt_ (acp ?_))
  obtain rfl := oi a0
  refine n_ret ?_
  obtain rfl := oi hr
  exact rv a9.kp
  refine ck (qn (cs (sr (wp 2 (gi a0 fun e5 a0 => aac a1 (1 : Int) (by kernel_rfl) (by kernel_rfl) e5 (gi a0 fun e6 a0 => adz s_0 .i64 (a1 + (1 : Int)) Tryz.underlying9 (by kernel_rfl) (by kernel_rfl) e6 ?_))))))
  refine bi a0 fun g5 e7 a0 => wc ent196 a9 (K_L_lexis_char_escaped e7 (hG.hp0 a9)) fun g6 c3 => wp 1 (nq (cb a0 (fun e8 a0 => ?_) (fun e8 a0 => ?_)))
  refine sr (wp 4 (nq (ct (st (bt_ (st (bt_ ?_)))))))
  refine acp (bt_ (acp ?_))
  obtain rfl := oi a0
  refine n_ret ?_
  obtain rfl := oi hr
  exact rv c3.kp
  refine ck (qn (cr (wp 1 (gi a0 fun e9 a0 => aac a1 (1 : Int) (by kernel_rfl) (by kernel_rfl) e9 (wp 1 (wl (bn (qn ?_))))))))
  refine sr (wp 3 (gi a0 fun f0 a0 => adz s_0 .i64 (a1 + (1 : Int)) Tryz.underlying9 (by kernel_rfl) (by kernel_rfl) f0 (adl c3 [(bt (at_ s_0 (a1 + (1 : Int))))] 5 (fun b => (Vs (some ⟨b, 0, none⟩) 1 1)) rfl rfl (by kernel_rfl) fun b6 g7 c4 => gi a0 fun f1 a0 => adw c4 1 a6 a4 (some ⟨b6, 0, none⟩) a5 1 5 1 1 a2 ([at_ s_0 (a1 + (1 : Int))] : List UInt8) aks rfl Tryz.underlying92 (by unfold TI; kernel_rfl) (by decide) (by decide) (by kernel_rfl) (Eq.trans (b := (Vs (some ⟨b6, 0, none⟩) 1 1)) (by kernel_rfl) (aae (by first | rfl | (simp; done) | omega | (simp; omega) | (rw [List.length_take]; omega)))) (c4.rdblk 0 rfl) f1 fun c5 c6 c7 f2 b7 => ?_)))
  replace b7 : Hp w [] [blk b6 [(bt (at_ s_0 (a1 + (1 : Int))))] 5, rwt eB 5 1 c5 c6 c7 (a2 ++ ([at_ s_0 (a1 + (1 : Int))] : List UInt8))] f2 := b7
  refine wp 1 (nq (cr (wp 1 (gi a0 fun f3 a0 => aac (a1 + (1 : Int)) (1 : Int) (by kernel_rfl) (by kernel_rfl) f3 (wp 1 (wl (bn ?_)))))))
  refine ql ?_
  exact ⟨(a8, a2 ++ ([at_ s_0 (a1 + (1 : Int))] : List UInt8), (a1 + (1 : Int)) + (1 : Int), c5, c6, c7), _, rfl, by kernel_rfl, ⟨(Hp.front b7 1 _ rfl).kp, a0⟩, Nat.lt_succ_self _⟩
  refine sr (wp 1 (bi a0 fun g8 f4 a0 => wc ent162 a9 (aku f4 (hG.hp0 a9)) fun g9 c8 => wp 1 (nq (cb a0 (fun f5 a0 => ?_) (fun f5 a0 => ?_)))))
  refine sr (wp 4 (nq (ct (bt_ (st (bt_ (acp ?_)))))))
  refine bt_ (acp ?_)
  obtain rfl := oi a0
  refine n_ret ?_
  obtain rfl := oi hr
  exact rv c8.kp
  refine ck (bn (qn (sr (wp 3 (gi a0 fun f6 a0 => adz s_0 .i64 a1 Tryz.underlying9 (by kernel_rfl) (by kernel_rfl) f6 (adl c8 [(bt (at_ s_0 a1))] 5 (fun b => (Vs (some ⟨b, 0, none⟩) 1 1)) rfl rfl (by kernel_rfl) fun b8 h0 c9 => gi a0 fun f7 a0 => ?_))))))
  refine adw c9 1 a6 a4 (some ⟨b8, 0, none⟩) a5 1 5 1 1 a2 ([at_ s_0 a1] : List UInt8) aks rfl Tryz.underlying92 (by unfold TI; kernel_rfl) (by decide) (by decide) (by kernel_rfl) (Eq.trans (b := (Vs (some ⟨b8, 0, none⟩) 1 1)) (by kernel_rfl) (aae (by first | rfl | (simp; done) | omega | (simp; omega) | (rw [List.length_take]; omega)))) (c9.rdblk 0 rfl) f7 fun d0 d1 d2 f8 b9 => ?_
  replace b9 : Hp w [] [blk b8 [(bt (at_ s_0 a1))] 5, rwt eB 5 1 d0 d1 d2 (a2 ++ ([at_ s_0 a1] : List UInt8))] f8 := b9
  refine wp 1 (nq (cr (wp 1 (gi a0 fun f9 a0 => aac a1 (1 : Int) (by kernel_rfl) (by kernel_rfl) f9 (wp 1 (wl (bn ?_)))))))
  refine ql ?_
  exact ⟨(a8, a2 ++ ([at_ s_0 a1] : List UInt8), a1 + (1 : Int), d0, d1, d2), _, rfl, by kernel_rfl, ⟨(Hp.front b9 1 _ rfl).kp, a0⟩, Nat.lt_succ_self _⟩
  refine ach (acg (acq (aci (ql ?_))))
  obtain rfl := oi a0
  exact ⟨((a2, a1), a6, a4, a5), _, rfl, by kernel_rfl, a9.kp, rfl⟩
  rintro ⟨a3, b5, b2, b3⟩ g0 G ⟨c0, rfl⟩
  refine cs (sr (wp 4 (nq (cd hr (fun g1 hr => ?_) (fun g1 hr => ?_)))))
  refine sr (wp 5 (nq (ct (st (n_ret ?_)))))
  obtain rfl := oi hr
  exact rv c0.kp
  refine ck (qn (sr (wp 1 (aed (v := (str a3.1)) (w' := g0) rfl rfl (anm a3.1 b2 a3.1.length b3 5 (Rd.bytes (c0.rdrw 0 rfl)) (by first | rfl | (simp; done) | omega | (simp; omega) | (rw [List.length_take]; omega)) Tryz.underlying92 Tryz.underlying9 Tryz.underlying5 (by kernel_rfl)) (wp 1 (gi hr fun g2 hr => aac a3.2 (1 : Int) (by kernel_rfl) (by kernel_rfl) g2 (wp 3 ?_)))))))
  refine nq (ct (n_ret ?_))
  obtain rfl := oi hr
  exact rv c0.kp
theorem alr {fu : Nat} {b0 : (Str × Int)} {a3 : (Str × (Str × Str × Str × Int × (List (Str × Str × Bool)) × (List (Str × Str × Bool))) × (List (Str × Str × Bool)))} (b1 : Nat) (b2 : Nat) (b3 : Option Nat) (a4 : Option Addr) (a5 : Nat) (b4 : Option Nat) (a6 : Option Addr) (a7 : Nat) (b5 : Option Nat) (a8 : Option Addr) (a9 : Nat) {w : World} {r : (Int × UInt8 × (Str × Int) × (Str × (Str × Str × Str × Int × (List (Str × Str × Bool)) × (List (Str × Str × Bool))) × (List (Str × Str × Bool))))} (hr : ago fu b0 a3 = some r) (hG : Gl w) (hM : Hp w (aaj [blk b1 [(str b0.1), (Vi .i64 b0.2)] 119, blk b2 [(str a3.1), (str a3.2.1.1), (str a3.2.1.2.1), (str a3.2.1.2.2.1), (Vi .i64 a3.2.1.2.2.2.1), (Vs a4 a3.2.1.2.2.2.2.1.length a5), (Vs a6 a3.2.1.2.2.2.2.2.length a7), (Vs a8 a3.2.2.length a9)] 70, rwt aaa 46 3 b3 a4 a5 a3.2.1.2.2.2.2.1, rwt aaa 46 3 b4 a6 a7 a3.2.1.2.2.2.2.2, rwt aaa 46 3 b5 a8 a9 a3.2.2]) [blk b1 [(str b0.1), (Vi .i64 b0.2)] 119, blk b2 [(str a3.1), (str a3.2.1.1), (str a3.2.1.2.1), (str a3.2.1.2.2.1), (Vi .i64 a3.2.1.2.2.2.1), (Vs a4 a3.2.1.2.2.2.2.1.length a5), (Vs a6 a3.2.1.2.2.2.2.2.length a7), (Vs a8 a3.2.2.length a9)] 70, rwt aaa 46 3 b3 a4 a5 a3.2.1.2.2.2.2.1, rwt aaa 46 3 b4 a6 a7 a3.2.1.2.2.2.2.2, rwt aaa 46 3 b5 a8 a9 a3.2.2] w) (hS : ∀ b ∈ aaj [blk b1 [(str b0.1), (Vi .i64 b0.2)] 119, blk b2 [(str a3.1), (str a3.2.1.1), (str a3.2.1.2.1), (str a3.2.1.2.2.1), (Vi .i64 a3.2.1.2.2.2.1), (Vs a4 a3.2.1.2.2.2.2.1.length a5), (Vs a6 a3.2.1.2.2.2.2.2.length a7), (Vs a8 a3.2.2.length a9)] 70, rwt aaa 46 3 b3 a4 a5 a3.2.1.2.2.2.2.1, rwt aaa 46 3 b4 a6 a7 a3.2.1.2.2.2.2.2, rwt aaa 46 3 b5 a8 a9 a3.2.2], 9 ≤ b) : CR Tryz.prog 148 [(Vp (some ⟨b1, 0, none⟩)), (Vp (some ⟨b2, 0, none⟩))] w fun v w' => ∃ (o0 : Option Nat), ∃ (a0 : Option Addr), ∃ (cap0 : Nat), ∃ (o1 : Option Nat), ∃ (a1 : Option Addr), ∃ (cap1 : Nat), ∃ (o2 : Option Nat), ∃ (a2 : Option Addr), ∃ (cap2 : Nat), v = (Value.tuple #[(Vi .i64 r.1), (bt r.2.1)]) ∧ Hp w (aaj [blk b1 [(str b0.1), (Vi .i64 b0.2)] 119, blk b2 [(str a3.1), (str a3.2.1.1), (str a3.2.1.2.1), (str a3.2.1.2.2.1), (Vi .i64 a3.2.1.2.2.2.1), (Vs a4 a3.2.1.2.2.2.2.1.length a5), (Vs a6 a3.2.1.2.2.2.2.2.length a7), (Vs a8 a3.2.2.length a9)] 70, rwt aaa 46 3 b3 a4 a5 a3.2.1.2.2.2.2.1, rwt aaa 46 3 b4 a6 a7 a3.2.1.2.2.2.2.2, rwt aaa 46 3 b5 a8 a9 a3.2.2]) [blk b1 [(str r.2.2.1.1), (Vi .i64 r.2.2.1.2)] 119, blk b2 [(str r.2.2.2.1), (str r.2.2.2.2.1.1), (str r.2.2.2.2.1.2.1), (str r.2.2.2.2.1.2.2.1), (Vi .i64 r.2.2.2.2.1.2.2.2.1), (Vs a0 r.2.2.2.2.1.2.2.2.2.1.length cap0), (Vs a1 r.2.2.2.2.1.2.2.2.2.2.length cap1), (Vs a2 r.2.2.2.2.2.length cap2)] 70, rwt aaa 46 3 o0 a0 cap0 r.2.2.2.2.1.2.2.2.2.1, rwt aaa 46 3 o1 a1 cap1 r.2.2.2.2.1.2.2.2.2.2, rwt aaa 46 3 o2 a2 cap2 r.2.2.2.2.2] w' := by
  have hH : Hp w (aaj [blk b1 [(str b0.1), (Vi .i64 b0.2)] 119, blk b2 [(str a3.1), (str a3.2.1.1), (str a3.2.1.2.1), (str a3.2.1.2.2.1), (Vi .i64 a3.2.1.2.2.2.1), (Vs a4 a3.2.1.2.2.2.2.1.length a5), (Vs a6 a3.2.1.2.2.2.2.2.length a7), (Vs a8 a3.2.2.length a9)] 70, rwt aaa 46 3 b3 a4 a5 a3.2.1.2.2.2.2.1, rwt aaa 46 3 b4 a6 a7 a3.2.1.2.2.2.2.2, rwt aaa 46 3 b5 a8 a9 a3.2.2]) [blk b1 [(str b0.1), (Vi .i64 b0.2)] 119, blk b2 [(str a3.1), (str a3.2.1.1), (str a3.2.1.2.1), (str a3.2.1.2.2.1), (Vi .i64 a3.2.1.2.2.2.1), (Vs a4 a3.2.1.2.2.2.2.1.length a5), (Vs a6 a3.2.1.2.2.2.2.2.length a7), (Vs a8 a3.2.2.length a9)] 70, rwt aaa 46 3 b3 a4 a5 a3.2.1.2.2.2.2.1, rwt aaa 46 3 b4 a6 a7 a3.2.1.2.2.2.2.2, rwt aaa 46 3 b5 a8 a9 a3.2.2] w := hM
  refine enter (k := 44) Tryz.func148 rfl rfl (Nat.le_of_ble_eq_true rfl) ?_
  unfold ago at hr
  refine sr (wp 2 (nq (cs (bi hr fun y1 c4 hr => adm 16 (fun j_ w_ w_' => abv [9, 10, 11, 12, 13, 14, 15, 16] (fun w' => w'.heap[b1]? = some (.cells [(str b0.1), (Vi .i64 b0.2)].toArray 119 (0, 0))) j_ w_ w_' ∧ True) [false, false, false, false, false, false, false, false, false, false, false, false, false, false, false, false, false] (fun _ _ => ⟨abv.same, trivial⟩) (by kernel_rfl) (by kernel_rfl) hH rfl (adb acf) fun w6 b7 => rp 12 [0, 1, 2, 3] (aag [true, true, true, true, true, false, false, false, false, false, false, false, false, false, false, false, false] 4 14 (str b0.1) [9, 10, 11, 12, 13, 14, 15, 16] (fun _ _ _ h => h.1) _ rfl rfl (by kernel_rfl) (by kernel_rfl) (by kernel_rfl) (by kernel_rfl) (by kernel_rfl) rfl (aai rfl (by intro w hS_; exact (afx b1 0 [(str b0.1), (Vi .i64 b0.2)] 119 (str b0.1) hS_ rfl (by kernel_rfl) (by kernel_rfl)))) (by exact b7.blkAt 0 rfl) ?_)))))
  refine rp 8 [5, 6, 7] (aag [true, true, true, true, true, true, true, true, true, false, false, false, false, false, false, false, false] 8 18 (Vi .i64 b0.2) [9, 10, 11, 12, 13, 14, 15, 16] (fun _ _ _ h => h.1) _ rfl rfl (by kernel_rfl) (by kernel_rfl) (by kernel_rfl) (by kernel_rfl) (by kernel_rfl) rfl (aai rfl (by intro w hS_; exact (afx b1 1 [(str b0.1), (Vi .i64 b0.2)] 119 (Vi .i64 b0.2) hS_ rfl (by kernel_rfl) (by kernel_rfl)))) (by exact b7.blkAt 0 rfl) (ro 9 rfl (wc ent145 b7 (ale c4 (hG.hp b7 hS)) fun w3 c1 => wl (abk (by exact ⟨abv.out rfl, trivial⟩) (rp 0 [10, 11, 12, 13, 14, 15] (acw (by kernel_rfl) (wp 1 (wl ?_))))))))
  refine qn (cs (sr (wp 1 (aec y1.2.2 (0 : UInt8) (by kernel_rfl) (by kernel_rfl) (nq (cn hr (fun h8 hr => ?_) (fun h8 hr => ?_)))))))
  refine sr (wp 4 (nq (ct (st ?_))))
  obtain rfl := oi hr
  refine ajc (Vi .i64 y1.2.1) (bt y1.2.2) rfl (by kernel_rfl) (by kernel_rfl) ?_
  exact ⟨b3, a4, a5, b4, a6, a7, b5, a8, a9, (by first | rfl | (simp; done) | (simp; omega)), (Hp.front (Hp.front (Hp.front (Hp.front (Hp.front c1 4 _ rfl) 4 _ rfl) 4 _ rfl) 4 _ rfl) 4 _ rfl).kp⟩
  refine ck (qn (sr (wp 6 (aeu c1 1 b2 0 [(str a3.1), (str a3.2.1.1), (str a3.2.1.2.1), (str a3.2.1.2.2.1), (Vi .i64 a3.2.1.2.2.2.1), (Vs a4 a3.2.1.2.2.2.2.1.length a5), (Vs a6 a3.2.1.2.2.2.2.2.length a7), (Vs a8 a3.2.2.length a9)] 70 (str y1.1) [blk b1 [(str b0.1), (Vi .i64 b0.2)] 119, blk b2 [(str y1.1), (str a3.2.1.1), (str a3.2.1.2.1), (str a3.2.1.2.2.1), (Vi .i64 a3.2.1.2.2.2.1), (Vs a4 a3.2.1.2.2.2.2.1.length a5), (Vs a6 a3.2.1.2.2.2.2.2.length a7), (Vs a8 a3.2.2.length a9)] 70, rwt aaa 46 3 b3 a4 a5 a3.2.1.2.2.2.2.1, rwt aaa 46 3 b4 a6 a7 a3.2.1.2.2.2.2.2, rwt aaa 46 3 b5 a8 a9 a3.2.2] rfl (Nat.lt_of_lt_of_le (Nat.lt_succ_self _) (Nat.le_of_ble_eq_true rfl)) (by kernel_rfl) (by kernel_rfl) rfl (by kernel_rfl) rfl fun w9 c5 => wp 2 (aeu c5 0 b1 1 [(str b0.1), (Vi .i64 b0.2)] 119 (Vi .i64 y1.2.1) [blk b1 [(str b0.1), (Vi .i64 y1.2.1)] 119, blk b2 [(str y1.1), (str a3.2.1.1), (str a3.2.1.2.1), (str a3.2.1.2.2.1), (Vi .i64 a3.2.1.2.2.2.1), (Vs a4 a3.2.1.2.2.2.2.1.length a5), (Vs a6 a3.2.1.2.2.2.2.2.length a7), (Vs a8 a3.2.2.length a9)] 70, rwt aaa 46 3 b3 a4 a5 a3.2.1.2.2.2.2.1, rwt aaa 46 3 b4 a6 a7 a3.2.1.2.2.2.2.2, rwt aaa 46 3 b5 a8 a9 a3.2.2] rfl (Nat.lt_of_lt_of_le (Nat.lt_succ_self _) (Nat.le_of_ble_eq_true rfl)) (by kernel_rfl) (by kernel_rfl) rfl (by kernel_rfl) rfl fun d1 b8 => nq ?_)))))
  refine sr (wp 1 (bi hr fun b6 c6 hr => aad 111 #[] [(Vp (some ⟨b1, 0, none⟩))] _ ent111 (by kernel_rfl) (by kernel_rfl) (adc b1 c6 (hG.hp b8 hS) (b8.hand (L1 := [blk b1 [(str b0.1), (Vi .i64 y1.2.1)] 119]) (L2 := [blk b2 [(str y1.1), (str a3.2.1.1), (str a3.2.1.2.1), (str a3.2.1.2.2.1), (Vi .i64 a3.2.1.2.2.2.1), (Vs a4 a3.2.1.2.2.2.2.1.length a5), (Vs a6 a3.2.1.2.2.2.2.2.length a7), (Vs a8 a3.2.2.length a9)] 70, rwt aaa 46 3 b3 a4 a5 a3.2.1.2.2.2.2.1, rwt aaa 46 3 b4 a6 a7 a3.2.1.2.2.2.2.2, rwt aaa 46 3 b5 a8 a9 a3.2.2])) (b8.highs hG hS 1 rfl)) ?_))
  rintro _ c7 ⟨rfl, c2⟩
  have b9 : Hp w (aaj [blk b1 [(str b0.1), (Vi .i64 b0.2)] 119, blk b2 [(str a3.1), (str a3.2.1.1), (str a3.2.1.2.1), (str a3.2.1.2.2.1), (Vi .i64 a3.2.1.2.2.2.1), (Vs a4 a3.2.1.2.2.2.2.1.length a5), (Vs a6 a3.2.1.2.2.2.2.2.length a7), (Vs a8 a3.2.2.length a9)] 70, rwt aaa 46 3 b3 a4 a5 a3.2.1.2.2.2.2.1, rwt aaa 46 3 b4 a6 a7 a3.2.1.2.2.2.2.2, rwt aaa 46 3 b5 a8 a9 a3.2.2]) [blk b1 [(str b6.1), (Vi .i64 b6.2)] 119, blk b2 [(str y1.1), (str a3.2.1.1), (str a3.2.1.2.1), (str a3.2.1.2.2.1), (Vi .i64 a3.2.1.2.2.2.1), (Vs a4 a3.2.1.2.2.2.2.1.length a5), (Vs a6 a3.2.1.2.2.2.2.2.length a7), (Vs a8 a3.2.2.length a9)] 70, rwt aaa 46 3 b3 a4 a5 a3.2.1.2.2.2.2.1, rwt aaa 46 3 b4 a6 a7 a3.2.1.2.2.2.2.2, rwt aaa 46 3 b5 a8 a9 a3.2.2] c7 := Hp.callK (L1 := [blk b1 [(str b0.1), (Vi .i64 y1.2.1)] 119]) (L2 := [blk b2 [(str y1.1), (str a3.2.1.1), (str a3.2.1.2.1), (str a3.2.1.2.2.1), (Vi .i64 a3.2.1.2.2.2.1), (Vs a4 a3.2.1.2.2.2.2.1.length a5), (Vs a6 a3.2.1.2.2.2.2.2.length a7), (Vs a8 a3.2.2.length a9)] 70, rwt aaa 46 3 b3 a4 a5 a3.2.1.2.2.2.2.1, rwt aaa 46 3 b4 a6 a7 a3.2.1.2.2.2.2.2, rwt aaa 46 3 b5 a8 a9 a3.2.2]) b8 c2; clear c2
  refine nq (cs (sr (wp 1 (bi hr fun d2 c8 hr => aad 113 #[] [(Vp (some ⟨b1, 0, none⟩)), (bt (60 : UInt8))] _ als (by kernel_rfl) (by kernel_rfl) (aar b1 c8 (hG.hp b9 hS) (b9.hand (L1 := [blk b1 [(str b6.1), (Vi .i64 b6.2)] 119]) (L2 := [blk b2 [(str y1.1), (str a3.2.1.1), (str a3.2.1.2.1), (str a3.2.1.2.2.1), (Vi .i64 a3.2.1.2.2.2.1), (Vs a4 a3.2.1.2.2.2.2.1.length a5), (Vs a6 a3.2.1.2.2.2.2.2.length a7), (Vs a8 a3.2.2.length a9)] 70, rwt aaa 46 3 b3 a4 a5 a3.2.1.2.2.2.2.1, rwt aaa 46 3 b4 a6 a7 a3.2.1.2.2.2.2.2, rwt aaa 46 3 b5 a8 a9 a3.2.2])) (b9.highs hG hS 1 rfl)) ?_))))
  rintro _ c9 ⟨rfl, c3⟩
  have c0 : Hp w (aaj [blk b1 [(str b0.1), (Vi .i64 b0.2)] 119, blk b2 [(str a3.1), (str a3.2.1.1), (str a3.2.1.2.1), (str a3.2.1.2.2.1), (Vi .i64 a3.2.1.2.2.2.1), (Vs a4 a3.2.1.2.2.2.2.1.length a5), (Vs a6 a3.2.1.2.2.2.2.2.length a7), (Vs a8 a3.2.2.length a9)] 70, rwt aaa 46 3 b3 a4 a5 a3.2.1.2.2.2.2.1, rwt aaa 46 3 b4 a6 a7 a3.2.1.2.2.2.2.2, rwt aaa 46 3 b5 a8 a9 a3.2.2]) [blk b1 [(str b6.1), (Vi .i64 b6.2)] 119, blk b2 [(str y1.1), (str a3.2.1.1), (str a3.2.1.2.1), (str a3.2.1.2.2.1), (Vi .i64 a3.2.1.2.2.2.1), (Vs a4 a3.2.1.2.2.2.2.1.length a5), (Vs a6 a3.2.1.2.2.2.2.2.length a7), (Vs a8 a3.2.2.length a9)] 70, rwt aaa 46 3 b3 a4 a5 a3.2.1.2.2.2.2.1, rwt aaa 46 3 b4 a6 a7 a3.2.1.2.2.2.2.2, rwt aaa 46 3 b5 a8 a9 a3.2.2] c9 := Hp.callK (L1 := [blk b1 [(str b6.1), (Vi .i64 b6.2)] 119]) (L2 := [blk b2 [(str y1.1), (str a3.2.1.1), (str a3.2.1.2.1), (str a3.2.1.2.2.1), (Vi .i64 a3.2.1.2.2.2.1), (Vs a4 a3.2.1.2.2.2.2.1.length a5), (Vs a6 a3.2.1.2.2.2.2.2.length a7), (Vs a8 a3.2.2.length a9)] 70, rwt aaa 46 3 b3 a4 a5 a3.2.1.2.2.2.2.1, rwt aaa 46 3 b4 a6 a7 a3.2.1.2.2.2.2.2, rwt aaa 46 3 b5 a8 a9 a3.2.2]) b9 c3; clear c3
  refine wp 1 (nq (cb hr (fun d0 hr => ?_) (fun d0 hr => ?_)))
  refine sr (wp 3 (aav c0 0 b1 1 [(str b6.1), (Vi .i64 b6.2)] 119 (Vi .i64 b6.2) rfl rfl (by kernel_rfl) (by kernel_rfl) (wp 2 (nq (ct (st ?_))))))
  obtain rfl := oi hr
  refine ajc (Vi .i64 b6.2) (bt (5 : UInt8)) rfl (by kernel_rfl) (by kernel_rfl) ?_
  exact ⟨b3, a4, a5, b4, a6, a7, b5, a8, a9, (by first | rfl | (simp; done) | (simp; omega)), (Hp.front (Hp.front (Hp.front (Hp.front (Hp.front c0 4 _ rfl) 4 _ rfl) 4 _ rfl) 4 _ rfl) 4 _ rfl).kp⟩
  refine ck (qn (sr (wp 2 (nq (ct ?_)))))
  obtain rfl := oi hr
  refine ajc (Vi .i64 (0 : Int)) (bt (0 : UInt8)) rfl (by kernel_rfl) (by kernel_rfl) ?_
  exact ⟨b3, a4, a5, b4, a6, a7, b5, a8, a9, (by first | rfl | (simp; done) | (simp; omega)), (Hp.front (Hp.front (Hp.front (Hp.front (Hp.front c0 4 _ rfl) 4 _ rfl) 4 _ rfl) 4 _ rfl) 4 _ rfl).kp⟩
theorem ahs {fu : Nat} {a0 : (Str × Int)} (a1 : Nat) {w : World} {r : (Str × (Str × Int))} (hr : afi fu a0 = some r) (hG : Gl w) (hM : Hp w (aaj [blk a1 [(str a0.1), (Vi .i64 a0.2)] 119]) [blk a1 [(str a0.1), (Vi .i64 a0.2)] 119] w) (hS : ∀ b ∈ aaj [blk a1 [(str a0.1), (Vi .i64 a0.2)] 119], 9 ≤ b) : CR Tryz.prog 176 [(Vp (some ⟨a1, 0, none⟩))] w fun v w' => v = (str r.1) ∧ Hp w (aaj [blk a1 [(str a0.1), (Vi .i64 a0.2)] 119]) [blk a1 [(str r.2.1), (Vi .i64 r.2.2)] 119] w' := by
  have hH : Hp w (aaj [blk a1 [(str a0.1), (Vi .i64 a0.2)] 119]) [blk a1 [(str a0.1), (Vi .i64 a0.2)] 119] w := hM
  refine enter (k := 29) Tryz.func176 rfl rfl (Nat.le_of_ble_eq_true rfl) ?_
  unfold afi at hr
  refine sr (wp 1 (nq (sr (wp 3 (aav hH 0 a1 1 [(str a0.1), (Vi .i64 a0.2)] 119 (Vi .i64 a0.2) rfl rfl (by kernel_rfl) (by kernel_rfl) (wp 1 ?_))))))
  refine nq (sr (wp 5 (aav hH 0 a1 0 [(str a0.1), (Vi .i64 a0.2)] 119 (str a0.1) rfl rfl (by kernel_rfl) (by kernel_rfl) (wp 1 (bi hr fun y1 a3 hr => wc ent54 hH (agz a3 (hG.hp hH hS)) fun w3 a4 => wp 2 ?_)))))
  refine aeu a4 0 a1 1 [(str a0.1), (Vi .i64 a0.2)] 119 (Vi .i64 y1) [blk a1 [(str a0.1), (Vi .i64 y1)] 119] rfl (Nat.lt_of_lt_of_le (Nat.lt_succ_self _) (Nat.le_of_ble_eq_true rfl)) (by kernel_rfl) (by kernel_rfl) rfl (by kernel_rfl) rfl fun w6 a5 => nq (cs (adm 10 (fun j_ w_ w_' => abv [10, 11] (fun w' => w'.heap[a1]? = some (.cells [(str a0.1), (Vi .i64 y1)].toArray 119 (0, 0))) j_ w_ w_' ∧ True) [false, false, false, false, false, false, false, false, false, false, false, false] (fun _ _ => ⟨abv.same, trivial⟩) (by kernel_rfl) (by kernel_rfl) a5 rfl (adb acf) fun w8 a2 => rp 6 [0, 1, 2, 3] (aag [true, true, true, true, true, false, false, false, false, false, false, false] 4 22 (str a0.1) [10, 11] (fun _ _ _ h => h.1) _ rfl rfl (by kernel_rfl) (by kernel_rfl) (by kernel_rfl) (by kernel_rfl) (by kernel_rfl) rfl (aai rfl (by intro w hS_; exact (afx a1 0 [(str a0.1), (Vi .i64 y1)] 119 (str a0.1) hS_ rfl (by kernel_rfl) (by kernel_rfl)))) (by exact a2.blkAt 0 rfl) (rp 1 [5, 6, 7, 8] (aag [true, true, true, true, true, true, true, true, true, true, false, false] 9 27 (Vi .i64 y1) [10, 11] (fun _ _ _ h => h.1) _ rfl rfl (by kernel_rfl) (by kernel_rfl) (by kernel_rfl) (by kernel_rfl) (by kernel_rfl) rfl (aai rfl (by intro w hS_; exact (afx a1 1 [(str a0.1), (Vi .i64 y1)] 119 (Vi .i64 y1) hS_ rfl (by kernel_rfl) (by kernel_rfl)))) (by exact a2.blkAt 0 rfl) (acw (by kernel_rfl) ?_))))))
  refine gi hr fun a6 hr => amd a0.1 .i64 .i64 a0.2 y1 Tryz.underlying9 (by kernel_rfl) (by kernel_rfl) (by kernel_rfl) a6 (wp 1 (nq (ct ?_)))
  obtain rfl := oi hr
  refine ana (str (sub a0.1 a0.2 y1)) rfl (by kernel_rfl) ?_
  exact ⟨(by first | rfl | (simp; done) | (simp; omega)), a2.kp⟩
theorem ama {fu : Nat} {b2 : (Str × Int)} {a3 : (Str × (Str × Str × Str × Int × (List (Str × Str × Bool)) × (List (Str × Str × Bool))) × (List (Str × Str × Bool)))} (b0 : Nat) (b1 : Nat) (b3 : Option Nat) (a4 : Option Addr) (a5 : Nat) (b4 : Option Nat) (a6 : Option Addr) (a7 : Nat) (b5 : Option Nat) (a8 : Option Addr) (a9 : Nat) {w : World} {r : (Int × UInt8 × (Str × Int) × (Str × (Str × Str × Str × Int × (List (Str × Str × Bool)) × (List (Str × Str × Bool))) × (List (Str × Str × Bool))))} (hr : ags fu b2 a3 = some r) (hG : Gl w) (hM : Hp w (aaj [blk b0 [(str b2.1), (Vi .i64 b2.2)] 119, blk b1 [(str a3.1), (str a3.2.1.1), (str a3.2.1.2.1), (str a3.2.1.2.2.1), (Vi .i64 a3.2.1.2.2.2.1), (Vs a4 a3.2.1.2.2.2.2.1.length a5), (Vs a6 a3.2.1.2.2.2.2.2.length a7), (Vs a8 a3.2.2.length a9)] 70, rwt aaa 46 3 b3 a4 a5 a3.2.1.2.2.2.2.1, rwt aaa 46 3 b4 a6 a7 a3.2.1.2.2.2.2.2, rwt aaa 46 3 b5 a8 a9 a3.2.2]) [blk b0 [(str b2.1), (Vi .i64 b2.2)] 119, blk b1 [(str a3.1), (str a3.2.1.1), (str a3.2.1.2.1), (str a3.2.1.2.2.1), (Vi .i64 a3.2.1.2.2.2.1), (Vs a4 a3.2.1.2.2.2.2.1.length a5), (Vs a6 a3.2.1.2.2.2.2.2.length a7), (Vs a8 a3.2.2.length a9)] 70, rwt aaa 46 3 b3 a4 a5 a3.2.1.2.2.2.2.1, rwt aaa 46 3 b4 a6 a7 a3.2.1.2.2.2.2.2, rwt aaa 46 3 b5 a8 a9 a3.2.2] w) (hS : ∀ b ∈ aaj [blk b0 [(str b2.1), (Vi .i64 b2.2)] 119, blk b1 [(str a3.1), (str a3.2.1.1), (str a3.2.1.2.1), (str a3.2.1.2.2.1), (Vi .i64 a3.2.1.2.2.2.1), (Vs a4 a3.2.1.2.2.2.2.1.length a5), (Vs a6 a3.2.1.2.2.2.2.2.length a7), (Vs a8 a3.2.2.length a9)] 70, rwt aaa 46 3 b3 a4 a5 a3.2.1.2.2.2.2.1, rwt aaa 46 3 b4 a6 a7 a3.2.1.2.2.2.2.2, rwt aaa 46 3 b5 a8 a9 a3.2.2], 9 ≤ b) : CR Tryz.prog 149 [(Vp (some ⟨b0, 0, none⟩)), (Vp (some ⟨b1, 0, none⟩))] w fun v w' => ∃ (o0 : Option Nat), ∃ (a0 : Option Addr), ∃ (cap0 : Nat), ∃ (o1 : Option Nat), ∃ (a1 : Option Addr), ∃ (cap1 : Nat), ∃ (o2 : Option Nat), ∃ (a2 : Option Addr), ∃ (cap2 : Nat), v = (Value.tuple #[(Vi .i64 r.1), (bt r.2.1)]) ∧ Hp w (aaj [blk b0 [(str b2.1), (Vi .i64 b2.2)] 119, blk b1 [(str a3.1), (str a3.2.1.1), (str a3.2.1.2.1), (str a3.2.1.2.2.1), (Vi .i64 a3.2.1.2.2.2.1), (Vs a4 a3.2.1.2.2.2.2.1.length a5), (Vs a6 a3.2.1.2.2.2.2.2.length a7), (Vs a8 a3.2.2.length a9)] 70, rwt aaa 46 3 b3 a4 a5 a3.2.1.2.2.2.2.1, rwt aaa 46 3 b4 a6 a7 a3.2.1.2.2.2.2.2, rwt aaa 46 3 b5 a8 a9 a3.2.2]) [blk b0 [(str r.2.2.1.1), (Vi .i64 r.2.2.1.2)] 119, blk b1 [(str r.2.2.2.1), (str r.2.2.2.2.1.1), (str r.2.2.2.2.1.2.1), (str r.2.2.2.2.1.2.2.1), (Vi .i64 r.2.2.2.2.1.2.2.2.1), (Vs a0 r.2.2.2.2.1.2.2.2.2.1.length cap0), (Vs a1 r.2.2.2.2.1.2.2.2.2.2.length cap1), (Vs a2 r.2.2.2.2.2.length cap2)] 70, rwt aaa 46 3 o0 a0 cap0 r.2.2.2.2.1.2.2.2.2.1, rwt aaa 46 3 o1 a1 cap1 r.2.2.2.2.1.2.2.2.2.2, rwt aaa 46 3 o2 a2 cap2 r.2.2.2.2.2] w' := by
  have hH : Hp w (aaj [blk b0 [(str b2.1), (Vi .i64 b2.2)] 119, blk b1 [(str a3.1), (str a3.2.1.1), (str a3.2.1.2.1), (str a3.2.1.2.2.1), (Vi .i64 a3.2.1.2.2.2.1), (Vs a4 a3.2.1.2.2.2.2.1.length a5), (Vs a6 a3.2.1.2.2.2.2.2.length a7), (Vs a8 a3.2.2.length a9)] 70, rwt aaa 46 3 b3 a4 a5 a3.2.1.2.2.2.2.1, rwt aaa 46 3 b4 a6 a7 a3.2.1.2.2.2.2.2, rwt aaa 46 3 b5 a8 a9 a3.2.2]) [blk b0 [(str b2.1), (Vi .i64 b2.2)] 119, blk b1 [(str a3.1), (str a3.2.1.1), (str a3.2.1.2.1), (str a3.2.1.2.2.1), (Vi .i64 a3.2.1.2.2.2.1), (Vs a4 a3.2.1.2.2.2.2.1.length a5), (Vs a6 a3.2.1.2.2.2.2.2.length a7), (Vs a8 a3.2.2.length a9)] 70, rwt aaa 46 3 b3 a4 a5 a3.2.1.2.2.2.2.1, rwt aaa 46 3 b4 a6 a7 a3.2.1.2.2.2.2.2, rwt aaa 46 3 b5 a8 a9 a3.2.2] w := hM
  refine enter (k := 30) Tryz.func149 rfl rfl (Nat.le_of_ble_eq_true rfl) ?_
  unfold ags at hr
  refine sr (wp 2 (nq (sr (wp 1 (nq ?_)))))
  refine bi hr fun e0 e7 hr => cut (σ := ((List Str) × Str × Int) × (Option Nat) × (Option Addr) × Nat) [1, 4, 5, 6] (fun ⟨b9, d3, c5, c6⟩ => [(6, (Vs c5 b9.1.length c6))]) (fun ⟨b9, d3, c5, c6⟩ w' => Hp w (aaj [blk b0 [(str b2.1), (Vi .i64 b2.2)] 119, blk b1 [(str a3.1), (str a3.2.1.1), (str a3.2.1.2.1), (str a3.2.1.2.2.1), (Vi .i64 a3.2.1.2.2.2.1), (Vs a4 a3.2.1.2.2.2.2.1.length a5), (Vs a6 a3.2.1.2.2.2.2.2.length a7), (Vs a8 a3.2.2.length a9)] 70, rwt aaa 46 3 b3 a4 a5 a3.2.1.2.2.2.2.1, rwt aaa 46 3 b4 a6 a7 a3.2.1.2.2.2.2.2, rwt aaa 46 3 b5 a8 a9 a3.2.2]) [blk b0 [(str b9.2.1), (Vi .i64 b9.2.2)] 119, blk b1 [(str a3.1), (str a3.2.1.1), (str a3.2.1.2.1), (str a3.2.1.2.2.1), (Vi .i64 a3.2.1.2.2.2.1), (Vs a4 a3.2.1.2.2.2.2.1.length a5), (Vs a6 a3.2.1.2.2.2.2.2.length a7), (Vs a8 a3.2.2.length a9)] 70, rwt aaa 46 3 b3 a4 a5 a3.2.1.2.2.2.2.1, rwt aaa 46 3 b4 a6 a7 a3.2.1.2.2.2.2.2, rwt aaa 46 3 b5 a8 a9 a3.2.2, rwt eS 9 1 d3 c5 c6 b9.1] w' ∧ .inl b9 = e0) ?_ ?_
  refine ce (lpG (σ := Nat × (List Str) × Str × Int × (Option Nat) × (Option Addr) × Nat) [0, 1, 4, 5, 6] (fun ⟨c8, b7, c3, c4, c2, c0, c1⟩ => [(6, (Vs c0 b7.length c1))]) (fun ⟨c8, b7, c3, c4, c2, c0, c1⟩ w' => Hp w (aaj [blk b0 [(str b2.1), (Vi .i64 b2.2)] 119, blk b1 [(str a3.1), (str a3.2.1.1), (str a3.2.1.2.1), (str a3.2.1.2.2.1), (Vi .i64 a3.2.1.2.2.2.1), (Vs a4 a3.2.1.2.2.2.2.1.length a5), (Vs a6 a3.2.1.2.2.2.2.2.length a7), (Vs a8 a3.2.2.length a9)] 70, rwt aaa 46 3 b3 a4 a5 a3.2.1.2.2.2.2.1, rwt aaa 46 3 b4 a6 a7 a3.2.1.2.2.2.2.2, rwt aaa 46 3 b5 a8 a9 a3.2.2]) [blk b0 [(str c3), (Vi .i64 c4)] 119, blk b1 [(str a3.1), (str a3.2.1.1), (str a3.2.1.2.1), (str a3.2.1.2.2.1), (Vi .i64 a3.2.1.2.2.2.1), (Vs a4 a3.2.1.2.2.2.2.1.length a5), (Vs a6 a3.2.1.2.2.2.2.2.length a7), (Vs a8 a3.2.2.length a9)] 70, rwt aaa 46 3 b3 a4 a5 a3.2.1.2.2.2.2.1, rwt aaa 46 3 b4 a6 a7 a3.2.1.2.2.2.2.2, rwt aaa 46 3 b5 a8 a9 a3.2.2, rwt eS 9 1 c2 c0 c1 b7] w' ∧ aei fu a3 c8 b7 c3 c4 = some e0) (fun ⟨c8, b7, c3, c4, c2, c0, c1⟩ => c8) (fu, ([] : List Str), b2.1, b2.2, none, none, 0) (by exact ⟨(Hp.front (Hp.front (Hp.front (Hp.front (Hp.front (Hp.nilrw hH eS 9 1 none) 5 _ rfl) 5 _ rfl) 5 _ rfl) 5 _ rfl) 5 _ rfl).kp, e7⟩) ?_ (mc (by kernel_rfl) (mc (by kernel_rfl) (mc (by kernel_rfl) (mc (by kernel_rfl) (mc (Eq.trans (b := (Vs none 0 0)) (by kernel_rfl) (aae (by (try simp only [List.length_set]) <;> first | rfl | omega | simp))) rfl))))))
  rintro ⟨_ | c8, b7, c3, c4, c2, c0, c1⟩ g2 G ⟨d4, b8⟩
  · exact absurd (show none = some _ from b8) (by simp)
  rw [aei.eq_2] at b8
  refine cs (sr (wp 1 (bi b8 fun g3 e8 b8 => aad 113 #[] [(Vp (some ⟨b0, 0, none⟩)), (bt (60 : UInt8))] _ als (by kernel_rfl) (by kernel_rfl) (aar b0 e8 (hG.hp d4 hS) (d4.hand (L1 := [blk b0 [(str c3), (Vi .i64 c4)] 119]) (L2 := [blk b1 [(str a3.1), (str a3.2.1.1), (str a3.2.1.2.1), (str a3.2.1.2.2.1), (Vi .i64 a3.2.1.2.2.2.1), (Vs a4 a3.2.1.2.2.2.2.1.length a5), (Vs a6 a3.2.1.2.2.2.2.2.length a7), (Vs a8 a3.2.2.length a9)] 70, rwt aaa 46 3 b3 a4 a5 a3.2.1.2.2.2.2.1, rwt aaa 46 3 b4 a6 a7 a3.2.1.2.2.2.2.2, rwt aaa 46 3 b5 a8 a9 a3.2.2, rwt eS 9 1 c2 c0 c1 b7])) (d4.highs hG hS 1 rfl)) ?_)))
  rintro _ e9 ⟨rfl, e1⟩
  have d2 : Hp w (aaj [blk b0 [(str b2.1), (Vi .i64 b2.2)] 119, blk b1 [(str a3.1), (str a3.2.1.1), (str a3.2.1.2.1), (str a3.2.1.2.2.1), (Vi .i64 a3.2.1.2.2.2.1), (Vs a4 a3.2.1.2.2.2.2.1.length a5), (Vs a6 a3.2.1.2.2.2.2.2.length a7), (Vs a8 a3.2.2.length a9)] 70, rwt aaa 46 3 b3 a4 a5 a3.2.1.2.2.2.2.1, rwt aaa 46 3 b4 a6 a7 a3.2.1.2.2.2.2.2, rwt aaa 46 3 b5 a8 a9 a3.2.2]) [blk b0 [(str c3), (Vi .i64 c4)] 119, blk b1 [(str a3.1), (str a3.2.1.1), (str a3.2.1.2.1), (str a3.2.1.2.2.1), (Vi .i64 a3.2.1.2.2.2.1), (Vs a4 a3.2.1.2.2.2.2.1.length a5), (Vs a6 a3.2.1.2.2.2.2.2.length a7), (Vs a8 a3.2.2.length a9)] 70, rwt aaa 46 3 b3 a4 a5 a3.2.1.2.2.2.2.1, rwt aaa 46 3 b4 a6 a7 a3.2.1.2.2.2.2.2, rwt aaa 46 3 b5 a8 a9 a3.2.2, rwt eS 9 1 c2 c0 c1 b7] e9 := Hp.callK (L1 := [blk b0 [(str c3), (Vi .i64 c4)] 119]) (L2 := [blk b1 [(str a3.1), (str a3.2.1.1), (str a3.2.1.2.1), (str a3.2.1.2.2.1), (Vi .i64 a3.2.1.2.2.2.1), (Vs a4 a3.2.1.2.2.2.2.1.length a5), (Vs a6 a3.2.1.2.2.2.2.2.length a7), (Vs a8 a3.2.2.length a9)] 70, rwt aaa 46 3 b3 a4 a5 a3.2.1.2.2.2.2.1, rwt aaa 46 3 b4 a6 a7 a3.2.1.2.2.2.2.2, rwt aaa 46 3 b5 a8 a9 a3.2.2, rwt eS 9 1 c2 c0 c1 b7]) d4 e1; clear e1
  refine wp 1 (nq (cb b8 (fun f0 b8 => ?_) (fun f0 b8 => ?_)))
  refine ck (qn (ce (sr (wp 1 (bi b8 fun b6 f1 b8 => aad 176 #[] [(Vp (some ⟨b0, 0, none⟩))] _ ent176 (by kernel_rfl) (by kernel_rfl) (ahs b0 f1 (hG.hp d2 hS) (d2.hand (L1 := [blk b0 [(str c3), (Vi .i64 c4)] 119]) (L2 := [blk b1 [(str a3.1), (str a3.2.1.1), (str a3.2.1.2.1), (str a3.2.1.2.2.1), (Vi .i64 a3.2.1.2.2.2.1), (Vs a4 a3.2.1.2.2.2.2.1.length a5), (Vs a6 a3.2.1.2.2.2.2.2.length a7), (Vs a8 a3.2.2.length a9)] 70, rwt aaa 46 3 b3 a4 a5 a3.2.1.2.2.2.2.1, rwt aaa 46 3 b4 a6 a7 a3.2.1.2.2.2.2.2, rwt aaa 46 3 b5 a8 a9 a3.2.2, rwt eS 9 1 c2 c0 c1 b7])) (d2.highs hG hS 1 rfl)) ?_)))))
  rintro _ f2 ⟨rfl, e2⟩
  have d7 : Hp w (aaj [blk b0 [(str b2.1), (Vi .i64 b2.2)] 119, blk b1 [(str a3.1), (str a3.2.1.1), (str a3.2.1.2.1), (str a3.2.1.2.2.1), (Vi .i64 a3.2.1.2.2.2.1), (Vs a4 a3.2.1.2.2.2.2.1.length a5), (Vs a6 a3.2.1.2.2.2.2.2.length a7), (Vs a8 a3.2.2.length a9)] 70, rwt aaa 46 3 b3 a4 a5 a3.2.1.2.2.2.2.1, rwt aaa 46 3 b4 a6 a7 a3.2.1.2.2.2.2.2, rwt aaa 46 3 b5 a8 a9 a3.2.2]) [blk b0 [(str b6.2.1), (Vi .i64 b6.2.2)] 119, blk b1 [(str a3.1), (str a3.2.1.1), (str a3.2.1.2.1), (str a3.2.1.2.2.1), (Vi .i64 a3.2.1.2.2.2.1), (Vs a4 a3.2.1.2.2.2.2.1.length a5), (Vs a6 a3.2.1.2.2.2.2.2.length a7), (Vs a8 a3.2.2.length a9)] 70, rwt aaa 46 3 b3 a4 a5 a3.2.1.2.2.2.2.1, rwt aaa 46 3 b4 a6 a7 a3.2.1.2.2.2.2.2, rwt aaa 46 3 b5 a8 a9 a3.2.2, rwt eS 9 1 c2 c0 c1 b7] f2 := Hp.callK (L1 := [blk b0 [(str c3), (Vi .i64 c4)] 119]) (L2 := [blk b1 [(str a3.1), (str a3.2.1.1), (str a3.2.1.2.1), (str a3.2.1.2.2.1), (Vi .i64 a3.2.1.2.2.2.1), (Vs a4 a3.2.1.2.2.2.2.1.length a5), (Vs a6 a3.2.1.2.2.2.2.2.length a7), (Vs a8 a3.2.2.length a9)] 70, rwt aaa 46 3 b3 a4 a5 a3.2.1.2.2.2.2.1, rwt aaa 46 3 b4 a6 a7 a3.2.1.2.2.2.2.2, rwt aaa 46 3 b5 a8 a9 a3.2.2, rwt eS 9 1 c2 c0 c1 b7]) d2 e2; clear e2
  refine wp 1 (nq (cs (sr (wp 2 (nq (cd b8 (fun f3 b8 => ?_) (fun f3 b8 => ?_)))))))
  refine sr (wp 3 (aav d7 0 b0 1 [(str b6.2.1), (Vi .i64 b6.2.2)] 119 (Vi .i64 b6.2.2) rfl rfl (by kernel_rfl) (by kernel_rfl) (wp 2 (nq (ct (st (bt_ ?_)))))))
  refine acp (bt_ (acp ?_))
  obtain rfl := oi b8
  obtain rfl := oi hr
  refine ajc (Vi .i64 b6.2.2) (bt (5 : UInt8)) rfl (by kernel_rfl) (by kernel_rfl) ?_
  exact ⟨b3, a4, a5, b4, a6, a7, b5, a8, a9, (by first | rfl | (simp; done) | (simp; omega)), (Hp.front (Hp.front (Hp.front (Hp.front (Hp.front d7 4 _ rfl) 4 _ rfl) 4 _ rfl) 4 _ rfl) 4 _ rfl).kp⟩
  refine ck (qn (sr (wp 2 (adl d7 [(str b6.1)] 9 (fun b => (Vs (some ⟨b, 0, none⟩) 1 1)) rfl rfl (by kernel_rfl) fun c7 g4 e3 => gi b8 fun f4 b8 => adw e3 6 c2 c0 (some ⟨c7, 0, none⟩) c1 1 9 1 16 b7 ([b6.1] : List Str) enc_S rfl Tryz.underlying54 (by unfold TI; kernel_rfl) (by decide) (by decide) (by kernel_rfl) (Eq.trans (b := (Vs (some ⟨c7, 0, none⟩) 1 1)) (by kernel_rfl) (aae (by first | rfl | (simp; done) | omega | (simp; omega) | (rw [List.length_take]; omega)))) (e3.rdblk 0 rfl) f4 fun c9 d0 d1 e4 d8 => ?_))))
  replace d8 : Hp w (aaj [blk b0 [(str b2.1), (Vi .i64 b2.2)] 119, blk b1 [(str a3.1), (str a3.2.1.1), (str a3.2.1.2.1), (str a3.2.1.2.2.1), (Vi .i64 a3.2.1.2.2.2.1), (Vs a4 a3.2.1.2.2.2.2.1.length a5), (Vs a6 a3.2.1.2.2.2.2.2.length a7), (Vs a8 a3.2.2.length a9)] 70, rwt aaa 46 3 b3 a4 a5 a3.2.1.2.2.2.2.1, rwt aaa 46 3 b4 a6 a7 a3.2.1.2.2.2.2.2, rwt aaa 46 3 b5 a8 a9 a3.2.2]) [blk c7 [(str b6.1)] 9, blk b0 [(str b6.2.1), (Vi .i64 b6.2.2)] 119, blk b1 [(str a3.1), (str a3.2.1.1), (str a3.2.1.2.1), (str a3.2.1.2.2.1), (Vi .i64 a3.2.1.2.2.2.1), (Vs a4 a3.2.1.2.2.2.2.1.length a5), (Vs a6 a3.2.1.2.2.2.2.2.length a7), (Vs a8 a3.2.2.length a9)] 70, rwt aaa 46 3 b3 a4 a5 a3.2.1.2.2.2.2.1, rwt aaa 46 3 b4 a6 a7 a3.2.1.2.2.2.2.2, rwt aaa 46 3 b5 a8 a9 a3.2.2, rwt eS 9 1 c9 d0 d1 (b7 ++ ([b6.1] : List Str))] e4 := d8
  refine wp 1 (nq (cr (wp 1 (bi b8 fun d5 f5 b8 => ?_))))
  have d6 : Hp w (aaj [blk b0 [(str b2.1), (Vi .i64 b2.2)] 119, blk b1 [(str a3.1), (str a3.2.1.1), (str a3.2.1.2.1), (str a3.2.1.2.2.1), (Vi .i64 a3.2.1.2.2.2.1), (Vs a4 a3.2.1.2.2.2.2.1.length a5), (Vs a6 a3.2.1.2.2.2.2.2.length a7), (Vs a8 a3.2.2.length a9)] 70, rwt aaa 46 3 b3 a4 a5 a3.2.1.2.2.2.2.1, rwt aaa 46 3 b4 a6 a7 a3.2.1.2.2.2.2.2, rwt aaa 46 3 b5 a8 a9 a3.2.2]) [blk b0 [(str b6.2.1), (Vi .i64 b6.2.2)] 119, blk c7 [(str b6.1)] 9, blk b1 [(str a3.1), (str a3.2.1.1), (str a3.2.1.2.1), (str a3.2.1.2.2.1), (Vi .i64 a3.2.1.2.2.2.1), (Vs a4 a3.2.1.2.2.2.2.1.length a5), (Vs a6 a3.2.1.2.2.2.2.2.length a7), (Vs a8 a3.2.2.length a9)] 70, rwt aaa 46 3 b3 a4 a5 a3.2.1.2.2.2.2.1, rwt aaa 46 3 b4 a6 a7 a3.2.1.2.2.2.2.2, rwt aaa 46 3 b5 a8 a9 a3.2.2, rwt eS 9 1 c9 d0 d1 (b7 ++ ([b6.1] : List Str))] e4 := d8.front 1 _ rfl
  refine aad 111 #[] [(Vp (some ⟨b0, 0, none⟩))] _ ent111 (by kernel_rfl) (by kernel_rfl) (adc b0 f5 (hG.hp d6 hS) (d6.hand (L1 := [blk b0 [(str b6.2.1), (Vi .i64 b6.2.2)] 119]) (L2 := [blk c7 [(str b6.1)] 9, blk b1 [(str a3.1), (str a3.2.1.1), (str a3.2.1.2.1), (str a3.2.1.2.2.1), (Vi .i64 a3.2.1.2.2.2.1), (Vs a4 a3.2.1.2.2.2.2.1.length a5), (Vs a6 a3.2.1.2.2.2.2.2.length a7), (Vs a8 a3.2.2.length a9)] 70, rwt aaa 46 3 b3 a4 a5 a3.2.1.2.2.2.2.1, rwt aaa 46 3 b4 a6 a7 a3.2.1.2.2.2.2.2, rwt aaa 46 3 b5 a8 a9 a3.2.2, rwt eS 9 1 c9 d0 d1 (b7 ++ ([b6.1] : List Str))])) (d6.highs hG hS 1 rfl)) ?_
  rintro _ f6 ⟨rfl, e5⟩
  have f7 : Hp w (aaj [blk b0 [(str b2.1), (Vi .i64 b2.2)] 119, blk b1 [(str a3.1), (str a3.2.1.1), (str a3.2.1.2.1), (str a3.2.1.2.2.1), (Vi .i64 a3.2.1.2.2.2.1), (Vs a4 a3.2.1.2.2.2.2.1.length a5), (Vs a6 a3.2.1.2.2.2.2.2.length a7), (Vs a8 a3.2.2.length a9)] 70, rwt aaa 46 3 b3 a4 a5 a3.2.1.2.2.2.2.1, rwt aaa 46 3 b4 a6 a7 a3.2.1.2.2.2.2.2, rwt aaa 46 3 b5 a8 a9 a3.2.2]) [blk b0 [(str d5.1), (Vi .i64 d5.2)] 119, blk c7 [(str b6.1)] 9, blk b1 [(str a3.1), (str a3.2.1.1), (str a3.2.1.2.1), (str a3.2.1.2.2.1), (Vi .i64 a3.2.1.2.2.2.1), (Vs a4 a3.2.1.2.2.2.2.1.length a5), (Vs a6 a3.2.1.2.2.2.2.2.length a7), (Vs a8 a3.2.2.length a9)] 70, rwt aaa 46 3 b3 a4 a5 a3.2.1.2.2.2.2.1, rwt aaa 46 3 b4 a6 a7 a3.2.1.2.2.2.2.2, rwt aaa 46 3 b5 a8 a9 a3.2.2, rwt eS 9 1 c9 d0 d1 (b7 ++ ([b6.1] : List Str))] f6 := Hp.callK (L1 := [blk b0 [(str b6.2.1), (Vi .i64 b6.2.2)] 119]) (L2 := [blk c7 [(str b6.1)] 9, blk b1 [(str a3.1), (str a3.2.1.1), (str a3.2.1.2.1), (str a3.2.1.2.2.1), (Vi .i64 a3.2.1.2.2.2.1), (Vs a4 a3.2.1.2.2.2.2.1.length a5), (Vs a6 a3.2.1.2.2.2.2.2.length a7), (Vs a8 a3.2.2.length a9)] 70, rwt aaa 46 3 b3 a4 a5 a3.2.1.2.2.2.2.1, rwt aaa 46 3 b4 a6 a7 a3.2.1.2.2.2.2.2, rwt aaa 46 3 b5 a8 a9 a3.2.2, rwt eS 9 1 c9 d0 d1 (b7 ++ ([b6.1] : List Str))]) d6 e5; clear e5
  refine wl (bn (ql ?_))
  exact ⟨(c8, b7 ++ ([b6.1] : List Str), d5.1, d5.2, c9, d0, d1), _, rfl, by kernel_rfl, ⟨(Hp.front (Hp.front (Hp.front (Hp.front (Hp.front (Hp.front f7 6 _ rfl) 6 _ rfl) 6 _ rfl) 6 _ rfl) 6 _ rfl) 5 _ rfl).kp, b8⟩, Nat.lt_succ_self _⟩
  refine ach (acg (acq (aci (ql ?_))))
  obtain rfl := oi b8
  exact ⟨((b7, c3, c4), c2, c0, c1), _, rfl, by kernel_rfl, (Hp.front (Hp.front (Hp.front (Hp.front (Hp.front (Hp.front d2 5 _ rfl) 5 _ rfl) 5 _ rfl) 5 _ rfl) 5 _ rfl) 5 _ rfl).kp, rfl⟩
  rintro ⟨b9, d3, c5, c6⟩ f8 G ⟨d9, rfl⟩
  refine sr (wp 2 (gi hr fun f9 hr => aad 80 #[] [(Vs c5 b9.1.length c6), (str ([32] : Str))] _ ent80 (by kernel_rfl) (by kernel_rfl) (sh_Join ([32] : Str) f8 c5 b9.1.length c6 b9.1 rfl (d9.rdrw 5 rfl) (d9.rwcap 5 rfl) f9) ?_))
  rintro _ g5 ⟨rfl, e6⟩
  have g0 := d9.call e6; clear e6
  refine wp 2 (aeu g0 1 b1 0 [(str a3.1), (str a3.2.1.1), (str a3.2.1.2.1), (str a3.2.1.2.2.1), (Vi .i64 a3.2.1.2.2.2.1), (Vs a4 a3.2.1.2.2.2.2.1.length a5), (Vs a6 a3.2.1.2.2.2.2.2.length a7), (Vs a8 a3.2.2.length a9)] 70 (str (Lib.join b9.1 ([32] : Str))) [blk b0 [(str b9.2.1), (Vi .i64 b9.2.2)] 119, blk b1 [(str (Lib.join b9.1 ([32] : Str))), (str a3.2.1.1), (str a3.2.1.2.1), (str a3.2.1.2.2.1), (Vi .i64 a3.2.1.2.2.2.1), (Vs a4 a3.2.1.2.2.2.2.1.length a5), (Vs a6 a3.2.1.2.2.2.2.2.length a7), (Vs a8 a3.2.2.length a9)] 70, rwt aaa 46 3 b3 a4 a5 a3.2.1.2.2.2.2.1, rwt aaa 46 3 b4 a6 a7 a3.2.1.2.2.2.2.2, rwt aaa 46 3 b5 a8 a9 a3.2.2, rwt eS 9 1 d3 c5 c6 b9.1] rfl (Nat.lt_of_lt_of_le (Nat.lt_succ_self _) (Nat.le_of_ble_eq_true rfl)) (by kernel_rfl) (by kernel_rfl) rfl (by kernel_rfl) rfl fun g6 g1 => nq (sr (wp 2 (nq (ct ?_)))))
  obtain rfl := oi hr
  refine ajc (Vi .i64 (0 : Int)) (bt (0 : UInt8)) rfl (by kernel_rfl) (by kernel_rfl) ?_
  exact ⟨b3, a4, a5, b4, a6, a7, b5, a8, a9, (by first | rfl | (simp; done) | (simp; omega)), (Hp.front (Hp.front (Hp.front (Hp.front (Hp.front g1 4 _ rfl) 4 _ rfl) 4 _ rfl) 4 _ rfl) 4 _ rfl).kp⟩
theorem acj {fu : Nat} {a0 : Str} {a1 : Int} {a2 : Str} {w : World} {r : Int} (hr : acd fu a0 a1 a2 = some r) (hG : Gl w) : CR Tryz.prog 177 [(Value.agg #[(str a0)]), (Vi .i64 a1), (str a2)] w fun v w' => v = (Vi .i64 r) ∧ Hp w [] [] w' := by
  have hH : Hp w [] [] w := Hp.refl w
  refine enter (k := 22) Tryz.func177 rfl rfl (Nat.le_of_ble_eq_true rfl) ?_
  unfold acd at hr
  refine sr (adl hH [(str a0)] 117 (fun b => (Vp (some ⟨b, 0, none⟩))) rfl rfl (by kernel_rfl) fun b1 w2 a4 => wp 1 (nq (cs (sr (wp 1 ?_)))))
  refine aav a4 0 b1 0 [(str a0)] 117 (str a0) rfl rfl (by kernel_rfl) (by kernel_rfl) (wp 1 (gi hr fun g4 hr => ahu a0 .i64 a1 Tryz.underlying9 (by kernel_rfl) (by kernel_rfl) g4 (wp 1 (gi hr fun g8 hr => aad 56 #[] [(str (List.drop (Int.toNat a1) a0)), (str a2)] _ ent56 (by kernel_rfl) (by kernel_rfl) (sh_IndexAny (List.drop (Int.toNat a1) a0) a2 w2 g8) ?_))))
  rintro _ w5 ⟨rfl, a5⟩
  have a3 := a4.call a5; clear a5
  refine wp 1 (nq (sr (wp 2 (nq (cd hr (fun h9 hr => ?_) (fun h9 hr => ?_))))))
  refine sr (wp 2 (gi hr fun a6 hr => aac a1 (Lib.indexAny (List.drop (Int.toNat a1) a0) a2) (by kernel_rfl) (by kernel_rfl) a6 (wp 1 (nq (ct (st ?_))))))
  obtain rfl := oi hr
  exact rv a3.kp
  refine ck (qn (sr (wp 1 (aav a3 0 b1 0 [(str a0)] 117 (str a0) rfl rfl (by kernel_rfl) (by kernel_rfl) (wp 2 (nq (ct ?_)))))))
  obtain rfl := oi hr
  exact rv a3.kp
theorem ada {fu : Nat} {s_0 : Str} {w : World} {r : Str} (hr : adt fu s_0 = some r) (hG : Gl w) : CR Tryz.prog 84 [(str s_0)] w fun v w' => v = (str r) ∧ Hp w [] [] w' := by
  have hH : Hp w [] [] w := Hp.refl w
  refine enter (k := 29) Tryz.func84 rfl rfl (Nat.le_of_ble_eq_true rfl) ?_
  unfold adt at hr
  refine sr (wp 1 (nq (sr (wp 1 (w_tobytes hH s_0 5 Tryz.underlying9 Tryz.underlying92 Tryz.underlying5 (by kernel_rfl) fun a1 cap2 w3 b2 => wp 1 ?_)))))
  refine nq (bi hr fun b1 b3 hr => cut (σ := Str) [2, 3] (fun a6 => []) (fun a6 w' => Hp w [] [brow (Vs a1 s_0.length cap2) s_0.length a6] w' ∧ a6 = b1) ?_ ?_)
  refine sr (wp 3 (nq (ce (lpG (σ := Nat × Str × Int) [2, 3, 8, 9, 10] (fun ⟨a4, a3, a2⟩ => [(10, (Vi .i64 a2))]) (fun ⟨a4, a3, a2⟩ w' => Hp w [] [brow (Vs a1 s_0.length cap2) s_0.length a3] w' ∧ agm fu s_0 a4 a3 a2 = some b1) (fun ⟨a4, a3, a2⟩ => a4) (fu, s_0, (0 : Int)) (by exact ⟨b2.kp, b3⟩) ?_))))
  rintro ⟨_ | a4, a3, a2⟩ c6 G ⟨a5, a0⟩
  · exact absurd (show none = some _ from a0) (by simp)
  rw [agm.eq_2] at a0
  refine sr (wp 1 (nq (cs (cd a0 (fun b4 a0 => ?_) (fun b4 a0 => ?_)))))
  refine ck (qn (cs (ce (sr (wp 1 (gi a0 fun b5 a0 => aht a1 s_0.length cap2 5 1 .i64 a2 Tryz.underlying92 (by kernel_rfl) (by kernel_rfl) (by kernel_rfl) a3 (a5.browlen 0 rfl).symm b5 (Rd.ofbytes (a5.rdbrow 0 rfl)) aks (by decide) (gi a0 fun b6 a0 => ?_)))))))
  refine w_ldE1 a1 eB a3 1 a2 aks (Rd.ofbytes (a5.rdbrow 0 rfl)) (bt (at_ a3 a2)) b6 (by decide) (by kernel_rfl) (by kernel_rfl) (by kernel_rfl) (wp 2 (nq (bi a0 fun b7 a7 a0 => agq a5 [2, 3, 4, 5, 8, 9, 10, 20] [(20, (Vb b7))] ?_ ?_)))
  refine cr (wp 1 (amq (at_ a3 a2) (65 : UInt8) (by kernel_rfl) (by kernel_rfl) (wd a7 (fun b8 a7 => ?_) (fun b8 a7 => ?_))))
  refine wp 1 (gy 17 (amp (at_ a3 a2) (90 : UInt8) (by kernel_rfl) (by kernel_rfl) (wp 1 (wl (ql ?_)))))
  obtain rfl := oi a7
  exact je a5.kp
  refine wp 3 (wl (ql ?_))
  obtain rfl := oi a7
  exact je a5.kp
  intro c7 G a8
  refine cb a0 (fun b9 a0 => ?_) (fun b9 a0 => ?_)
  refine cr (wp 3 (w8_add (at_ a3 a2) (32 : UInt8) (by kernel_rfl) (by kernel_rfl) (gi a0 fun c0 a0 => aht a1 s_0.length cap2 5 1 .i64 a2 Tryz.underlying92 (by kernel_rfl) (by kernel_rfl) (by kernel_rfl) a3 (a8.browlen 0 rfl).symm c0 (Rd.ofbytes (a8.rdbrow 0 rfl)) aks (by decide) (gi a0 fun c1 a0 => w_stB a8 0 a1 s_0.length cap2 a2 a3 ((at_ a3 a2) + (32 : UInt8)) rfl c1 (by kernel_rfl) (by kernel_rfl) (by kernel_rfl) fun c2 a9 => ?_))))
  replace a9 : Hp w [] [brow (Vs a1 s_0.length cap2) s_0.length (List.set a3 (Int.toNat a2) ((at_ a3 a2) + (32 : UInt8)))] c2 := a9
  refine wl (bn (qn (cr (gi a0 fun c3 a0 => aac a2 (1 : Int) (by kernel_rfl) (by kernel_rfl) c3 (wp 1 (wl (ql ?_)))))))
  exact ⟨(a4, List.set a3 (Int.toNat a2) ((at_ a3 a2) + (32 : UInt8)), a2 + (1 : Int)), _, rfl, by kernel_rfl, ⟨a9.kp, a0⟩, Nat.lt_succ_self _⟩
  refine ck (bn (qn (cr (gi a0 fun c4 a0 => aac a2 (1 : Int) (by kernel_rfl) (by kernel_rfl) c4 (wp 1 (wl (ql ?_)))))))
  exact ⟨(a4, a3, a2 + (1 : Int)), _, rfl, by kernel_rfl, ⟨a8.kp, a0⟩, Nat.lt_succ_self _⟩
  refine ach (acg (acq (aci (ql ?_))))
  obtain rfl := oi a0
  exact ⟨a3, _, rfl, by kernel_rfl, a5.kp, rfl⟩
  rintro a6 c5 G ⟨b0, rfl⟩
  refine sr (wp 1 (aed (v := (str a6)) (w' := c5) rfl rfl (anm a6 a1 s_0.length cap2 5 (Rd.bytes (Rd.ofbytes (b0.rdbrow 0 rfl))) (b0.browlen 0 rfl) Tryz.underlying92 Tryz.underlying9 Tryz.underlying5 (by kernel_rfl)) (wp 1 (nq (ct ?_)))))
  obtain rfl := oi hr
  exact rv b0.kp
theorem ams {fu : Nat} {a1 : UInt8} {w : World} {r : Bool} (hr : aju fu a1 = some r) (hG : Gl w) : CR Tryz.prog 144 [(bt a1)] w fun v w' => v = (Vb r) ∧ Hp w [] [] w' := by
  have hH : Hp w [] [] w := Hp.refl w
  refine enter (k := 17) Tryz.func144 rfl rfl (Nat.le_of_ble_eq_true rfl) ?_
  unfold aju at hr
  refine sr (wp 1 (nq (bi hr fun v8 a0 hr => agq hH [2] [(2, (Vb v8))] ?_ ?_)))
  refine cr (wp 1 (amq a1 (97 : UInt8) (by kernel_rfl) (by kernel_rfl) (wd a0 (fun h9 a0 => ?_) (fun h9 a0 => ?_))))
  refine wp 1 (gy 5 (amp a1 (122 : UInt8) (by kernel_rfl) (by kernel_rfl) (wp 1 (wd a0 (fun a2 a0 => ?_) (fun a2 a0 => ?_)))))
  refine wp 8 (wl (ql ?_))
  obtain rfl := oi a0
  exact je hH.kp
  refine wp 1 (gy 9 (amq a1 (65 : UInt8) (by kernel_rfl) (by kernel_rfl) (gy 9 (wd a0 (fun a3 a0 => ?_) (fun a3 a0 => ?_)))))
  refine wp 1 (gy 12 (amp a1 (90 : UInt8) (by kernel_rfl) (by kernel_rfl) (wp 3 (wl (ql ?_)))))
  obtain rfl := oi a0
  exact je hH.kp
  refine wp 5 (wl (ql ?_))
  obtain rfl := oi a0
  exact je hH.kp
  refine wp 5 (gy 9 (amq a1 (65 : UInt8) (by kernel_rfl) (by kernel_rfl) (gy 9 (wd a0 (fun a4 a0 => ?_) (fun a4 a0 => ?_)))))
  refine wp 1 (gy 12 (amp a1 (90 : UInt8) (by kernel_rfl) (by kernel_rfl) (wp 3 (wl (ql ?_)))))
  obtain rfl := oi a0
  exact je hH.kp
  refine wp 5 (wl (ql ?_))
  obtain rfl := oi a0
  exact je hH.kp
  intro a6 G a5
  refine ct ?_
  obtain rfl := oi hr
  exact rv a5.kp
theorem agj {fu : Nat} {a1 : UInt8} {w : World} {r : Bool} (hr : afo fu a1 = some r) (hG : Gl w) : CR Tryz.prog 142 [(bt a1)] w fun v w' => v = (Vb r) ∧ Hp w [] [] w' := by
  have hH : Hp w [] [] w := Hp.refl w
  refine enter (k := 9) Tryz.func142 rfl rfl (Nat.le_of_ble_eq_true rfl) ?_
  unfold afo at hr
  refine sr (wp 1 (nq (bi hr fun v5 a0 hr => agq hH [2] [(2, (Vb v5))] ?_ ?_)))
  refine cr (wp 1 (amq a1 (48 : UInt8) (by kernel_rfl) (by kernel_rfl) (wd a0 (fun h6 a0 => ?_) (fun h6 a0 => ?_))))
  refine wp 1 (gy 5 (amp a1 (57 : UInt8) (by kernel_rfl) (by kernel_rfl) (wp 2 (wl (ql ?_)))))
  obtain rfl := oi a0
  exact je hH.kp
  refine wp 4 (wl (ql ?_))
  obtain rfl := oi a0
  exact je hH.kp
  intro w7 G a2
  refine ct ?_
  obtain rfl := oi hr
  exact rv a2.kp
end Go.Proofs
set_option linter.unusedVariables false
set_option linter.unusedSimpArgs false
set_option maxRecDepth 20000
set_option maxHeartbeats 1000000
namespace Go.Proofs
open Go.Wk Go.Px
open Go.Value renaming slice → Vs, int → Vi, bool → Vb, pointer → Vp
theorem ent84 : Go.Wk.Enters Tryz.prog 84 := ⟨Tryz.f84, _, Tryz.func84, rfl, by kernel_rfl⟩
theorem ent141 : Go.Wk.Enters Tryz.prog 141 := ⟨Tryz.f141, _, Tryz.func141, rfl, by kernel_rfl⟩
theorem ent142 : Go.Wk.Enters Tryz.prog 142 := ⟨Tryz.f142, _, Tryz.func142, rfl, by kernel_rfl⟩
theorem ent144 : Go.Wk.Enters Tryz.prog 144 := ⟨Tryz.f144, _, Tryz.func144, rfl, by kernel_rfl⟩
theorem ent146 : Go.Wk.Enters Tryz.prog 146 := ⟨Tryz.f146, _, Tryz.func146, rfl, by kernel_rfl⟩
theorem ent192 : Go.Wk.Enters Tryz.prog 192 := ⟨Tryz.f192, _, Tryz.func192, rfl, by kernel_rfl⟩
theorem ent193 : Go.Wk.Enters Tryz.prog 193 := ⟨Tryz.f193, _, Tryz.func193, rfl, by kernel_rfl⟩
theorem ent204 : Go.Wk.Enters Tryz.prog 204 := ⟨Tryz.f204, _, Tryz.func204, rfl, by kernel_rfl⟩
theorem ent238 : Go.Wk.Enters Tryz.prog 238 := ⟨Tryz.f238, _, Tryz.func238, rfl, by kernel_rfl⟩
theorem ent265 : Go.Wk.Enters Tryz.prog 265 := ⟨Tryz.f265, _, Tryz.func265, rfl, by kernel_rfl⟩
theorem ent266 : Go.Wk.Enters Tryz.prog 266 := ⟨Tryz.f266, _, Tryz.func266, rfl, by kernel_rfl⟩
theorem amm {fu : Nat} {a3 : UInt8} {a2 : Int} {w : World} {r : Bool} (hr : aji fu a3 a2 = some r) (hG : Gl w) : CR Tryz.prog 204 [(bt a3), (Vi .i64 a2)] w fun v w' => v = (Vb r) ∧ Hp w [] [] w' := by
  have hH : Hp w [] [] w := Hp.refl w
  refine enter (k := 30) Tryz.func204 rfl rfl (Nat.le_of_ble_eq_true rfl) ?_
  unfold aji at hr
  refine sr (wp 1 (nq (cs (bi hr fun a9 a0 hr => agq hH [0, 1, 4, 15] [(15, (Vb a9))] ?_ ?_))))
  refine cr (wp 1 (bi a0 fun c5 b0 a0 => wc ent144 hH (ams b0 (hG.hp0 hH)) fun c6 a5 => wb a0 (fun b1 a0 => ?_) (fun b1 a0 => ?_)))
  refine wp 8 (wl (ql ?_))
  obtain rfl := oi a0
  exact je a5.kp
  refine wp 1 (gy 7 (bi a0 fun c7 b2 a0 => wc ent142 a5 (agj b2 (hG.hp0 a5)) fun b3 a6 => wp 1 (wb a0 (fun b4 a0 => ?_) (fun b4 a0 => ?_))))
  refine wp 4 (wl (ql ?_))
  obtain rfl := oi a0
  exact je a6.kp
  refine wp 1 (gy 11 (aad 146 #[] [(str ([45, 95, 46, 33, 126, 42, 39, 40, 41] : Str)), (bt a3)] _ ent146 (by kernel_rfl) (by kernel_rfl) (akc ([45, 95, 46, 33, 126, 42, 39, 40, 41] : Str) a3 b3) ?_))
  rintro _ c8 ⟨rfl, a7⟩
  have b5 := a6.call a7; clear a7
  refine wp 2 (wl (ql ?_))
  obtain rfl := oi a0
  exact je b5.kp
  intro b6 G a4
  refine cb hr (fun b7 hr => ?_) (fun b7 hr => ?_)
  refine sr (wp 1 (nq (ct (st ?_))))
  obtain rfl := oi hr
  exact rv a4.kp
  refine ck (qn (bi hr fun b8 a1 hr => agq a4 [4] [(4, (Vb b8))] ?_ ?_))
  refine cr (wp 2 (wd a1 (fun b9 a1 => ?_) (fun b9 a1 => ?_)))
  refine wp 3 (wd a1 (fun c0 a1 => ?_) (fun c0 a1 => ?_))
  refine wp 1 (gy 22 (gi a1 fun c1 a1 => w_ixaA ⟨3, 0, none⟩ 3 9 1 .i64 a2 Tryz.underlying220 (by kernel_rfl) (by kernel_rfl) (by kernel_rfl) c1 (by decide) (gy 22 (gi a1 fun c2 a1 => w_ldE1 (some ⟨3, 0, none⟩) eS ajd 1 a2 enc_S (hG.classes.rd.hp a4) (str (el ajd a2)) c2 (by decide) (by kernel_rfl) (by kernel_rfl) (by kernel_rfl) (wp 1 (gy 22 (aad 146 #[] [(str (el ajd a2)), (bt a3)] _ ent146 (by kernel_rfl) (by kernel_rfl) (akc (el ajd a2) a3 b6) ?_)))))))
  rintro _ c9 ⟨rfl, a8⟩
  have c3 := a4.call a8; clear a8
  refine wp 3 (wl (ql ?_))
  obtain rfl := oi a1
  exact je c3.kp
  refine wp 8 (wl (ql ?_))
  obtain rfl := oi a1
  exact je a4.kp
  refine wp 12 (wl (ql ?_))
  obtain rfl := oi a1
  exact je a4.kp
  intro d0 G c4
  refine ct ?_
  obtain rfl := oi hr
  exact rv c4.kp
theorem ajq {fu : Nat} {a0 : UInt8} {w : World} {r : (UInt8 × Bool)} (hr : agx fu a0 = some r) (hG : Gl w) : CR Tryz.prog 192 [(bt a0)] w fun v w' => v = (Value.tuple #[(bt r.1), (Vb r.2)]) ∧ Hp w [] [] w' := by
  have hH : Hp w [] [] w := Hp.refl w
  refine enter (k := 29) Tryz.func192 rfl rfl (Nat.le_of_ble_eq_true rfl) ?_
  unfold agx at hr
  refine sr (wp 2 (nq (cs (ce (sr (wp 1 ?_))))))
  refine bi hr fun y1 a6 hr => wc ent142 hH (agj a6 (hG.hp0 hH)) fun w3 a3 => wp 1 (nq (cb hr (fun h6 hr => ?_) (fun h6 hr => ?_)))
  refine sr (wp 1 (w8_sub a0 (48 : UInt8) (by kernel_rfl) (by kernel_rfl) (wp 2 (nq (ct (bt_ (st ?_)))))))
  obtain rfl := oi hr
  exact rv a3.kp
  refine bi hr fun a7 a1 hr => agq a3 [0, 2, 3, 9] [(9, (Vb a7))] ?_ ?_
  refine cr (wp 1 (amq a0 (97 : UInt8) (by kernel_rfl) (by kernel_rfl) (wd a1 (fun a8 a1 => ?_) (fun a8 a1 => ?_))))
  refine wp 1 (gy 12 (amp a0 (102 : UInt8) (by kernel_rfl) (by kernel_rfl) (wp 2 (wl (ql ?_)))))
  obtain rfl := oi a1
  exact je a3.kp
  refine wp 4 (wl (ql ?_))
  obtain rfl := oi a1
  exact je a3.kp
  intro b3 G a4
  refine cb hr (fun a9 hr => ?_) (fun a9 hr => ?_)
  refine sr (wp 1 (w8_sub a0 (97 : UInt8) (by kernel_rfl) (by kernel_rfl) (w8_add (a0 - (97 : UInt8)) (10 : UInt8) (by kernel_rfl) (by kernel_rfl) (wp 2 (nq (ct (bt_ ?_)))))))
  refine st ?_
  obtain rfl := oi hr
  exact rv a4.kp
  refine bi hr fun b0 a2 hr => agq a4 [0, 2, 3, 19] [(19, (Vb b0))] ?_ ?_
  refine cr (wp 1 (amq a0 (65 : UInt8) (by kernel_rfl) (by kernel_rfl) (wd a2 (fun b1 a2 => ?_) (fun b1 a2 => ?_))))
  refine wp 1 (gy 22 (amp a0 (70 : UInt8) (by kernel_rfl) (by kernel_rfl) (wp 2 (wl (ql ?_)))))
  obtain rfl := oi a2
  exact je a4.kp
  refine wp 4 (wl (ql ?_))
  obtain rfl := oi a2
  exact je a4.kp
  intro b4 G a5
  refine cb hr (fun b2 hr => ?_) (fun b2 hr => ?_)
  refine sr (wp 1 (w8_sub a0 (65 : UInt8) (by kernel_rfl) (by kernel_rfl) (w8_add (a0 - (65 : UInt8)) (10 : UInt8) (by kernel_rfl) (by kernel_rfl) (wp 2 (nq (ct (bt_ ?_)))))))
  refine st ?_
  obtain rfl := oi hr
  exact rv a5.kp
  refine ck (bn (qn (sr (wp 2 (nq (ct ?_))))))
  obtain rfl := oi hr
  exact rv a5.kp
theorem alx {fu : Nat} {s_0 : Str} {a0 : Int} {w : World} {r : (UInt8 × Bool)} (hr : air fu s_0 a0 = some r) (hG : Gl w) : CR Tryz.prog 265 [(str s_0), (Vi .i64 a0)] w fun v w' => v = (Value.tuple #[(bt r.1), (Vb r.2)]) ∧ Hp w [] [] w' := by
  have hH : Hp w [] [] w := Hp.refl w
  refine enter (k := 45) Tryz.func265 rfl rfl (Nat.le_of_ble_eq_true rfl) ?_
  unfold air at hr
  refine sr (wp 2 (nq (cs (bi hr fun v7 a1 hr => agq hH [0, 1, 4, 5, 20] [(20, (Vb v7))] ?_ ?_))))
  refine cr (wp 1 (gi a1 fun g8 a1 => aac a0 (2 : Int) (by kernel_rfl) (by kernel_rfl) g8 (wp 3 (wd a1 (fun h9 a1 => ?_) (fun h9 a1 => ?_)))))
  refine wp 5 (wl (ql ?_))
  obtain rfl := oi a1
  exact je hH.kp
  refine wp 2 (gy 15 (gi a1 fun a8 a1 => adz s_0 .i64 a0 Tryz.underlying9 (by kernel_rfl) (by kernel_rfl) a8 (gy 15 (aec (at_ s_0 a0) (37 : UInt8) (by kernel_rfl) (by kernel_rfl) (wp 1 (wl (ql ?_)))))))
  obtain rfl := oi a1
  exact je hH.kp
  intro c0 G a3
  refine cb hr (fun a9 hr => ?_) (fun a9 hr => ?_)
  refine sr (wp 2 (nq (ct (st ?_))))
  obtain rfl := oi hr
  exact rv a3.kp
  refine ck (qn (sr (wp 2 (gi hr fun b0 hr => aac a0 (1 : Int) (by kernel_rfl) (by kernel_rfl) b0 (gi hr fun b1 hr => adz s_0 .i64 (a0 + (1 : Int)) Tryz.underlying9 (by kernel_rfl) (by kernel_rfl) b1 (bi hr fun a4 b2 hr => ?_))))))
  refine wc ent192 a3 (ajq b2 (hG.hp0 a3)) fun c1 a6 => wp 5 (nq (sr (wp 2 (gi hr fun b3 hr => aac a0 (2 : Int) (by kernel_rfl) (by kernel_rfl) b3 (gi hr fun b4 hr => ?_)))))
  refine adz s_0 .i64 (a0 + (2 : Int)) Tryz.underlying9 (by kernel_rfl) (by kernel_rfl) b4 (bi hr fun a7 b5 hr => wc ent192 a6 (ajq b5 (hG.hp0 a6)) fun c2 a5 => wp 5 (nq (bi hr fun b6 a2 hr => agq a5 [4, 5] [(4, (bt ((shl8 a4.1 (4 : Int)) ||| a7.1))), (5, (Vb b6))] ?_ ?_)))
  refine cr (wp 1 (gi a2 fun b7 a2 => w8_shl .u64 a4.1 (4 : Int) (by kernel_rfl) (by kernel_rfl) b7 (wp 1 (w8_or (shl8 a4.1 (4 : Int)) a7.1 (by kernel_rfl) (by kernel_rfl) (wp 1 (wb a2 (fun b8 a2 => ?_) (fun b8 a2 => ?_)))))))
  refine wp 4 (wl (ql ?_))
  obtain rfl := oi a2
  exact je a5.kp
  refine wp 4 (wl (ql ?_))
  obtain rfl := oi a2
  exact je a5.kp
  intro c3 G b9
  refine ct ?_
  obtain rfl := oi hr
  exact rv b9.kp
theorem amn {fu : Nat} {a1 : UInt8} {w : World} {r : Bool} (hr : ajj fu a1 = some r) (hG : Gl w) : CR Tryz.prog 238 [(bt a1)] w fun v w' => v = (Vb r) ∧ Hp w [] [] w' := by
  have hH : Hp w [] [] w := Hp.refl w
  refine enter (k := 13) Tryz.func238 rfl rfl (Nat.le_of_ble_eq_true rfl) ?_
  unfold ajj at hr
  refine sr (wp 1 (nq (bi hr fun v6 a0 hr => agq hH [2] [(2, (Vb v6))] ?_ ?_)))
  refine cr (wp 1 (w8_lss a1 (32 : UInt8) (by kernel_rfl) (by kernel_rfl) (wd a0 (fun h7 a0 => ?_) (fun h7 a0 => ?_))))
  refine wp 1 (gy 5 (aec a1 (9 : UInt8) (by kernel_rfl) (by kernel_rfl) (wp 1 (wn a0 (fun h8 a0 => ?_) (fun h8 a0 => ?_)))))
  refine wp 4 (wl (ql ?_))
  obtain rfl := oi a0
  exact je hH.kp
  refine wp 1 (gy 9 (ack a1 (127 : UInt8) (by kernel_rfl) (by kernel_rfl) (wp 2 (wl (ql ?_)))))
  obtain rfl := oi a0
  exact je hH.kp
  refine wp 5 (gy 9 (ack a1 (127 : UInt8) (by kernel_rfl) (by kernel_rfl) (wp 2 (wl (ql ?_)))))
  obtain rfl := oi a0
  exact je hH.kp
  intro w9 G a2
  refine ct ?_
  obtain rfl := oi hr
  exact rv a2.kp
theorem ahr {fu : Nat} {a1 : (Str × Int)} {a5 : Int} {a9 : Int} (a2 : Nat) {w : World} {r : (Int × Bool)} (hr : afh fu a1 a5 a9 = some r) (hG : Gl w) (hM : Hp w (aaj [blk a2 [(str a1.1), (Vi .i64 a1.2)] 119]) [blk a2 [(str a1.1), (Vi .i64 a1.2)] 119] w) (hS : ∀ b ∈ aaj [blk a2 [(str a1.1), (Vi .i64 a1.2)] 119], 9 ≤ b) : CR Tryz.prog 254 [(Vp (some ⟨a2, 0, none⟩)), (Vi .i64 a5), (Vi .i64 a9)] w fun v w' => v = (Value.tuple #[(Vi .i64 r.1), (Vb r.2)]) ∧ Hp w (aaj [blk a2 [(str a1.1), (Vi .i64 a1.2)] 119]) [blk a2 [(str a1.1), (Vi .i64 a1.2)] 119] w' := by
  have hH : Hp w (aaj [blk a2 [(str a1.1), (Vi .i64 a1.2)] 119]) [blk a2 [(str a1.1), (Vi .i64 a1.2)] 119] w := hM
  refine enter (k := 50) Tryz.func254 rfl rfl (Nat.le_of_ble_eq_true rfl) ?_
  unfold afh at hr
  refine sr (wp 2 (nq (bi hr fun b2 b3 hr => cut1 hH b2 [6, 7] (fun b4 => []) ?_ ?_)))
  refine sr (wp 3 (aav hH 0 a2 1 [(str a1.1), (Vi .i64 a1.2)] 119 (Vi .i64 a1.2) rfl rfl (by kernel_rfl) (by kernel_rfl) (wp 1 (nq (ce (lpS (fun b0 a3 => aef fu a1 a5 a9 b0 a3) a1.2 hH b3 [0, 1, 2, 6, 7, 8] (fun a3 => [(8, (Vi .i64 a3))]) (fun _ => rfl) ?_))))))
  rintro b0 a3 d0 G a6 a0
  rw [aef.eq_2] at a0
  refine cs (sr (wp 3 (nq (cd a0 (fun b5 a0 => ?_) (fun b5 a0 => ?_)))))
  refine ck (qn (cs (ce (cs (sr (wp 4 (aav a6 0 a2 0 [(str a1.1), (Vi .i64 a1.2)] 119 (str a1.1) rfl rfl (by kernel_rfl) (by kernel_rfl) (wp 1 ?_))))))))
  refine gi a0 fun b6 a0 => adz a1.1 .i64 a3 Tryz.underlying9 (by kernel_rfl) (by kernel_rfl) b6 (wp 1 (bi a0 fun d1 b7 a0 => wc ent204 a6 (amm b7 (hG.hp a6 hS)) fun d2 a7 => nq (cb a0 (fun b8 a0 => ?_) (fun b8 a0 => ?_))))
  refine ach (acg (aci (qn (cr (wp 1 (gi a0 fun b9 a0 => aac a3 (1 : Int) (by kernel_rfl) (by kernel_rfl) b9 (wp 1 (wl ?_))))))))
  exact ql (le' (a3 + (1 : Int)) a7.kp a0)
  refine ck (qn (sr (wp 4 (aav a7 0 a2 0 [(str a1.1), (Vi .i64 a1.2)] 119 (str a1.1) rfl rfl (by kernel_rfl) (by kernel_rfl) (wp 1 (gi a0 fun c0 a0 => akw a1.1 .i64 a5 Tryz.underlying9 (by kernel_rfl) (by kernel_rfl) c0 (wp 1 ?_)))))))
  refine bi a0 fun d3 c1 a0 => wc ent265 a7 (alx c1 (hG.hp a7 hS)) fun d4 a8 => wp 5 (nq (cs (bi a0 fun c2 a4 a0 => agq a8 [0, 1, 2, 6, 7, 8, 46] [(46, (Vb c2))] ?_ ?_)))
  refine cr (wp 2 (wb a4 (fun c3 a4 => ?_) (fun c3 a4 => ?_)))
  refine wp 3 (wl (ql ?_))
  obtain rfl := oi a4
  exact je a8.kp
  refine wp 1 (gy 43 (bi a4 fun d5 c4 a4 => wc ent238 a8 (amn c4 (hG.hp a8 hS)) fun d6 c5 => wp 1 (wl (ql ?_))))
  obtain rfl := oi a4
  exact je c5.kp
  intro d7 G b1
  refine cb a0 (fun c6 a0 => ?_) (fun c6 a0 => ?_)
  refine sr (wp 3 (nq (ct (st (bt_ (st (acp ?_)))))))
  refine bt_ (acp ?_)
  obtain rfl := oi a0
  obtain rfl := oi hr
  refine ajc (Vi .i64 a3) (Vb true) rfl (by kernel_rfl) (by kernel_rfl) ?_
  exact ⟨(by first | rfl | (simp; done) | (simp; omega)), b1.kp⟩
  refine ck (qn (cr (wp 1 (gi a0 fun c7 a0 => aac a3 (2 : Int) (by kernel_rfl) (by kernel_rfl) c7 (wp 1 (wl (bn (qn ?_))))))))
  exact cr (wp 1 (gi a0 fun c8 a0 => aac (a3 + (2 : Int)) (1 : Int) (by kernel_rfl) (by kernel_rfl) c8 (wp 1 (wl (ql (le' ((a3 + (2 : Int)) + (1 : Int)) b1.kp a0))))))
  refine ach (acg (acq (aci (ql ?_))))
  obtain rfl := oi a0
  exact je1 rfl a6.kp
  rintro b4 d8 G c9 rfl
  refine sr (wp 2 (nq (ct ?_)))
  obtain rfl := oi hr
  refine ajc (Vi .i64 (0 : Int)) (Vb false) rfl (by kernel_rfl) (by kernel_rfl) ?_
  exact ⟨(by first | rfl | (simp; done) | (simp; omega)), c9.kp⟩
theorem K_L_address_Unescape {fu : Nat} {s_0 : Str} {w : World} {r : (Str × Int × UInt8)} (hr : akp fu s_0 = some r) (hG : Gl w) : CR Tryz.prog 266 [(str s_0)] w fun v w' => v = (Value.tuple #[(str r.1), (Vi .i64 r.2.1), (bt r.2.2)]) ∧ Hp w [] [] w' := by
  have hH : Hp w [] [] w := Hp.refl w
  refine enter (k := 45) Tryz.func266 rfl rfl (Nat.le_of_ble_eq_true rfl) ?_
  unfold akp at hr
  refine sr (wp 3 (nq (sr (wp 2 (gi hr fun g1 hr => w_makeT (f := eB) hH 5 1 1 .i64 .i64 (s_0.length : Int) Tryz.underlying92 (by unfold TI; kernel_rfl) (by decide) (by kernel_rfl) (by kernel_rfl) g1 fun o2 a3 cap4 w5 c9 => ?_)))))
  refine wp 1 (nq (bi hr fun b8 d0 hr => cut (σ := (List UInt8) × (Option Nat) × (Option Addr) × Nat) [2, 3, 4, 5] (fun ⟨a4, b3, a9, b0⟩ => [(5, (Vs a9 a4.length b0))]) (fun ⟨a4, b3, a9, b0⟩ w' => Hp w [] [rwt eB 5 1 b3 a9 b0 a4] w' ∧ .inl a4 = b8) ?_ ?_))
  refine sr (wp 1 (nq (ce (lpG (σ := Nat × (List UInt8) × Int × (Option Nat) × (Option Addr) × Nat) [0, 2, 3, 4, 5, 6] (fun ⟨a7, a2, a1, a8, a5, a6⟩ => [(5, (Vs a5 a2.length a6)), (6, (Vi .i64 a1))]) (fun ⟨a7, a2, a1, a8, a5, a6⟩ w' => Hp w [] [rwt eB 5 1 a8 a5 a6 a2] w' ∧ afj fu s_0 a7 a2 a1 = some b8) (fun ⟨a7, a2, a1, a8, a5, a6⟩ => a7) (fu, ([] : List UInt8), (0 : Int), o2, a3, cap4) (by exact ⟨c9.kp, d0⟩) ?_ (mc (by kernel_rfl) (mc (by kernel_rfl) (mc (by kernel_rfl) (mc (by kernel_rfl) (mc (Eq.trans (b := (Vs a3 0 cap4)) (by kernel_rfl) (aae (by (try simp only [List.length_set]) <;> first | rfl | omega | simp))) (mc (by kernel_rfl) rfl))))))))))
  rintro ⟨_ | a7, a2, a1, a8, a5, a6⟩ e5 G ⟨b2, a0⟩
  · exact absurd (show none = some _ from a0) (by simp)
  rw [afj.eq_2] at a0
  refine cs (sr (wp 4 (nq (cd a0 (fun d1 a0 => ?_) (fun d1 a0 => ?_)))))
  refine ck (qn (cs (ce (cs (sr (wp 2 (gi a0 fun d2 a0 => adz s_0 .i64 a1 Tryz.underlying9 (by kernel_rfl) (by kernel_rfl) d2 ?_)))))))
  refine aec (at_ s_0 a1) (37 : UInt8) (by kernel_rfl) (by kernel_rfl) (nq (cn a0 (fun d3 a0 => ?_) (fun d3 a0 => ?_)))
  refine sr (wp 3 (gi a0 fun d4 a0 => adz s_0 .i64 a1 Tryz.underlying9 (by kernel_rfl) (by kernel_rfl) d4 (adl b2 [(bt (at_ s_0 a1))] 5 (fun b => (Vs (some ⟨b, 0, none⟩) 1 1)) rfl rfl (by kernel_rfl) fun b4 e6 b9 => gi a0 fun d5 a0 => adw b9 1 a8 a5 (some ⟨b4, 0, none⟩) a6 1 5 1 1 a2 ([at_ s_0 a1] : List UInt8) aks rfl Tryz.underlying92 (by unfold TI; kernel_rfl) (by decide) (by decide) (by kernel_rfl) (Eq.trans (b := (Vs (some ⟨b4, 0, none⟩) 1 1)) (by kernel_rfl) (aae (by first | rfl | (simp; done) | omega | (simp; omega) | (rw [List.length_take]; omega)))) (b9.rdblk 0 rfl) d5 fun c0 c1 c2 d6 b5 => ?_)))
  replace b5 : Hp w [] [blk b4 [(bt (at_ s_0 a1))] 5, rwt eB 5 1 c0 c1 c2 (a2 ++ ([at_ s_0 a1] : List UInt8))] d6 := b5
  refine wp 1 (nq (ach (acg (aci (qn (cr (wp 1 (gi a0 fun d7 a0 => ?_))))))))
  refine aac a1 (1 : Int) (by kernel_rfl) (by kernel_rfl) d7 (wp 1 (wl (ql ?_)))
  exact ⟨(a7, a2 ++ ([at_ s_0 a1] : List UInt8), a1 + (1 : Int), c0, c1, c2), _, rfl, by kernel_rfl, ⟨(Hp.front b5 1 _ rfl).kp, a0⟩, Nat.lt_succ_self _⟩
  refine ck (qn (sr (wp 2 (bi a0 fun b1 d8 a0 => wc ent265 b2 (alx d8 (hG.hp0 b2)) fun e7 c3 => wp 5 (nq ?_)))))
  refine cs (sr (wp 2 (nq (cb a0 (fun d9 a0 => ?_) (fun d9 a0 => ?_)))))
  refine sr (wp 4 (nq (ct (st (bt_ (st (acp ?_)))))))
  refine bt_ (acp ?_)
  obtain rfl := oi a0
  obtain rfl := oi hr
  exact rv c3.kp
  refine ck (qn (sr (wp 2 (adl c3 [(bt b1.1)] 5 (fun b => (Vs (some ⟨b, 0, none⟩) 1 1)) rfl rfl (by kernel_rfl) fun b6 e8 c4 => gi a0 fun e0 a0 => adw c4 1 a8 a5 (some ⟨b6, 0, none⟩) a6 1 5 1 1 a2 ([b1.1] : List UInt8) aks rfl Tryz.underlying92 (by unfold TI; kernel_rfl) (by decide) (by decide) (by kernel_rfl) (Eq.trans (b := (Vs (some ⟨b6, 0, none⟩) 1 1)) (by kernel_rfl) (aae (by first | rfl | (simp; done) | omega | (simp; omega) | (rw [List.length_take]; omega)))) (c4.rdblk 0 rfl) e0 fun c5 c6 c7 e1 b7 => ?_))))
  replace b7 : Hp w [] [blk b6 [(bt b1.1)] 5, rwt eB 5 1 c5 c6 c7 (a2 ++ ([b1.1] : List UInt8))] e1 := b7
  refine wp 1 (nq (cr (wp 1 (gi a0 fun e2 a0 => aac a1 (2 : Int) (by kernel_rfl) (by kernel_rfl) e2 (wp 1 (wl (bn ?_)))))))
  refine qn (cr (wp 1 (gi a0 fun e3 a0 => aac (a1 + (2 : Int)) (1 : Int) (by kernel_rfl) (by kernel_rfl) e3 (wp 1 (wl (ql ?_))))))
  exact ⟨(a7, a2 ++ ([b1.1] : List UInt8), (a1 + (2 : Int)) + (1 : Int), c5, c6, c7), _, rfl, by kernel_rfl, ⟨(Hp.front b7 1 _ rfl).kp, a0⟩, Nat.lt_succ_self _⟩
  refine ach (acg (acq (aci (ql ?_))))
  obtain rfl := oi a0
  exact ⟨(a2, a8, a5, a6), _, rfl, by kernel_rfl, b2.kp, rfl⟩
  rintro ⟨a4, b3, a9, b0⟩ e4 G ⟨c8, rfl⟩
  refine sr (wp 1 (aed (v := (str a4)) (w' := e4) rfl rfl (anm a4 a9 a4.length b0 5 (Rd.bytes (c8.rdrw 0 rfl)) (by first | rfl | (simp; done) | omega | (simp; omega) | (rw [List.length_take]; omega)) Tryz.underlying92 Tryz.underlying9 Tryz.underlying5 (by kernel_rfl)) (wp 3 (nq (ct ?_)))))
  obtain rfl := oi hr
  exact rv c8.kp
theorem aka {fu : Nat} {s_0 : Str} {w : World} {r : Str} (hr : aho fu s_0 = some r) (hG : Gl w) : CR Tryz.prog 255 [(str s_0)] w fun v w' => v = (str r) ∧ Hp w [] [] w' := by
  have hH : Hp w [] [] w := Hp.refl w
  refine enter (k := 13) Tryz.func255 rfl rfl (Nat.le_of_ble_eq_true rfl) ?_
  unfold aho at hr
  refine sr (wp 1 (nq (sr (wp 1 (bi hr fun y1 a0 hr => wc ent266 hH (K_L_address_Unescape a0 (hG.hp0 hH)) fun w3 a1 => ?_)))))
  refine wp 7 (nq (sr (wp 2 (nq (ct ?_)))))
  obtain rfl := oi hr
  exact rv a1.kp
theorem ajb {fu : Nat} {s_0 : Str} {w : World} {r : ((List Str) × Bool)} (hr : agn fu s_0 = some r) (hG : Gl w) : CR Tryz.prog 140 [(str s_0)] w fun v w' => ∃ (o0 : Option Nat), ∃ (a0 : Option Addr), ∃ (cap0 : Nat), v = (Value.tuple #[(Vs a0 r.1.length cap0), (Vb r.2)]) ∧ Hp w [] [rwt eS 9 1 o0 a0 cap0 r.1] w' := by
  have hH : Hp w [] [] w := Hp.refl w
  refine enter (k := 53) Tryz.func140 rfl rfl (Nat.le_of_ble_eq_true rfl) ?_
  unfold agn at hr
  refine sr (wp 2 (nq (sr (wp 1 (gi hr fun g4 hr => aad 141 #[] [(str s_0), (str ([58] : Str))] _ ent141 (by kernel_rfl) (by kernel_rfl) (sh_Split s_0 58 w g4 (hG.hp0 hH)) ?_)))))
  rintro _ w1 ⟨o5, a6, cap7, rfl, b9⟩
  have c5 : Hp w [] [rwt eS 9 1 o5 a6 cap7 (spl 58 s_0)] w1 := Hp.callK (L1 := []) (L2 := []) hH b9; clear b9
  refine wp 1 (nq (bi hr fun c0 c6 hr => cut (σ := (List Str)) [2, 3, 4] (fun a8 => [(4, (Vs a6 a8.length cap7))]) (fun a8 w' => Hp w [] [rwt eS 9 1 o5 a6 cap7 a8] w' ∧ a8.length = (spl 58 s_0).length ∧ .inl a8 = c0) ?_ ?_))
  refine sr (wp 3 (nq (ce (lpG (σ := Nat × (List Str) × Int) [2, 3, 4, 12, 13, 14] (fun ⟨b0, a2, a3⟩ => [(4, (Vs a6 a2.length cap7)), (12, (Vs a6 a2.length cap7)), (14, (Vi .i64 a3))]) (fun ⟨b0, a2, a3⟩ w' => Hp w [] [rwt eS 9 1 o5 a6 cap7 a2] w' ∧ a2.length = (spl 58 s_0).length ∧ aga fu s_0 b0 a2 a3 = some c0) (fun ⟨b0, a2, a3⟩ => b0) (fu, spl 58 s_0, (0 : Int)) (by exact ⟨c5.kp, (by (try simp only [List.length_set]) <;> first | rfl | omega), c6⟩) ?_))))
  rintro ⟨_ | b0, a2, a3⟩ f7 G ⟨b1, f8, a5⟩
  · exact absurd (show none = some _ from a5) (by simp)
  rw [aga.eq_2] at a5
  refine sr (wp 1 (nq (cs (cd a5 (fun c7 a5 => ?_) (fun c7 a5 => ?_)))))
  refine ck (qn (bi a5 fun c8 a1 a5 => cut (σ := (List Str)) [2, 3, 4, 12, 13, 14] (fun a7 => [(4, (Vs a6 a7.length cap7)), (12, (Vs a6 a7.length cap7))]) (fun a7 w' => Hp w [] [rwt eS 9 1 o5 a6 cap7 a7] w' ∧ a7.length = a2.length ∧ .inl a7 = c8) ?_ ?_))
  refine ce (sr (wp 1 (gi a1 fun c9 a1 => aht a6 a2.length cap7 9 1 .i64 a3 Tryz.underlying54 (by kernel_rfl) (by kernel_rfl) (by kernel_rfl) a2 rfl c9 (b1.rdrw 0 rfl) enc_S (by decide) (gi a1 fun d0 a1 => w_ldE1 a6 eS a2 1 a3 enc_S (b1.rdrw 0 rfl) (str (el a2 a3)) d0 (by decide) (by kernel_rfl) (by kernel_rfl) (by kernel_rfl) (wp 2 (wl ?_))))))
  refine qn (cs (bi a1 fun d1 b3 a1 => agq b1 [2, 3, 4, 5, 6, 12, 13, 14, 26] [(26, (Vb d1))] ?_ ?_))
  refine cr (wp 3 (wd b3 (fun d2 b3 => ?_) (fun d2 b3 => ?_)))
  refine wp 4 (wl (ql ?_))
  obtain rfl := oi b3
  exact je b1.kp
  refine wp 4 (wl (ql ?_))
  obtain rfl := oi b3
  exact je b1.kp
  intro f9 G b5
  refine cb a1 (fun d3 a1 => ?_) (fun d3 a1 => ?_)
  refine sr (wp 2 (nq (ct (st (bt_ (acp ?_))))))
  obtain rfl := oi a1
  refine acp (bt_ (acp ?_))
  obtain rfl := oi a5
  obtain rfl := oi hr
  refine ajc (Vs none 0 0) (Vb false) rfl (by kernel_rfl) (by kernel_rfl) ?_
  exact ⟨none, none, 0, (by first | rfl | (simp; done) | (simp; omega)), (Hp.nilrw b5 eS 9 1 none).kp⟩
  refine ck (qn (bi a1 fun d4 d5 a1 => cut1 b5 d4 [2, 3, 4, 5, 6, 12, 13, 14] (fun d6 => []) ?_ ?_))
  refine sr (wp 3 (nq (ce (lpS (fun c1 a9 => afz fu a2 a3 c1 a9) (0 : Int) b5 d5 [2, 3, 4, 5, 6, 12, 13, 14, 28, 29] (fun a9 => [(29, (Vi .i64 a9))]) (fun _ => rfl) ?_))))
  rintro c1 a9 g0 G b6 a4
  rw [afz.eq_2] at a4
  refine sr (wp 1 (nq (cs (cd a4 (fun d7 a4 => ?_) (fun d7 a4 => ?_)))))
  refine ck (qn (cs (ce (sr (wp 2 (nq (cs ?_)))))))
  refine cr (wp 2 (gi a4 fun d8 a4 => adz (el a2 a3) .i64 a9 Tryz.underlying9 (by kernel_rfl) (by kernel_rfl) d8 (bi a4 fun g1 d9 a4 => wc ent192 b6 (ajq d9 (hG.hp0 b6)) fun g2 c2 => wp 5 (nq (cs ?_)))))
  refine cr (wp 2 (nq (cb a4 (fun e0 a4 => ?_) (fun e0 a4 => ?_))))
  refine sr (wp 2 (nq (ct (bt_ (st (acp (bt_ ?_)))))))
  refine acp ?_
  obtain rfl := oi a4
  refine bt_ (acp ?_)
  obtain rfl := oi a1
  refine acp (bt_ (acp ?_))
  obtain rfl := oi a5
  obtain rfl := oi hr
  refine ajc (Vs none 0 0) (Vb false) rfl (by kernel_rfl) (by kernel_rfl) ?_
  exact ⟨none, none, 0, (by first | rfl | (simp; done) | (simp; omega)), (Hp.nilrw c2 eS 9 1 none).kp⟩
  exact ck (bn (qn (cr (gi a4 fun e1 a4 => aac a9 (1 : Int) (by kernel_rfl) (by kernel_rfl) e1 (wp 1 (wl (ql (le' (a9 + (1 : Int)) c2.kp a4))))))))
  refine ach (acg (acq (aci (ql ?_))))
  obtain rfl := oi a4
  exact je1 rfl b6.kp
  rintro d6 g3 G c3 rfl
  refine sr (wp 1 (bi a1 fun b2 e2 a1 => wc ent84 c3 (ada e2 (hG.hp0 c3)) fun e3 e4 => gi a1 fun e5 a1 => gi a1 fun e6 a1 => aad 193 #[] [(str b2), (str ([48] : Str))] _ ent193 (by kernel_rfl) (by kernel_rfl) (sh_TrimLeft b2 ([48] : Str) e3 e5 e6) ?_))
  rintro _ g5 ⟨rfl, c4⟩
  have b4 := e4.call c4; clear c4
  refine wp 1 (nq (cs (sr (wp 2 (nq (cd a1 (fun e7 a1 => ?_) (fun e7 a1 => ?_)))))))
  refine cr (wp 1 (nq (cr (wp 3 (gi a1 fun e8 a1 => aht a6 a2.length cap7 9 1 .i64 a3 Tryz.underlying54 (by kernel_rfl) (by kernel_rfl) (by kernel_rfl) a2 rfl e8 (b4.rdrw 0 rfl) enc_S (by decide) (gi a1 fun e9 a1 => w_stE1 b4 0 o5 a6 cap7 9 a3 a2 ([48] : Str) rfl enc_S (str ([48] : Str)) e9 (by kernel_rfl) (by kernel_rfl) (by kernel_rfl) (by kernel_rfl) fun f0 b7 => ?_))))))
  replace b7 : Hp w [] [rwt eS 9 1 o5 a6 cap7 (List.set a2 (Int.toNat a3) ([48] : Str))] f0 := b7
  refine wl (bn (ql ?_))
  obtain rfl := oi a1
  exact ⟨List.set a2 (Int.toNat a3) ([48] : Str), _, rfl, (mc (by kernel_rfl) (mc (by kernel_rfl) (mc (Eq.trans (b := (Vs a6 a2.length cap7)) (by kernel_rfl) (aae (by (try simp only [List.length_set]) <;> first | rfl | omega | simp))) (mc (Eq.trans (b := (Vs a6 a2.length cap7)) (by kernel_rfl) (aae (by (try simp only [List.length_set]) <;> first | rfl | omega | simp))) (mc (by kernel_rfl) (mc (by kernel_rfl) rfl)))))), b7.kp, (by (try simp only [List.length_set]) <;> first | rfl | omega), rfl⟩
  refine ck (qn (cr (wp 3 (gi a1 fun f1 a1 => aht a6 a2.length cap7 9 1 .i64 a3 Tryz.underlying54 (by kernel_rfl) (by kernel_rfl) (by kernel_rfl) a2 rfl f1 (b4.rdrw 0 rfl) enc_S (by decide) (gi a1 fun f2 a1 => w_stE1 b4 0 o5 a6 cap7 9 a3 a2 (Lib.trimLeftS b2 ([48] : Str)) rfl enc_S (str (Lib.trimLeftS b2 ([48] : Str))) f2 (by kernel_rfl) (by kernel_rfl) (by kernel_rfl) (by kernel_rfl) fun f3 b8 => ?_)))))
  replace b8 : Hp w [] [rwt eS 9 1 o5 a6 cap7 (List.set a2 (Int.toNat a3) (Lib.trimLeftS b2 ([48] : Str)))] f3 := b8
  refine wl (bn (ql ?_))
  obtain rfl := oi a1
  exact ⟨List.set a2 (Int.toNat a3) (Lib.trimLeftS b2 ([48] : Str)), _, rfl, (mc (by kernel_rfl) (mc (by kernel_rfl) (mc (Eq.trans (b := (Vs a6 a2.length cap7)) (by kernel_rfl) (aae (by (try simp only [List.length_set]) <;> first | rfl | omega | simp))) (mc (Eq.trans (b := (Vs a6 a2.length cap7)) (by kernel_rfl) (aae (by (try simp only [List.length_set]) <;> first | rfl | omega | simp))) (mc (by kernel_rfl) (mc (by kernel_rfl) rfl)))))), b8.kp, (by (try simp only [List.length_set]) <;> first | rfl | omega), rfl⟩
  rintro a7 g6 G ⟨f4, g7, rfl⟩
  refine cr (gi a5 fun f5 a5 => aac a3 (1 : Int) (by kernel_rfl) (by kernel_rfl) f5 (wp 1 (wl (ql ?_))))
  exact ⟨(b0, a7, a3 + (1 : Int)), _, rfl, by kernel_rfl, ⟨f4.kp, (by (try simp only [List.length_set]) <;> first | rfl | omega), a5⟩, Nat.lt_succ_self _⟩
  refine ach (acg (acq (aci (ql ?_))))
  obtain rfl := oi a5
  exact ⟨a2, _, rfl, by kernel_rfl, b1.kp, (by (try simp only [List.length_set]) <;> first | rfl | omega), rfl⟩
  rintro a8 g8 G ⟨f6, g9, rfl⟩
  refine sr (wp 3 (nq (ct ?_)))
  obtain rfl := oi hr
  refine ajc (Vs a6 a8.length cap7) (Vb true) rfl (by kernel_rfl) (by kernel_rfl) ?_
  exact ⟨o5, a6, cap7, (by first | rfl | (simp; done) | (simp; omega)), f6.kp⟩
end Go.Proofs
set_option linter.unusedVariables false
set_option linter.unusedSimpArgs false
set_option maxRecDepth 20000
set_option maxHeartbeats 1000000
namespace Go.Proofs
open Go.Wk Go.Px
open Go.Value renaming slice → Vs, int → Vi, bool → Vb, pointer → Vp
theorem ent72 : Go.Wk.Enters Tryz.prog 72 := ⟨Tryz.f72, _, Tryz.func72, rfl, by kernel_rfl⟩
theorem ent77 : Go.Wk.Enters Tryz.prog 77 := ⟨Tryz.f77, _, Tryz.func77, rfl, by kernel_rfl⟩
theorem ent81 : Go.Wk.Enters Tryz.prog 81 := ⟨Tryz.f81, _, Tryz.func81, rfl, by kernel_rfl⟩
theorem ent82 : Go.Wk.Enters Tryz.prog 82 := ⟨Tryz.f82, _, Tryz.func82, rfl, by kernel_rfl⟩
theorem ent83 : Go.Wk.Enters Tryz.prog 83 := ⟨Tryz.f83, _, Tryz.func83, rfl, by kernel_rfl⟩
theorem ent140 : Go.Wk.Enters Tryz.prog 140 := ⟨Tryz.f140, _, Tryz.func140, rfl, by kernel_rfl⟩
theorem ent143 : Go.Wk.Enters Tryz.prog 143 := ⟨Tryz.f143, _, Tryz.func143, rfl, by kernel_rfl⟩
theorem ent175 : Go.Wk.Enters Tryz.prog 175 := ⟨Tryz.f175, _, Tryz.func175, rfl, by kernel_rfl⟩
theorem ent195 : Go.Wk.Enters Tryz.prog 195 := ⟨Tryz.f195, _, Tryz.func195, rfl, by kernel_rfl⟩
theorem ent227 : Go.Wk.Enters Tryz.prog 227 := ⟨Tryz.f227, _, Tryz.func227, rfl, by kernel_rfl⟩
theorem K_L_address_groups {fu : Nat} {s_0 : Str} {w : World} {r : (Str × Bool)} (hr : alo fu s_0 = some r) (hG : Gl w) : CR Tryz.prog 81 [(str s_0)] w fun v w' => v = (Value.tuple #[(str r.1), (Vb r.2)]) ∧ Hp w [] [] w' := by
  have hH : Hp w [] [] w := Hp.refl w
  refine enter (k := 71) Tryz.func81 rfl rfl (Nat.le_of_ble_eq_true rfl) ?_
  unfold alo at hr
  refine sr (wp 2 (nq (cs (sr (wp 3 (wl ?_))))))
  refine qn (cd hr (fun h1 hr => ?_) (fun h1 hr => ?_))
  refine sr (wp 2 (nq (ct (st ?_))))
  obtain rfl := oi hr
  exact rv hH.kp
  refine ck (qn (sr (wp 1 (gi hr fun g5 hr => aad 77 #[] [(str s_0), (str ([58, 58] : Str))] _ ent77 (by kernel_rfl) (by kernel_rfl) (sh_Cut s_0 ([58, 58] : Str) w g5 (hG.hp0 hH)) ?_))))
  rintro _ w2 ⟨rfl, c3⟩
  have b1 := hH.call c3; clear c3
  refine wp 7 (nq (cs (sr (wp 2 (nq (cb hr (fun h6 hr => ?_) (fun h6 hr => ?_)))))))
  refine sr (wp 1 (bi hr fun y7 d7 hr => aad 140 #[] [(str s_0)] _ ent140 (by kernel_rfl) (by kernel_rfl) (ajb d7 (hG.hp0 b1)) ?_))
  rintro _ w9 ⟨d8, b5, b6, rfl, c4⟩
  have b7 : Hp w [] [rwt eS 9 1 d8 b5 b6 y7.1] w9 := Hp.callK (L1 := []) (L2 := []) b1 c4; clear c4
  refine wp 5 (nq (bi hr fun d9 a5 hr => cut (σ := Bool) [2, 3, 4, 5] (fun b2 => [(2, (str (Lib.join y7.1 ([58] : Str)))), (3, (Vb b2))]) (fun b2 w' => Hp w [] [] w' ∧ b2 = d9) ?_ ?_))
  refine cr (wp 1 (gi a5 fun e0 a5 => aad 80 #[] [(Vs b5 y7.1.length b6), (str ([58] : Str))] _ ent80 (by kernel_rfl) (by kernel_rfl) (sh_Join ([58] : Str) w9 b5 y7.1.length b6 y7.1 rfl (b7.rdrw 0 rfl) (b7.rwcap 0 rfl) e0) ?_))
  rintro _ g6 ⟨rfl, c5⟩
  have c6 := b7.call c5; clear c5
  refine wp 1 (wb a5 (fun e1 a5 => ?_) (fun e1 a5 => ?_))
  refine wp 6 (wl (ql ?_))
  obtain rfl := oi a5
  exact ⟨(decide ((y7.1.length : Int) = (8 : Int))), _, rfl, by kernel_rfl, c6.kp, rfl⟩
  refine wp 6 (wl (ql ?_))
  obtain rfl := oi a5
  exact ⟨false, _, rfl, by kernel_rfl, c6.kp, rfl⟩
  rintro b2 g7 G ⟨e2, rfl⟩
  refine ct (st ?_)
  obtain rfl := oi hr
  exact rv e2.kp
  refine ck (qn (sr (wp 2 (nq (sr (wp 2 ?_))))))
  refine nq (bi hr fun e3 a6 hr => cut (σ := ((List Str) × Bool) × (Option Nat) × (Option Addr) × Nat) [2, 3, 5, 9, 10, 11, 12] (fun ⟨a0, a8, a3, a4⟩ => [(9, (Vs a3 a0.1.length a4)), (11, (Vb a0.2))]) (fun ⟨a0, a8, a3, a4⟩ w' => Hp w [] [rwt eS 9 1 a8 a3 a4 a0.1] w' ∧ a0 = e3) ?_ ?_)
  refine sr (wp 2 (nq (cn a6 (fun e4 a6 => ?_) (fun e4 a6 => ?_))))
  refine cr (wp 1 (bi a6 fun b8 e5 a6 => aad 140 #[] [(str ((Lib.cut s_0 ([58, 58] : Str)).1))] _ ent140 (by kernel_rfl) (by kernel_rfl) (ajb e5 (hG.hp0 b1)) ?_))
  rintro _ e6 ⟨c7, c8, c9, rfl, d0⟩
  have e7 : Hp w [] [rwt eS 9 1 c7 c8 c9 b8.1] e6 := Hp.callK (L1 := []) (L2 := []) b1 d0; clear d0
  refine wp 5 (wl (ql ?_))
  obtain rfl := oi a6
  exact ⟨((b8.1, b8.2), c7, c8, c9), _, rfl, by kernel_rfl, e7.kp, rfl⟩
  refine ck (ql ?_)
  obtain rfl := oi a6
  exact ⟨((([] : List Str), true), none, none, 0), _, rfl, (mc (by kernel_rfl) (mc (by kernel_rfl) (mc (by kernel_rfl) (mc (Eq.trans (b := (Vs none 0 0)) (by kernel_rfl) (aae (by (try simp only [List.length_set]) <;> first | rfl | omega | simp))) (mc (by kernel_rfl) (mc (by kernel_rfl) (mc (by kernel_rfl) rfl))))))), (Hp.nilrw b1 eS 9 1 none).kp, rfl⟩
  rintro ⟨a0, a8, a3, a4⟩ g8 G ⟨b9, rfl⟩
  refine bi hr fun e8 a7 hr => cut (σ := ((List Str) × Bool) × (Option Nat) × (Option Addr) × Nat) [2, 3, 9, 10, 11, 12] (fun ⟨a1, c0, a9, b0⟩ => [(10, (Vs a9 a1.1.length b0)), (12, (Vb a1.2))]) (fun ⟨a1, c0, a9, b0⟩ w' => Hp w [] [rwt eS 9 1 a8 a3 a4 a0.1, rwt eS 9 1 c0 a9 b0 a1.1] w' ∧ a1 = e8) ?_ ?_
  refine sr (wp 2 (nq (cn a7 (fun e9 a7 => ?_) (fun e9 a7 => ?_))))
  refine cr (wp 1 (bi a7 fun c1 f0 a7 => aad 140 #[] [(str ((Lib.cut s_0 ([58, 58] : Str)).2.1))] _ ent140 (by kernel_rfl) (by kernel_rfl) (ajb f0 (hG.hp0 b9)) ?_))
  rintro _ f1 ⟨d1, d2, d3, rfl, d4⟩
  have f2 : Hp w [] [rwt eS 9 1 d1 d2 d3 c1.1, rwt eS 9 1 a8 a3 a4 a0.1] f1 := Hp.callK (L1 := []) (L2 := [rwt eS 9 1 a8 a3 a4 a0.1]) b9 d4; clear d4
  refine wp 5 (wl (ql ?_))
  obtain rfl := oi a7
  exact ⟨((c1.1, c1.2), d1, d2, d3), _, rfl, by kernel_rfl, (Hp.front f2 1 _ rfl).kp, rfl⟩
  refine ck (ql ?_)
  obtain rfl := oi a7
  exact ⟨((([] : List Str), true), none, none, 0), _, rfl, (mc (by kernel_rfl) (mc (by kernel_rfl) (mc (by kernel_rfl) (mc (Eq.trans (b := (Vs none 0 0)) (by kernel_rfl) (aae (by (try simp only [List.length_set]) <;> first | rfl | omega | simp))) (mc (by kernel_rfl) (mc (by kernel_rfl) rfl)))))), (Hp.front (Hp.nilrw b9 eS 9 1 none) 1 _ rfl).kp, rfl⟩
  rintro ⟨a1, c0, a9, b0⟩ g9 G ⟨b3, rfl⟩
  refine cs (bi hr fun f3 a2 hr => agq b3 [2, 3, 9, 10, 64] [(64, (Vb f3))] ?_ ?_)
  refine cr (wp 2 (wb a2 (fun f4 a2 => ?_) (fun f4 a2 => ?_)))
  refine wp 11 (wl (ql ?_))
  obtain rfl := oi a2
  exact je (Hp.front (Hp.front b3 1 _ rfl) 1 _ rfl).kp
  refine wp 3 (wb a2 (fun f5 a2 => ?_) (fun f5 a2 => ?_))
  refine wp 7 (wl (ql ?_))
  obtain rfl := oi a2
  exact je (Hp.front (Hp.front b3 1 _ rfl) 1 _ rfl).kp
  refine wp 4 (gy 57 (gi a2 fun f6 a2 => aac (a0.1.length : Int) (a1.1.length : Int) (by kernel_rfl) (by kernel_rfl) f6 (wp 2 (wl (ql ?_)))))
  obtain rfl := oi a2
  exact je (Hp.front (Hp.front b3 1 _ rfl) 1 _ rfl).kp
  intro f7 G b4
  refine cb hr (fun f8 hr => ?_) (fun f8 hr => ?_)
  refine sr (wp 2 (nq (ct (st ?_))))
  obtain rfl := oi hr
  exact rv b4.kp
  refine ck (qn (sr (wp 1 (gi hr fun f9 hr => aad 80 #[] [(Vs a3 a0.1.length a4), (str ([58] : Str))] _ ent80 (by kernel_rfl) (by kernel_rfl) (sh_Join ([58] : Str) f7 a3 a0.1.length a4 a0.1 rfl (b4.rdrw 0 rfl) (b4.rwcap 0 rfl) f9) ?_))))
  rintro _ g0 ⟨rfl, d5⟩
  have c2 := b4.call d5; clear d5
  refine gi hr fun g1 hr => abn (Lib.join a0.1 ([58] : Str)) ([58, 58] : Str) (by kernel_rfl) (by kernel_rfl) g1 (wp 1 (gi hr fun g2 hr => aad 80 #[] [(Vs a9 a1.1.length b0), (str ([58] : Str))] _ ent80 (by kernel_rfl) (by kernel_rfl) (sh_Join ([58] : Str) g0 a9 a1.1.length b0 a1.1 rfl (c2.rdrw 1 rfl) (c2.rwcap 1 rfl) g2) ?_))
  rintro _ h0 ⟨rfl, d6⟩
  have g3 := c2.call d6; clear d6
  refine gi hr fun g4 hr => abn ((Lib.join a0.1 ([58] : Str)) ++ ([58, 58] : Str)) (Lib.join a1.1 ([58] : Str)) (by kernel_rfl) (by kernel_rfl) g4 (wp 2 (nq (ct ?_)))
  obtain rfl := oi hr
  exact rv g3.kp
theorem K_L_address_numbers {fu : Nat} {s_0 : Str} {w : World} {r : Bool} (hr : ala fu s_0 = some r) (hG : Gl w) : CR Tryz.prog 82 [(str s_0)] w fun v w' => v = (Vb r) ∧ Hp w [] [] w' := by
  have hH : Hp w [] [] w := Hp.refl w
  refine enter (k := 54) Tryz.func82 rfl rfl (Nat.le_of_ble_eq_true rfl) ?_
  unfold ala at hr
  refine sr (wp 1 (nq (cs (sr (wp 3 (wl ?_))))))
  refine qn (cd hr (fun h1 hr => ?_) (fun h1 hr => ?_))
  refine sr (wp 1 (nq (ct (st ?_))))
  obtain rfl := oi hr
  exact rv hH.kp
  refine ck (qn (sr (wp 1 (gi hr fun g5 hr => aad 141 #[] [(str s_0), (str ([46] : Str))] _ ent141 (by kernel_rfl) (by kernel_rfl) (sh_Split s_0 46 w g5 (hG.hp0 hH)) ?_))))
  rintro _ w2 ⟨o6, a7, cap8, rfl, b2⟩
  have b3 : Hp w [] [rwt eS 9 1 o6 a7 cap8 (spl 46 s_0)] w2 := Hp.callK (L1 := []) (L2 := []) hH b2; clear b2
  refine wp 1 (nq (bi hr fun b9 c0 hr => cut1 b3 b9 [2, 3] (fun c1 => []) ?_ ?_))
  refine sr (wp 3 (nq (ce (lpS (fun b4 a1 => agw fu s_0 b4 a1) (0 : Int) b3 c0 [2, 3, 13, 14, 15] (fun a1 => [(15, (Vi .i64 a1))]) (fun _ => rfl) ?_))))
  rintro b4 a1 e7 G a8 a3
  rw [agw.eq_2] at a3
  refine sr (wp 1 (nq (cs (cd a3 (fun c2 a3 => ?_) (fun c2 a3 => ?_)))))
  refine ck (qn (bi a3 fun c3 a2 a3 => cut1 a8 c3 [2, 3, 13, 14, 15] (fun c4 => []) ?_ ?_))
  refine ce (sr (gi a2 fun c5 a2 => aht a7 ((spl 46 s_0).length) cap8 9 1 .i64 a1 Tryz.underlying54 (by kernel_rfl) (by kernel_rfl) (by kernel_rfl) (spl 46 s_0) rfl c5 (a8.rdrw 0 rfl) enc_S (by decide) (gi a2 fun c6 a2 => w_ldE1 a7 eS (spl 46 s_0) 1 a1 enc_S (a8.rdrw 0 rfl) (str (el (spl 46 s_0) a1)) c6 (by decide) (by kernel_rfl) (by kernel_rfl) (by kernel_rfl) (wp 1 (nq ?_)))))
  refine sr (wp 1 (nq (bi a2 fun c7 c8 a2 => cut1 a8 c7 [2, 3, 5, 6, 13, 14, 15] (fun b0 => [(6, (Vi .i64 b0))]) ?_ ?_)))
  refine sr (wp 3 (nq (ce (lpS (fun b5 ⟨a6, a4⟩ => agv fu s_0 a1 b5 a6 a4) ((0 : Int), (0 : Int)) a8 c8 [2, 3, 5, 6, 13, 14, 15, 20, 21] (fun ⟨a6, a4⟩ => [(6, (Vi .i64 a6)), (21, (Vi .i64 a4))]) (fun _ => rfl) ?_))))
  rintro b5 ⟨a6, a4⟩ e8 G b1 a0
  dsimp only at a0
  rw [agv.eq_2] at a0
  refine sr (wp 1 (nq (cs (cd a0 (fun c9 a0 => ?_) (fun c9 a0 => ?_)))))
  refine ck (qn (cs (ce (sr (wp 2 (nq (cs ?_)))))))
  refine sr (wp 2 (gi a0 fun d0 a0 => adz (el (spl 46 s_0) a1) .i64 a4 Tryz.underlying9 (by kernel_rfl) (by kernel_rfl) d0 (bi a0 fun e9 d1 a0 => wc ent142 b1 (agj d1 (hG.hp0 b1)) fun f0 b6 => wp 1 (nq (cb a0 (fun d2 a0 => ?_) (fun d2 a0 => ?_))))))
  refine sr (wp 1 (nq (ct (st (bt_ (st (acp ?_)))))))
  refine bt_ (acp ?_)
  obtain rfl := oi a0
  refine bt_ (acp ?_)
  obtain rfl := oi a2
  refine acp (bt_ (acp ?_))
  obtain rfl := oi a3
  obtain rfl := oi hr
  exact rv b6.kp
  refine ck (qn (cr (wp 1 (gi a0 fun d3 a0 => amv (10 : Int) a6 (by kernel_rfl) (by kernel_rfl) d3 (wp 2 (gi a0 fun d4 a0 => adz (el (spl 46 s_0) a1) .i64 a4 Tryz.underlying9 (by kernel_rfl) (by kernel_rfl) d4 (w8_sub (at_ (el (spl 46 s_0) a1) a4) (48 : UInt8) (by kernel_rfl) (by kernel_rfl) ?_)))))))
  refine w_convx .i64 .u8 (((at_ (el (spl 46 s_0) a1) a4) - (48 : UInt8)).toNat : Int) Tryz.underlying5 Tryz.underlying3 (by kernel_rfl) (wrap_u8_i64 _) (gi a0 fun d5 a0 => aac ((10 : Int) * a6) (((at_ (el (spl 46 s_0) a1) a4) - (48 : UInt8)).toNat : Int) (by kernel_rfl) (by kernel_rfl) d5 (wp 1 (wl (bn (qn (cr (gi a0 fun d6 a0 => aac a4 (1 : Int) (by kernel_rfl) (by kernel_rfl) d6 ?_)))))))
  exact wp 1 (wl (ql (le' (((10 : Int) * a6) + (((at_ (el (spl 46 s_0) a1) a4) - (48 : UInt8)).toNat : Int), a4 + (1 : Int)) b6.kp a0)))
  refine ach (acg (acq (aci (ql ?_))))
  obtain rfl := oi a0
  exact je1 rfl b1.kp
  rintro b0 d7 G a9 rfl
  refine bi a2 fun d8 a5 a2 => agq a9 [2, 3, 13, 14, 15, 49] [(49, (Vb d8))] ?_ ?_
  refine cr (wp 2 (wd a5 (fun d9 a5 => ?_) (fun d9 a5 => ?_)))
  refine wp 9 (wl (ql ?_))
  obtain rfl := oi a5
  exact je a9.kp
  refine wp 3 (wd a5 (fun e0 a5 => ?_) (fun e0 a5 => ?_))
  refine wp 5 (wl (ql ?_))
  obtain rfl := oi a5
  exact je a9.kp
  refine wp 2 (gy 44 (gi a5 fun e1 a5 => aad 72 #[] [(Vi .i64 b0)] _ ent72 (by kernel_rfl) (by kernel_rfl) (sh_Itoa b0 d7 e1 (hG.hp0 a9)) ?_))
  rintro _ f1 ⟨rfl, b7⟩
  have e2 := a9.call b7; clear b7
  refine wp 2 (wl (ql ?_))
  obtain rfl := oi a5
  exact je e2.kp
  intro f2 G b8
  refine cb a2 (fun e3 a2 => ?_) (fun e3 a2 => ?_)
  refine sr (wp 1 (nq (ct (bt_ (acp ?_)))))
  obtain rfl := oi a2
  refine acp (bt_ (acp ?_))
  obtain rfl := oi a3
  obtain rfl := oi hr
  exact rv b8.kp
  refine ck (bn (ql ?_))
  obtain rfl := oi a2
  exact je1 rfl b8.kp
  rintro c4 f3 G e4 rfl
  exact cr (gi a3 fun e5 a3 => aac a1 (1 : Int) (by kernel_rfl) (by kernel_rfl) e5 (wp 1 (wl (ql (le' (a1 + (1 : Int)) e4.kp a3)))))
  refine ach (acg (acq (aci (ql ?_))))
  obtain rfl := oi a3
  exact je1 rfl a8.kp
  rintro c1 f4 G e6 rfl
  refine sr (wp 4 (nq (ct ?_)))
  obtain rfl := oi hr
  exact rv e6.kp
theorem K_L_strings_splitSeq {fu : Nat} {s_0 : Str} {a0 : Str} {a1 : Int} {w : World} {r : (Str × Str × Int)} (hr : aki fu s_0 a0 a1 = some r) (hG : Gl w) : CR Tryz.prog 195 [(str s_0), (str a0), (Vi .i64 a1)] w fun v w' => ∃ (b0 : Nat), ∃ (b1 : Nat), ∃ (b2 : Nat), v = (Value.func (.func 227) #[] #[(Vp (some ⟨b0, 0, none⟩)), (Vp (some ⟨b1, 0, none⟩)), (Vp (some ⟨b2, 0, none⟩))]) ∧ Hp w [] [blk b0 [(str r.1)] 9, blk b1 [(str r.2.1)] 9, blk b2 [(Vi .i64 r.2.2)] 3] w' := by
  have hH : Hp w [] [] w := Hp.refl w
  refine enter (k := 8) Tryz.func195 rfl rfl (Nat.le_of_ble_eq_true rfl) ?_
  unfold aki at hr
  refine sr (adl hH [(str s_0)] 9 (fun b => (Vp (some ⟨b, 0, none⟩))) rfl rfl (by kernel_rfl) fun b1 w2 a2 => adl a2 [(str a0)] 9 (fun b => (Vp (some ⟨b, 0, none⟩))) rfl rfl (by kernel_rfl) fun b4 w5 a3 => adl a3 [(Vi .i64 a1)] 3 (fun b => (Vp (some ⟨b, 0, none⟩))) rfl rfl (by kernel_rfl) fun b7 w8 a4 => wp 1 (nq (sr ?_)))
  refine wp 2 (nq (ct ?_))
  obtain rfl := oi hr
  refine ana (Value.func (.func 227) #[] #[(Vp (some ⟨b4, 0, none⟩)), (Vp (some ⟨b1, 0, none⟩)), (Vp (some ⟨b7, 0, none⟩))]) rfl (by kernel_rfl) ?_
  exact ⟨b4, b1, b7, (by first | rfl | (simp; done) | (simp; omega)), (Hp.front (Hp.front a4 2 _ rfl) 2 _ rfl).kp⟩
theorem K_L_strings_SplitSeq {fu : Nat} {s_0 : Str} {a0 : Str} {w : World} {r : (Str × Str × Int)} (hr : akj fu s_0 a0 = some r) (hG : Gl w) : CR Tryz.prog 143 [(str s_0), (str a0)] w fun v w' => ∃ (b0 : Nat), ∃ (b1 : Nat), ∃ (b2 : Nat), v = (Value.func (.func 227) #[] #[(Vp (some ⟨b0, 0, none⟩)), (Vp (some ⟨b1, 0, none⟩)), (Vp (some ⟨b2, 0, none⟩))]) ∧ Hp w [] [blk b0 [(str r.1)] 9, blk b1 [(str r.2.1)] 9, blk b2 [(Vi .i64 r.2.2)] 3] w' := by
  have hH : Hp w [] [] w := Hp.refl w
  refine enter (k := 8) Tryz.func143 rfl rfl (Nat.le_of_ble_eq_true rfl) ?_
  unfold akj at hr
  refine sr (wp 1 (nq (sr (wp 2 (bi hr fun y1 a2 hr => aad 195 #[] [(str s_0), (str a0), (Vi .i64 (0 : Int))] _ ent195 (by kernel_rfl) (by kernel_rfl) (K_L_strings_splitSeq a2 (hG.hp0 hH)) ?_)))))
  rintro _ w3 ⟨b6, b7, b8, rfl, a1⟩
  have a3 : Hp w [] [blk b6 [(str y1.1)] 9, blk b7 [(str y1.2.1)] 9, blk b8 [(Vi .i64 y1.2.2)] 3] w3 := Hp.callK (L1 := []) (L2 := []) hH a1; clear a1
  refine wp 1 (nq (ct ?_))
  obtain rfl := oi hr
  refine ana (Value.func (.func 227) #[] #[(Vp (some ⟨b6, 0, none⟩)), (Vp (some ⟨b7, 0, none⟩)), (Vp (some ⟨b8, 0, none⟩))]) rfl (by kernel_rfl) ?_
  exact ⟨b6, b7, b8, (by first | rfl | (simp; done) | (simp; omega)), (Hp.front (Hp.front (Hp.front a3 2 _ rfl) 2 _ rfl) 2 _ rfl).kp⟩
theorem aiu {fu : Nat} {b3 : Bool} {b4 : Bool} {a0 : Str} {b1 : Str} {a2 : Int} (a1 : Nat) (a4 : Loop) (a5 : Nat) (a6 : Nat) (a7 : Nat) (a3 : Nat) (a8 : Nat) {w : World} {r : (Bool × Bool × Str × Nat)} (hr : aee fu b3 b4 a0 b1 a2 = some r) (hG : Gl w) (hM : Hp w (aaj [afc a1 0 a4, blk a5 [(Vb b3)] 4, blk a6 [(Vb b4)] 4, blk a7 [(str a0)] 9, blk a3 [(str b1)] 9, blk a8 [(Vi .i64 a2)] 3]) [afc a1 0 a4, blk a5 [(Vb b3)] 4, blk a6 [(Vb b4)] 4, blk a7 [(str a0)] 9, blk a3 [(str b1)] 9, blk a8 [(Vi .i64 a2)] 3] w) (hS : ∀ b ∈ aaj [afc a1 0 a4, blk a5 [(Vb b3)] 4, blk a6 [(Vb b4)] 4, blk a7 [(str a0)] 9, blk a3 [(str b1)] 9, blk a8 [(Vi .i64 a2)] 3], 9 ≤ b) (d2 : ∀  (d3 : Str) (c9 : Bool) (d0 : Bool) (w_ : World), Hp w (aaj [afc a1 0 a4, blk a5 [(Vb b3)] 4, blk a6 [(Vb b4)] 4, blk a7 [(str a0)] 9, blk a3 [(str b1)] 9, blk a8 [(Vi .i64 a2)] 3]) [afc a1 0 a4, blk a5 [(Vb c9)] 4, blk a6 [(Vb d0)] 4] w_ → ∀ (yr : (Nat × Bool × Bool)), agl fu d3 c9 d0 = some yr → YR Tryz.prog a1 [(str d3)] w_ fun v e3 => v = Vb (decide (yr.1 = 0)) ∧ Hp w_ (aaj [afc a1 0 a4, blk a5 [(Vb c9)] 4, blk a6 [(Vb d0)] 4]) [afc a1 yr.1 a4, blk a5 [(Vb yr.2.1)] 4, blk a6 [(Vb yr.2.2)] 4] e3) : CR Tryz.prog 227 [(Value.func (.yield a1) #[] #[]), (Vp (some ⟨a7, 0, none⟩)), (Vp (some ⟨a3, 0, none⟩)), (Vp (some ⟨a8, 0, none⟩))] w fun v w' => v = (Value.tuple #[]) ∧ Hp w (aaj [afc a1 0 a4, blk a5 [(Vb b3)] 4, blk a6 [(Vb b4)] 4, blk a7 [(str a0)] 9, blk a3 [(str b1)] 9, blk a8 [(Vi .i64 a2)] 3]) [blk a5 [(Vb r.1)] 4, blk a6 [(Vb r.2.1)] 4, blk a7 [(str a0)] 9, blk a3 [(str r.2.2.1)] 9, blk a8 [(Vi .i64 a2)] 3, afc a1 r.2.2.2 a4] w' := by
  have hH : Hp w (aaj [afc a1 0 a4, blk a5 [(Vb b3)] 4, blk a6 [(Vb b4)] 4, blk a7 [(str a0)] 9, blk a3 [(str b1)] 9, blk a8 [(Vi .i64 a2)] 3]) [afc a1 0 a4, blk a5 [(Vb b3)] 4, blk a6 [(Vb b4)] 4, blk a7 [(str a0)] 9, blk a3 [(str b1)] 9, blk a8 [(Vi .i64 a2)] 3] w := hM
  refine enterF (k := 52) Tryz.func227 rfl rfl (Nat.le_of_ble_eq_true rfl) ?_
  unfold aee at hr
  refine bi hr fun e4 b8 hr => cut1 hH e4 [0, 1, 2, 3] (fun e5 => []) ?_ ?_
  refine sr (aav hH 3 a7 0 [(str a0)] 9 (str a0) rfl rfl (by kernel_rfl) (by kernel_rfl) (wp 2 (nq (cd b8 (fun e6 b8 => ?_) (fun e6 b8 => ?_)))))
  refine bi b8 fun h0 e7 b8 => agq hH [0, 1, 2, 3] [] ?_ ?_
  refine ce (lpS (fun d4 (_ : Unit) => adr fu b1 d4) () hH e7 [0, 1, 2, 3] (fun (_ : Unit) => []) (fun _ => rfl) ?_)
  rintro d4 _ h1 G d5 c0
  rw [adr.eq_2] at c0
  refine cs (sr (aav d5 4 a3 0 [(str b1)] 9 (str b1) rfl rfl (by kernel_rfl) (by kernel_rfl) (wp 2 (nq (cd c0 (fun e8 c0 => ?_) (fun e8 c0 => ?_))))))
  exact absurd c0 (by simp)
  refine ach (acg (acq (aci (ql ?_))))
  obtain rfl := oi c0
  exact je (Hp.front (Hp.front (Hp.front (Hp.front (Hp.front (Hp.front d5 5 _ rfl) 5 _ rfl) 5 _ rfl) 5 _ rfl) 5 _ rfl) 5 _ rfl).kp
  intro h2 G e9
  refine ct (acp ?_)
  obtain rfl := oi b8
  obtain rfl := oi hr
  refine r_none  rfl  ?_
  exact ⟨(by first | rfl | (simp; done) | (simp; omega)), (Hp.front (Hp.front (Hp.front (Hp.front (Hp.front e9 5 _ rfl) 5 _ rfl) 5 _ rfl) 5 _ rfl) 5 _ rfl).kp⟩
  refine ck (ql ?_)
  obtain rfl := oi b8
  exact je1 rfl (Hp.front (Hp.front (Hp.front (Hp.front (Hp.front (Hp.front hH 5 _ rfl) 5 _ rfl) 5 _ rfl) 5 _ rfl) 5 _ rfl) 5 _ rfl).kp
  rintro e5 h3 G f0 rfl
  refine bi hr fun d6 f1 hr => cut (σ := (Bool × Bool × Str)) [0, 2] (fun b0 => []) (fun b0 w' => Hp w (aaj [afc a1 0 a4, blk a5 [(Vb b3)] 4, blk a6 [(Vb b4)] 4, blk a7 [(str a0)] 9, blk a3 [(str b1)] 9, blk a8 [(Vi .i64 a2)] 3]) [afc a1 0 a4, blk a5 [(Vb b0.1)] 4, blk a6 [(Vb b0.2.1)] 4, blk a7 [(str a0)] 9, blk a3 [(str b0.2.2)] 9, blk a8 [(Vi .i64 a2)] 3] w' ∧ .inl b0 = d6) ?_ ?_
  refine ce (lpG (σ := Nat × Bool × Bool × Str) [0, 1, 2, 3] (fun ⟨c1, b5, b6, a9⟩ => []) (fun ⟨c1, b5, b6, a9⟩ w' => Hp w (aaj [afc a1 0 a4, blk a5 [(Vb b3)] 4, blk a6 [(Vb b4)] 4, blk a7 [(str a0)] 9, blk a3 [(str b1)] 9, blk a8 [(Vi .i64 a2)] 3]) [afc a1 0 a4, blk a5 [(Vb b5)] 4, blk a6 [(Vb b6)] 4, blk a7 [(str a0)] 9, blk a3 [(str a9)] 9, blk a8 [(Vi .i64 a2)] 3] w' ∧ act fu a0 a2 c1 b5 b6 a9 = some d6) (fun ⟨c1, b5, b6, a9⟩ => c1) (fu, b3, b4, b1) (by exact ⟨(Hp.front (Hp.front (Hp.front (Hp.front (Hp.front (Hp.front f0 5 _ rfl) 5 _ rfl) 5 _ rfl) 5 _ rfl) 5 _ rfl) 5 _ rfl).kp, f1⟩) ?_)
  rintro ⟨_ | c1, b5, b6, a9⟩ f2 G ⟨c7, b2⟩
  · exact absurd (show none = some _ from b2) (by simp)
  rw [act.eq_2] at b2
  refine ce (sr (aav c7 4 a3 0 [(str a9)] 9 (str a9) rfl rfl (by kernel_rfl) (by kernel_rfl) (aav c7 3 a7 0 [(str a0)] 9 (str a0) rfl rfl (by kernel_rfl) (by kernel_rfl) (gi b2 fun f3 b2 => aad 175 #[] [(str a9), (str a0)] _ ent175 (by kernel_rfl) (by kernel_rfl) (sh_Index a9 a0 f2 f3 (hG.hp c7 hS)) ?_))))
  rintro _ c2 ⟨rfl, d7⟩
  have c8 := c7.call d7; clear d7
  refine wp 1 (nq (cs (sr (wp 2 (nq (cd b2 (fun f4 b2 => ?_) (fun f4 b2 => ?_)))))))
  refine ach (acg (b_past (by kernel_rfl) (acq (aci (ql ?_)))))
  obtain rfl := oi b2
  exact ⟨(b5, b6, a9), _, rfl, by kernel_rfl, (Hp.front (Hp.front (Hp.front (Hp.front (Hp.front (Hp.front c8 5 _ rfl) 5 _ rfl) 5 _ rfl) 5 _ rfl) 5 _ rfl) 5 _ rfl).kp, rfl⟩
  refine ck (qn (sr (aav c8 4 a3 0 [(str a9)] 9 (str a9) rfl rfl (by kernel_rfl) (by kernel_rfl) (wp 1 (aav c8 5 a8 0 [(Vi .i64 a2)] 3 (Vi .i64 a2) rfl rfl (by kernel_rfl) (by kernel_rfl) (gi b2 fun f5 b2 => aac (Lib.index a9 a0) a2 (by kernel_rfl) (by kernel_rfl) f5 (gi b2 fun f6 b2 => ?_)))))))
  refine akw a9 .i64 ((Lib.index a9 a0) + a2) Tryz.underlying9 (by kernel_rfl) (by kernel_rfl) f6 (wp 1 (nq (cs (sr (wp 2 (bi b2 fun b7 f7 b2 => ?_))))))
  have f8 : Hp w (aaj [afc a1 0 a4, blk a5 [(Vb b3)] 4, blk a6 [(Vb b4)] 4, blk a7 [(str a0)] 9, blk a3 [(str b1)] 9, blk a8 [(Vi .i64 a2)] 3]) [blk a6 [(Vb b6)] 4, afc a1 0 a4, blk a5 [(Vb b5)] 4, blk a7 [(str a0)] 9, blk a3 [(str a9)] 9, blk a8 [(Vi .i64 a2)] 3] c2 := c8.front 2 _ rfl
  have f9 : Hp w (aaj [afc a1 0 a4, blk a5 [(Vb b3)] 4, blk a6 [(Vb b4)] 4, blk a7 [(str a0)] 9, blk a3 [(str b1)] 9, blk a8 [(Vi .i64 a2)] 3]) [blk a5 [(Vb b5)] 4, blk a6 [(Vb b6)] 4, afc a1 0 a4, blk a7 [(str a0)] 9, blk a3 [(str a9)] 9, blk a8 [(Vi .i64 a2)] 3] c2 := f8.front 2 _ rfl
  have d8 : Hp w (aaj [afc a1 0 a4, blk a5 [(Vb b3)] 4, blk a6 [(Vb b4)] 4, blk a7 [(str a0)] 9, blk a3 [(str b1)] 9, blk a8 [(Vi .i64 a2)] 3]) [afc a1 0 a4, blk a5 [(Vb b5)] 4, blk a6 [(Vb b6)] 4, blk a7 [(str a0)] 9, blk a3 [(str a9)] 9, blk a8 [(Vi .i64 a2)] 3] c2 := f9.front 2 _ rfl
  have g0 : Hp w (aaj [afc a1 0 a4, blk a5 [(Vb b3)] 4, blk a6 [(Vb b4)] 4, blk a7 [(str a0)] 9, blk a3 [(str b1)] 9, blk a8 [(Vi .i64 a2)] 3]) [afc a1 0 a4, blk a5 [(Vb b5)] 4, blk a6 [(Vb b6)] 4] c2 := Hp.keep (L1 := [afc a1 0 a4, blk a5 [(Vb b5)] 4, blk a6 [(Vb b6)] 4]) (L2 := [blk a7 [(str a0)] 9, blk a3 [(str a9)] 9, blk a8 [(Vi .i64 a2)] 3]) d8
  refine w_yield a1 [(str (List.take (Int.toNat ((Lib.index a9 a0) + a2)) a9))] _ (by kernel_rfl) (by kernel_rfl) (d2 (List.take (Int.toNat ((Lib.index a9 a0) + a2)) a9) b5 b6 c2 g0 b7 f7) ?_
  rintro _ g1 ⟨rfl, d9⟩
  have c3 : Hp w (aaj [afc a1 0 a4, blk a5 [(Vb b3)] 4, blk a6 [(Vb b4)] 4, blk a7 [(str a0)] 9, blk a3 [(str b1)] 9, blk a8 [(Vi .i64 a2)] 3]) [afc a1 b7.1 a4, blk a5 [(Vb b7.2.1)] 4, blk a6 [(Vb b7.2.2)] 4, blk a7 [(str a0)] 9, blk a3 [(str a9)] 9, blk a8 [(Vi .i64 a2)] 3] g1 := Hp.callK (L1 := [afc a1 0 a4, blk a5 [(Vb b5)] 4, blk a6 [(Vb b6)] 4]) (L2 := [blk a7 [(str a0)] 9, blk a3 [(str a9)] 9, blk a8 [(Vi .i64 a2)] 3]) d8 d9; clear d9
  by_cases c4 : b7.1 = 0
  replace b2 := ift c4 b2
  rw [c4] at c3
  rw [show decide (b7.1 = 0) = true from (decide_eq_true c4)]
  refine wp 1 (nq (c_false (by kernel_rfl) (ck (qn (cr (aav c3 4 a3 0 [(str a9)] 9 (str a9) rfl rfl (by kernel_rfl) (by kernel_rfl) (wp 1 (aav c3 3 a7 0 [(str a0)] 9 (str a0) rfl rfl (by kernel_rfl) (by kernel_rfl) ?_))))))))
  refine wp 1 (gi b2 fun g2 b2 => aac (Lib.index a9 a0) (a0.length : Int) (by kernel_rfl) (by kernel_rfl) g2 (gi b2 fun g3 b2 => ahu a9 .i64 ((Lib.index a9 a0) + (a0.length : Int)) Tryz.underlying9 (by kernel_rfl) (by kernel_rfl) g3 (aeu c3 4 a3 0 [(str a9)] 9 (str (List.drop (Int.toNat ((Lib.index a9 a0) + (a0.length : Int))) a9)) [afc a1 0 a4, blk a5 [(Vb b7.2.1)] 4, blk a6 [(Vb b7.2.2)] 4, blk a7 [(str a0)] 9, blk a3 [(str (List.drop (Int.toNat ((Lib.index a9 a0) + (a0.length : Int))) a9))] 9, blk a8 [(Vi .i64 a2)] 3] rfl (Nat.lt_of_lt_of_le (Nat.lt_succ_self _) (Nat.le_of_ble_eq_true rfl)) (by kernel_rfl) (by kernel_rfl) rfl (by kernel_rfl) rfl fun h4 g4 => wl (bn (ql ?_)))))
  exact ⟨(c1, b7.2.1, b7.2.2, List.drop (Int.toNat ((Lib.index a9 a0) + (a0.length : Int))) a9), _, rfl, by kernel_rfl, ⟨(Hp.front (Hp.front (Hp.front (Hp.front (Hp.front (Hp.front g4 5 _ rfl) 5 _ rfl) 5 _ rfl) 5 _ rfl) 5 _ rfl) 5 _ rfl).kp, b2⟩, Nat.lt_succ_self _⟩
  replace b2 := ifn c4 b2
  rw [show decide (b7.1 = 0) = false from (decide_eq_false c4)]
  refine wp 1 (nq (c_true (by kernel_rfl) (ct (st (bt_ (acp (bt_ (acp ?_))))))))
  obtain rfl := oi b2
  obtain rfl := oi hr
  refine r_none  rfl  ?_
  exact ⟨(by first | rfl | (simp; done) | (simp; omega)), (Hp.front (Hp.front (Hp.front (Hp.front (Hp.front c3 5 _ rfl) 5 _ rfl) 5 _ rfl) 5 _ rfl) 5 _ rfl).kp⟩
  rintro b0 c5 G ⟨e0, rfl⟩
  refine cr (wp 1 (aav e0 4 a3 0 [(str b0.2.2)] 9 (str b0.2.2) rfl rfl (by kernel_rfl) (by kernel_rfl) (bi hr fun b9 g5 hr => ?_)))
  have g6 : Hp w (aaj [afc a1 0 a4, blk a5 [(Vb b3)] 4, blk a6 [(Vb b4)] 4, blk a7 [(str a0)] 9, blk a3 [(str b1)] 9, blk a8 [(Vi .i64 a2)] 3]) [blk a6 [(Vb b0.2.1)] 4, afc a1 0 a4, blk a5 [(Vb b0.1)] 4, blk a7 [(str a0)] 9, blk a3 [(str b0.2.2)] 9, blk a8 [(Vi .i64 a2)] 3] c5 := e0.front 2 _ rfl
  have g7 : Hp w (aaj [afc a1 0 a4, blk a5 [(Vb b3)] 4, blk a6 [(Vb b4)] 4, blk a7 [(str a0)] 9, blk a3 [(str b1)] 9, blk a8 [(Vi .i64 a2)] 3]) [blk a5 [(Vb b0.1)] 4, blk a6 [(Vb b0.2.1)] 4, afc a1 0 a4, blk a7 [(str a0)] 9, blk a3 [(str b0.2.2)] 9, blk a8 [(Vi .i64 a2)] 3] c5 := g6.front 2 _ rfl
  have e1 : Hp w (aaj [afc a1 0 a4, blk a5 [(Vb b3)] 4, blk a6 [(Vb b4)] 4, blk a7 [(str a0)] 9, blk a3 [(str b1)] 9, blk a8 [(Vi .i64 a2)] 3]) [afc a1 0 a4, blk a5 [(Vb b0.1)] 4, blk a6 [(Vb b0.2.1)] 4, blk a7 [(str a0)] 9, blk a3 [(str b0.2.2)] 9, blk a8 [(Vi .i64 a2)] 3] c5 := g7.front 2 _ rfl
  have g8 : Hp w (aaj [afc a1 0 a4, blk a5 [(Vb b3)] 4, blk a6 [(Vb b4)] 4, blk a7 [(str a0)] 9, blk a3 [(str b1)] 9, blk a8 [(Vi .i64 a2)] 3]) [afc a1 0 a4, blk a5 [(Vb b0.1)] 4, blk a6 [(Vb b0.2.1)] 4] c5 := Hp.keep (L1 := [afc a1 0 a4, blk a5 [(Vb b0.1)] 4, blk a6 [(Vb b0.2.1)] 4]) (L2 := [blk a7 [(str a0)] 9, blk a3 [(str b0.2.2)] 9, blk a8 [(Vi .i64 a2)] 3]) e1
  refine w_yield a1 [(str b0.2.2)] _ (by kernel_rfl) (by kernel_rfl) (d2 b0.2.2 b0.1 b0.2.1 c5 g8 b9 g5) ?_
  rintro _ g9 ⟨rfl, e2⟩
  have d1 : Hp w (aaj [afc a1 0 a4, blk a5 [(Vb b3)] 4, blk a6 [(Vb b4)] 4, blk a7 [(str a0)] 9, blk a3 [(str b1)] 9, blk a8 [(Vi .i64 a2)] 3]) [afc a1 b9.1 a4, blk a5 [(Vb b9.2.1)] 4, blk a6 [(Vb b9.2.2)] 4, blk a7 [(str a0)] 9, blk a3 [(str b0.2.2)] 9, blk a8 [(Vi .i64 a2)] 3] g9 := Hp.callK (L1 := [afc a1 0 a4, blk a5 [(Vb b0.1)] 4, blk a6 [(Vb b0.2.1)] 4]) (L2 := [blk a7 [(str a0)] 9, blk a3 [(str b0.2.2)] 9, blk a8 [(Vi .i64 a2)] 3]) e1 e2; clear e2
  by_cases c6 : b9.1 = 0
  replace hr := ift c6 hr
  rw [c6] at d1
  rw [show decide (b9.1 = 0) = true from (decide_eq_true c6)]
  refine wl ?_
  obtain rfl := oi hr
  refine ahn  rfl  ?_
  exact ⟨(by first | rfl | (simp; done) | (simp; omega)), (Hp.front (Hp.front (Hp.front (Hp.front (Hp.front d1 5 _ rfl) 5 _ rfl) 5 _ rfl) 5 _ rfl) 5 _ rfl).kp⟩
  replace hr := ifn c6 hr
  rw [show decide (b9.1 = 0) = false from (decide_eq_false c6)]
  refine wl ?_
  obtain rfl := oi hr
  refine ahn  rfl  ?_
  exact ⟨(by first | rfl | (simp; done) | (simp; omega)), (Hp.front (Hp.front (Hp.front (Hp.front (Hp.front d1 5 _ rfl) 5 _ rfl) 5 _ rfl) 5 _ rfl) 5 _ rfl).kp⟩
theorem K_L_address_named {fu : Nat} {s_0 : Str} {w : World} {r : Bool} (hr : amg fu s_0 = some r) (hG : Gl w) : CR Tryz.prog 83 [(str s_0)] w fun v w' => v = (Vb r) ∧ Hp w [] [] w' := by
  have hH : Hp w [] [] w := Hp.refl w
  refine enterM (k := 67) Tryz.func83 rfl rfl (Nat.le_of_ble_eq_true rfl) ?_
  unfold amg at hr
  refine sr (adl hH [(Vb false)] 4 (fun b => (Vp (some ⟨b, 0, none⟩))) rfl rfl (by kernel_rfl) fun b1 w2 c6 => nq (cs (bi hr fun v8 c0 hr => agq c6 [0, 2, 14] [(14, (Vb v8))] ?_ ?_)))
  refine cr (wp 3 (wd c0 (fun h9 c0 => ?_) (fun h9 c0 => ?_)))
  refine wp 4 (wl (ql ?_))
  obtain rfl := oi c0
  exact je c6.kp
  refine wp 4 (wl (ql ?_))
  obtain rfl := oi c0
  exact je c6.kp
  intro j5 G d5
  refine cb hr (fun e3 hr => ?_) (fun e3 hr => ?_)
  refine sr (aeu d5 0 b1 0 [(Vb false)] 4 (Vb false) [blk b1 [(Vb false)] 4] rfl (Nat.lt_of_lt_of_le (Nat.lt_succ_self _) (Nat.le_of_ble_eq_true rfl)) (by kernel_rfl) (by kernel_rfl) rfl (by kernel_rfl) rfl fun j6 d6 => nq (ct (st ?_)))
  obtain rfl := oi hr
  refine m_fin0 _ [(Vb false)] (Vb false) rfl rfl (aaf (rok_one d6 0 b1 4 (Vb false) rfl (by kernel_rfl) (by kernel_rfl)) aeb) rfl ?_
  exact ⟨(by first | rfl | (simp; done) | (simp; omega)), d6.kp⟩
  refine ck (qn (sr (adl d5 [(Vb false)] 4 (fun b => (Vp (some ⟨b, 0, none⟩))) rfl rfl (by kernel_rfl) fun a1 j7 e4 => aeu e4 0 a1 0 [(Vb false)] 4 (Vb false) [blk a1 [(Vb false)] 4, blk b1 [(Vb false)] 4] rfl (Nat.lt_of_lt_of_le (Nat.lt_succ_self _) (Nat.le_of_ble_eq_true rfl)) (by kernel_rfl) (by kernel_rfl) rfl (by kernel_rfl) rfl fun j8 d7 => nq (cs (cs ?_)))))
  refine cr (wp 1 (bi hr fun a0 e5 hr => aad 143 #[] [(str s_0), (str ([46] : Str))] _ ent143 (by kernel_rfl) (by kernel_rfl) (K_L_strings_SplitSeq e5 (hG.hp0 d7)) ?_))
  rintro _ e6 ⟨a7, a8, a9, rfl, d8⟩
  have e7 : Hp w [] [blk a7 [(str a0.1)] 9, blk a8 [(str a0.2.1)] 9, blk a9 [(Vi .i64 a0.2.2)] 3, blk a1 [(Vb false)] 4, blk b1 [(Vb false)] 4] e6 := Hp.callK (L1 := []) (L2 := [blk a1 [(Vb false)] 4, blk b1 [(Vb false)] 4]) d7 d8; clear d8
  refine nq (ce (c_rangeFunc e7 227 [(Vp (some ⟨a7, 0, none⟩)), (Vp (some ⟨a8, 0, none⟩)), (Vp (some ⟨a9, 0, none⟩))] (by kernel_rfl) ent227 fun b0 a2 a4 b8 e8 e9 f0 f1 f2 => bi hr fun a3 f3 hr => ?_))
  have f4 : Hp w [] [blk a9 [(Vi .i64 a0.2.2)] 3, afc a2 0 a4, dfr b0, blk a7 [(str a0.1)] 9, blk a8 [(str a0.2.1)] 9, blk a1 [(Vb false)] 4, blk b1 [(Vb false)] 4] b8 := f2.front 4 _ rfl
  have f5 : Hp w [] [blk a8 [(str a0.2.1)] 9, blk a9 [(Vi .i64 a0.2.2)] 3, afc a2 0 a4, dfr b0, blk a7 [(str a0.1)] 9, blk a1 [(Vb false)] 4, blk b1 [(Vb false)] 4] b8 := f4.front 4 _ rfl
  have f6 : Hp w [] [blk a7 [(str a0.1)] 9, blk a8 [(str a0.2.1)] 9, blk a9 [(Vi .i64 a0.2.2)] 3, afc a2 0 a4, dfr b0, blk a1 [(Vb false)] 4, blk b1 [(Vb false)] 4] b8 := f5.front 4 _ rfl
  have f7 : Hp w [] [blk b1 [(Vb false)] 4, blk a7 [(str a0.1)] 9, blk a8 [(str a0.2.1)] 9, blk a9 [(Vi .i64 a0.2.2)] 3, afc a2 0 a4, dfr b0, blk a1 [(Vb false)] 4] b8 := f6.front 6 _ rfl
  have f8 : Hp w [] [blk a1 [(Vb false)] 4, blk b1 [(Vb false)] 4, blk a7 [(str a0.1)] 9, blk a8 [(str a0.2.1)] 9, blk a9 [(Vi .i64 a0.2.2)] 3, afc a2 0 a4, dfr b0] b8 := f7.front 6 _ rfl
  have c1 : Hp w [] [afc a2 0 a4, blk a1 [(Vb false)] 4, blk b1 [(Vb false)] 4, blk a7 [(str a0.1)] 9, blk a8 [(str a0.2.1)] 9, blk a9 [(Vi .i64 a0.2.2)] 3, dfr b0] b8 := f8.front 5 _ rfl
  have HY30 : ∀  (b3 : Str) (b5 : Bool) (b2 : Bool) (w_ : World), Hp b8 (aaj [afc a2 0 a4, blk a1 [(Vb false)] 4, blk b1 [(Vb false)] 4, blk a7 [(str a0.1)] 9, blk a8 [(str a0.2.1)] 9, blk a9 [(Vi .i64 a0.2.2)] 3]) [afc a2 0 a4, blk a1 [(Vb b5)] 4, blk b1 [(Vb b2)] 4] w_ → ∀ (yr : (Nat × Bool × Bool)), agl fu b3 b5 b2 = some yr → YR Tryz.prog a2 [(str b3)] w_ fun v f9 => v = Vb (decide (yr.1 = 0)) ∧ Hp w_ (aaj [afc a2 0 a4, blk a1 [(Vb b5)] 4, blk b1 [(Vb b2)] 4]) [afc a2 yr.1 a4, blk a1 [(Vb yr.2.1)] 4, blk b1 [(Vb yr.2.2)] 4] f9 := by
    intro b3 b5 b2 c7 c4 yr hyr
    have hH0_ := Hp.callK (L1 := [afc a2 0 a4, blk a1 [(Vb false)] 4, blk b1 [(Vb false)] 4, blk a7 [(str a0.1)] 9, blk a8 [(str a0.2.1)] 9, blk a9 [(Vi .i64 a0.2.2)] 3]) (L2 := [dfr b0]) c1 c4
    have hG0_ := hG; replace hG := hG.hp0 hH0_
    have hS_ := Hp.highs hH0_ hG0_ (fun _ h => absurd h (by simp)) 3 rfl
    unfold agl at hyr
    refine yr_intro (Hp.hand (L1 := [afc a2 0 a4, blk a1 [(Vb b5)] 4, blk b1 [(Vb b2)] 4]) (L2 := []) (by simpa using c4)) 0 rfl e8 e9 f0 f1 rfl ?_
    have hH : Hp c7 (aaj [afc a2 0 a4, blk a1 [(Vb b5)] 4, blk b1 [(Vb b2)] 4]) [afc a2 0 a4, blk a1 [(Vb b5)] 4, blk b1 [(Vb b2)] 4] c7 := Hp.hand (L1 := [afc a2 0 a4, blk a1 [(Vb b5)] 4, blk b1 [(Vb b2)] 4]) (L2 := []) (by simpa using c4)
    clear hH0_ c4
    refine cr (wp 1 (wl (asg_next hH 0 rfl fun j9 c2 => ce (cs (bi hyr fun g0 a6 hyr => agq c2 [2, 3, 4, 38] [(38, (Vb g0))] ?_ ?_)))))
    refine cr (wp 3 (wd a6 (fun g1 a6 => ?_) (fun g1 a6 => ?_)))
    refine wp 17 (wl (ql ?_))
    obtain rfl := oi a6
    exact je (Hp.front (Hp.front (Hp.front c2 2 _ rfl) 2 _ rfl) 2 _ rfl).kp
    refine wp 4 (wd a6 (fun g2 a6 => ?_) (fun g2 a6 => ?_))
    refine wp 12 (wl (ql ?_))
    obtain rfl := oi a6
    exact je (Hp.front (Hp.front (Hp.front c2 2 _ rfl) 2 _ rfl) 2 _ rfl).kp
    refine wp 1 (gy 26 (gi a6 fun g3 a6 => adz b3 .i64 (0 : Int) Tryz.underlying9 (by kernel_rfl) (by kernel_rfl) g3 (gy 26 (ack (at_ b3 (0 : Int)) (45 : UInt8) (by kernel_rfl) (by kernel_rfl) (wp 1 (wd a6 (fun g4 a6 => ?_) (fun g4 a6 => ?_)))))))
    refine wp 7 (wl (ql ?_))
    obtain rfl := oi a6
    exact je (Hp.front (Hp.front (Hp.front c2 2 _ rfl) 2 _ rfl) 2 _ rfl).kp
    refine wp 3 (gy 31 (gi a6 fun g5 a6 => adp (b3.length : Int) (1 : Int) (by kernel_rfl) (by kernel_rfl) g5 (gy 31 (gi a6 fun g6 a6 => adz b3 .i64 ((b3.length : Int) - (1 : Int)) Tryz.underlying9 (by kernel_rfl) (by kernel_rfl) g6 (gy 31 (ack (at_ b3 ((b3.length : Int) - (1 : Int))) (45 : UInt8) (by kernel_rfl) (by kernel_rfl) (wp 1 ?_)))))))
    refine wl (ql ?_)
    obtain rfl := oi a6
    exact je (Hp.front (Hp.front (Hp.front c2 2 _ rfl) 2 _ rfl) 2 _ rfl).kp
    intro k0 G d9
    refine cb hyr (fun g7 hyr => ?_) (fun g7 hyr => ?_)
    refine sr (aeu d9 2 b1 0 [(Vb b2)] 4 (Vb false) [lbusy a2 a4, blk a1 [(Vb b5)] 4, blk b1 [(Vb false)] 4] rfl (Nat.lt_of_lt_of_le (Nat.lt_succ_self _) (Nat.le_of_ble_eq_true rfl)) (by kernel_rfl) (by kernel_rfl) rfl (by kernel_rfl) rfl fun k1 g8 => nq (ct (st (bt_ ?_))))
    obtain rfl := oi hyr
    refine rnd_ret g8 0 rfl fun k2 g9 => ?_
    exact ⟨(by first | rfl | (simp; done) | (simp; omega)), (Hp.front (Hp.front (Hp.front g9 2 _ rfl) 2 _ rfl) 2 _ rfl).kp⟩
    refine ck (qn (sr (wp 3 (nq (ce (lpG (σ := Nat × Int × Bool) [2, 3, 4, 40, 41] (fun ⟨b9, b6, b7⟩ => [(41, (Vi .i64 b6))]) (fun ⟨b9, b6, b7⟩ w' => Hp c7 (aaj [afc a2 0 a4, blk a1 [(Vb b5)] 4, blk b1 [(Vb b2)] 4]) [lbusy a2 a4, blk a1 [(Vb b7)] 4, blk b1 [(Vb b2)] 4] w' ∧ aez fu b3 b2 b9 b6 b7 = some yr) (fun ⟨b9, b6, b7⟩ => b9) (fu, (0 : Int), b5) (by exact ⟨(Hp.front (Hp.front (Hp.front d9 2 _ rfl) 2 _ rfl) 2 _ rfl).kp, hyr⟩) ?_))))))
    rintro ⟨_ | b9, b6, b7⟩ k3 G ⟨c5, a5⟩
    · exact absurd (show none = some _ from a5) (by simp)
    rw [aez.eq_2] at a5
    refine sr (wp 1 (nq (cs (cd a5 (fun h0 a5 => ?_) (fun h0 a5 => ?_)))))
    refine ck (qn (cs (ce (sr (wp 2 (nq (cs ?_)))))))
    refine cr (wp 2 (gi a5 fun h1 a5 => adz b3 .i64 b6 Tryz.underlying9 (by kernel_rfl) (by kernel_rfl) h1 (wp 1 (nq (cs (bi a5 fun h2 b4 a5 => agq c5 [2, 3, 4, 6, 40, 41, 58] [(58, (Vb h2))] ?_ ?_))))))
    refine cr (wp 1 (bi b4 fun k4 h3 b4 => wc ent144 c5 (ams h3 (hG.hp c5 hS_)) fun k5 c8 => wp 1 (wb b4 (fun h4 b4 => ?_) (fun h4 b4 => ?_))))
    refine wp 1 (gy 50 (bi b4 fun k6 h5 b4 => wc ent142 c8 (agj h5 (hG.hp c8 hS_)) fun k7 e0 => wp 2 (wb b4 (fun h6 b4 => ?_) (fun h6 b4 => ?_))))
    refine wp 1 (gy 55 (aec (at_ b3 b6) (45 : UInt8) (by kernel_rfl) (by kernel_rfl) (wp 1 (wl (ql ?_)))))
    obtain rfl := oi b4
    exact je (Hp.front (Hp.front (Hp.front e0 2 _ rfl) 2 _ rfl) 2 _ rfl).kp
    refine wp 3 (wl (ql ?_))
    obtain rfl := oi b4
    exact je (Hp.front (Hp.front (Hp.front e0 2 _ rfl) 2 _ rfl) 2 _ rfl).kp
    refine wp 8 (wl (ql ?_))
    obtain rfl := oi b4
    exact je (Hp.front (Hp.front (Hp.front c8 2 _ rfl) 2 _ rfl) 2 _ rfl).kp
    intro k8 G c3
    refine cb a5 (fun h7 a5 => ?_) (fun h7 a5 => ?_)
    refine sr (aeu c3 2 b1 0 [(Vb b2)] 4 (Vb false) [lbusy a2 a4, blk a1 [(Vb b7)] 4, blk b1 [(Vb false)] 4] rfl (Nat.lt_of_lt_of_le (Nat.lt_succ_self _) (Nat.le_of_ble_eq_true rfl)) (by kernel_rfl) (by kernel_rfl) rfl (by kernel_rfl) rfl fun k9 h8 => nq (ct (st (bt_ (st (acp ?_))))))
    refine bt_ (bt_ ?_)
    obtain rfl := oi a5
    refine rnd_ret h8 0 rfl fun l0 i0 => ?_
    exact ⟨(by first | rfl | (simp; done) | (simp; omega)), (Hp.front (Hp.front (Hp.front i0 2 _ rfl) 2 _ rfl) 2 _ rfl).kp⟩
    refine ck (qn (cr (aav c3 1 a1 0 [(Vb b7)] 4 (Vb b7) rfl rfl (by kernel_rfl) (by kernel_rfl) (wb a5 (fun i1 a5 => ?_) (fun i1 a5 => ?_)))))
    refine wp 4 (aeu c3 1 a1 0 [(Vb b7)] 4 (Vb true) [lbusy a2 a4, blk a1 [(Vb true)] 4, blk b1 [(Vb b2)] 4] rfl (Nat.lt_of_lt_of_le (Nat.lt_succ_self _) (Nat.le_of_ble_eq_true rfl)) (by kernel_rfl) (by kernel_rfl) rfl (by kernel_rfl) rfl fun l1 i2 => wl (bn (qn (cr (gi a5 fun i3 a5 => aac b6 (1 : Int) (by kernel_rfl) (by kernel_rfl) i3 (wp 1 (wl ?_)))))))
    refine ql ?_
    exact ⟨(b9, b6 + (1 : Int), true), _, rfl, by kernel_rfl, ⟨(Hp.front (Hp.front (Hp.front i2 2 _ rfl) 2 _ rfl) 2 _ rfl).kp, a5⟩, Nat.lt_succ_self _⟩
    refine wp 1 (gy 60 (bi a5 fun c9 i4 a5 => wc ent142 c3 (agj i4 (hG.hp c3 hS_)) fun l2 i5 => wp 2 (aeu i5 1 a1 0 [(Vb b7)] 4 (Vb (!c9)) [lbusy a2 a4, blk a1 [(Vb (!c9))] 4, blk b1 [(Vb b2)] 4] rfl (Nat.lt_of_lt_of_le (Nat.lt_succ_self _) (Nat.le_of_ble_eq_true rfl)) (by kernel_rfl) (by kernel_rfl) rfl (by kernel_rfl) rfl fun l3 i6 => wl (bn (qn (cr ?_))))))
    refine gi a5 fun i7 a5 => aac b6 (1 : Int) (by kernel_rfl) (by kernel_rfl) i7 (wp 1 (wl (ql ?_)))
    exact ⟨(b9, b6 + (1 : Int), (!c9)), _, rfl, by kernel_rfl, ⟨(Hp.front (Hp.front (Hp.front i6 2 _ rfl) 2 _ rfl) 2 _ rfl).kp, a5⟩, Nat.lt_succ_self _⟩
    refine ach (acg (acq (aci (bn ?_))))
    obtain rfl := oi a5
    refine rnd_normal c5 0 rfl fun l4 i9 => ?_
    exact ⟨(by first | rfl | (simp; done) | (simp; omega)), (Hp.front (Hp.front (Hp.front i9 2 _ rfl) 2 _ rfl) 2 _ rfl).kp⟩
  refine CR.mono (aiu a2 a4 a1 b1 a7 a8 a9 f3 (hG.hp0 c1) (c1.hand (L1 := [afc a2 0 a4, blk a1 [(Vb false)] 4, blk b1 [(Vb false)] 4, blk a7 [(str a0.1)] 9, blk a8 [(str a0.2.1)] 9, blk a9 [(Vi .i64 a0.2.2)] 3]) (L2 := [dfr b0])) (c1.highs hG (fun _ h => absurd h (by simp)) 6 rfl) HY30) ?_
  rintro _ e1 ⟨rfl, e2⟩
  have j0 : Hp w [] [blk a1 [(Vb a3.1)] 4, blk b1 [(Vb a3.2.1)] 4, blk a7 [(str a0.1)] 9, blk a8 [(str a3.2.2.1)] 9, blk a9 [(Vi .i64 a0.2.2)] 3, afc a2 a3.2.2.2 a4, dfr b0] e1 := Hp.callK (L1 := [afc a2 0 a4, blk a1 [(Vb false)] 4, blk b1 [(Vb false)] 4, blk a7 [(str a0.1)] 9, blk a8 [(str a0.2.1)] 9, blk a9 [(Vi .i64 a0.2.2)] 3]) (L2 := [dfr b0]) c1 e2; clear e2
  have j1 : Hp w [] [afc a2 a3.2.2.2 a4, blk a1 [(Vb a3.1)] 4, blk b1 [(Vb a3.2.1)] 4, blk a7 [(str a0.1)] 9, blk a8 [(str a3.2.2.1)] 9, blk a9 [(Vi .i64 a0.2.2)] 3, dfr b0] e1 := j0.front 5 _ rfl
  refine ⟨a3.2.2.2, [blk a1 [(Vb a3.1)] 4, blk b1 [(Vb a3.2.1)] 4, blk a7 [(str a0.1)] 9, blk a8 [(str a3.2.2.1)] 9, blk a9 [(Vi .i64 a0.2.2)] 3, dfr b0], j1, ?_⟩
  intro l5 d0
  by_cases d1 : a3.2.2.2 = 0
  replace hr := ift d1 hr
  refine rg0 d1 (bn (qn (sr (aav d0 0 a1 0 [(Vb a3.1)] 4 (Vb a3.1) rfl rfl (by kernel_rfl) (by kernel_rfl) (aeu d0 1 b1 0 [(Vb a3.2.1)] 4 (Vb a3.1) [blk a1 [(Vb a3.1)] 4, blk b1 [(Vb a3.1)] 4, blk a7 [(str a0.1)] 9, blk a8 [(str a3.2.2.1)] 9, blk a9 [(Vi .i64 a0.2.2)] 3, dfr b0] rfl (Nat.lt_of_lt_of_le (Nat.lt_succ_self _) (Nat.le_of_ble_eq_true rfl)) (by kernel_rfl) (by kernel_rfl) rfl (by kernel_rfl) rfl fun l6 j2 => nq (ct ?_))))))
  obtain rfl := oi hr
  refine m_fin1 j2 5 b0 rfl _ [(Vb a3.1)] (Vb a3.1) rfl rfl (fun j3 d2 => (aaf (rok_one d2 1 b1 4 (Vb a3.1) rfl (by kernel_rfl) (by kernel_rfl)) aeb)) rfl fun j3 d2 => ?_
  exact ⟨(by first | rfl | (simp; done) | (simp; omega)), d2.kp⟩
  replace hr := ifn d1 hr
  by_cases d3 : a3.2.2.2 = 1
  replace hr := ift d3 hr
  refine rg1 d3 (ct (bt_ (st ?_)))
  obtain rfl := oi hr
  refine m_fin1 d0 5 b0 rfl _ [(Vb a3.2.1)] (Vb a3.2.1) rfl rfl (fun j4 d4 => (aaf (rok_one d4 1 b1 4 (Vb a3.2.1) rfl (by kernel_rfl) (by kernel_rfl)) aeb)) rfl fun j4 d4 => ?_
  exact ⟨(by first | rfl | (simp; done) | (simp; omega)), d4.kp⟩
  replace hr := ifn d3 hr
  exact absurd hr (by simp)
theorem afw {fu : Nat} {s_0 : Str} {w : World} {r : (Str × Bool)} (hr : age fu s_0 = some r) (hG : Gl w) : CR Tryz.prog 26 [(str s_0)] w fun v w' => v = (Value.tuple #[(str r.1), (Vb r.2)]) ∧ Hp w [] [] w' := by
  have hH : Hp w [] [] w := Hp.refl w
  refine enter (k := 43) Tryz.func26 rfl rfl (Nat.le_of_ble_eq_true rfl) ?_
  unfold age at hr
  refine sr (wp 2 (nq (cs (bi hr fun v9 a0 hr => agq hH [0, 2, 3, 21] [(21, (Vb v9))] ?_ ?_))))
  refine cr (wp 3 (wd a0 (fun a6 a0 => ?_) (fun a6 a0 => ?_)))
  refine wp 1 (gy 9 (gi a0 fun a7 a0 => adz s_0 .i64 (0 : Int) Tryz.underlying9 (by kernel_rfl) (by kernel_rfl) a7 (gy 9 (ack (at_ s_0 (0 : Int)) (91 : UInt8) (by kernel_rfl) (by kernel_rfl) (wp 1 (wd a0 (fun a8 a0 => ?_) (fun a8 a0 => ?_)))))))
  refine wp 3 (gy 14 (gi a0 fun a9 a0 => adp (s_0.length : Int) (1 : Int) (by kernel_rfl) (by kernel_rfl) a9 (gy 14 (gi a0 fun b0 a0 => adz s_0 .i64 ((s_0.length : Int) - (1 : Int)) Tryz.underlying9 (by kernel_rfl) (by kernel_rfl) b0 (gy 14 (ack (at_ s_0 ((s_0.length : Int) - (1 : Int))) (93 : UInt8) (by kernel_rfl) (by kernel_rfl) (wp 1 ?_)))))))
  refine wl (ql ?_)
  obtain rfl := oi a0
  exact je hH.kp
  refine wp 7 (wl (ql ?_))
  obtain rfl := oi a0
  exact je hH.kp
  refine wp 12 (wl (ql ?_))
  obtain rfl := oi a0
  exact je hH.kp
  intro c4 G a1
  refine cb hr (fun b1 hr => ?_) (fun b1 hr => ?_)
  refine sr (wp 3 (gi hr fun b2 hr => adp (s_0.length : Int) (1 : Int) (by kernel_rfl) (by kernel_rfl) b2 (gi hr fun b3 hr => amd s_0 .i64 .i64 (1 : Int) ((s_0.length : Int) - (1 : Int)) Tryz.underlying9 (by kernel_rfl) (by kernel_rfl) (by kernel_rfl) b3 (bi hr fun a4 b4 hr => wc ent81 a1 (K_L_address_groups b4 (hG.hp0 a1)) fun c5 a5 => wp 5 ?_))))
  refine nq (cs (sr (wp 2 (nq (cb hr (fun b5 hr => ?_) (fun b5 hr => ?_))))))
  refine sr (wp 2 (nq (ct (st (st ?_)))))
  obtain rfl := oi hr
  exact rv a5.kp
  refine ck (qn (sr (wp 1 (gi hr fun b6 hr => abn ([91] : Str) a4.1 (by kernel_rfl) (by kernel_rfl) b6 (gi hr fun b7 hr => abn (([91] : Str) ++ a4.1) ([93] : Str) (by kernel_rfl) (by kernel_rfl) b7 (wp 2 ?_))))))
  refine nq (ct (st ?_))
  obtain rfl := oi hr
  exact rv a5.kp
  refine ck (qn (cs (sr (wp 1 (bi hr fun c6 b8 hr => wc ent82 a1 (K_L_address_numbers b8 (hG.hp0 a1)) fun c7 a2 => nq (cb hr (fun b9 hr => ?_) (fun b9 hr => ?_)))))))
  refine sr (wp 3 (nq (ct (st ?_))))
  obtain rfl := oi hr
  exact rv a2.kp
  refine ck (qn (cs (sr (wp 1 (bi hr fun c8 c0 hr => wc ent83 a2 (K_L_address_named c0 (hG.hp0 a2)) fun c9 a3 => nq (cb hr (fun c1 hr => ?_) (fun c1 hr => ?_)))))))
  refine sr (wp 1 (bi hr fun d0 c2 hr => wc ent84 a3 (ada c2 (hG.hp0 a3)) fun d1 c3 => wp 2 (nq (ct (st ?_)))))
  obtain rfl := oi hr
  exact rv c3.kp
  refine ck (qn (sr (wp 2 (nq (ct ?_)))))
  obtain rfl := oi hr
  exact rv a3.kp
end Go.Proofs
set_option linter.unusedVariables false
set_option linter.unusedSimpArgs false
set_option maxRecDepth 20000
set_option maxHeartbeats 1000000
namespace Go.Proofs
open Go.Wk Go.Px
open Go.Value renaming slice → Vs, int → Vi, bool → Vb, pointer → Vp
theorem ent26 : Go.Wk.Enters Tryz.prog 26 := ⟨Tryz.f26, _, Tryz.func26, rfl, by kernel_rfl⟩
theorem ent58 : Go.Wk.Enters Tryz.prog 58 := ⟨Tryz.f58, _, Tryz.func58, rfl, by kernel_rfl⟩
theorem ent125 : Go.Wk.Enters Tryz.prog 125 := ⟨Tryz.f125, _, Tryz.func125, rfl, by kernel_rfl⟩
theorem ent177 : Go.Wk.Enters Tryz.prog 177 := ⟨Tryz.f177, _, Tryz.func177, rfl, by kernel_rfl⟩
theorem ent182 : Go.Wk.Enters Tryz.prog 182 := ⟨Tryz.f182, _, Tryz.func182, rfl, by kernel_rfl⟩
theorem ent183 : Go.Wk.Enters Tryz.prog 183 := ⟨Tryz.f183, _, Tryz.func183, rfl, by kernel_rfl⟩
theorem ent216 : Go.Wk.Enters Tryz.prog 216 := ⟨Tryz.f216, _, Tryz.func216, rfl, by kernel_rfl⟩
theorem ent254 : Go.Wk.Enters Tryz.prog 254 := ⟨Tryz.f254, _, Tryz.func254, rfl, by kernel_rfl⟩
theorem ent255 : Go.Wk.Enters Tryz.prog 255 := ⟨Tryz.f255, _, Tryz.func255, rfl, by kernel_rfl⟩
theorem ent256 : Go.Wk.Enters Tryz.prog 256 := ⟨Tryz.f256, _, Tryz.func256, rfl, by kernel_rfl⟩
theorem ajw {fu : Nat} {s_0 : Str} {w : World} {r : (Int × UInt8)} (hr : agc fu s_0 = some r) (hG : Gl w) : CR Tryz.prog 58 [(str s_0)] w fun v w' => v = (Value.tuple #[(Vi .i64 r.1), (bt r.2)]) ∧ Hp w [] [] w' := by
  have hH : Hp w [] [] w := Hp.refl w
  refine enter (k := 41) Tryz.func58 rfl rfl (Nat.le_of_ble_eq_true rfl) ?_
  unfold agc at hr
  refine sr (wp 2 (nq (cs (bi hr fun v5 a4 hr => agq hH [0, 2, 3, 13] [(13, (Vb v5))] ?_ ?_))))
  refine cr (wp 3 (wd a4 (fun h6 a4 => ?_) (fun h6 a4 => ?_)))
  refine wp 4 (wl (ql ?_))
  obtain rfl := oi a4
  exact je hH.kp
  refine wp 4 (wl (ql ?_))
  obtain rfl := oi a4
  exact je hH.kp
  intro w7 G a6
  refine cb hr (fun h9 hr => ?_) (fun h9 hr => ?_)
  refine sr (wp 2 (nq (ct (st ?_))))
  obtain rfl := oi hr
  exact rv a6.kp
  refine ck (qn (sr (wp 1 (nq (bi hr fun b1 b2 hr => cut1 a6 b1 [2, 3, 4] (fun a7 => [(4, (Vi .i64 a7))]) ?_ ?_)))))
  refine sr (wp 3 (nq (ce (lpS (fun a8 ⟨a3, a1⟩ => aeh fu s_0 a8 a3 a1) ((0 : Int), (0 : Int)) a6 b2 [0, 2, 3, 4, 15, 16] (fun ⟨a3, a1⟩ => [(4, (Vi .i64 a3)), (16, (Vi .i64 a1))]) (fun _ => rfl) ?_))))
  rintro a8 ⟨a3, a1⟩ c4 G a5 a0
  dsimp only at a0
  rw [aeh.eq_2] at a0
  refine sr (wp 1 (nq (cs (cd a0 (fun b3 a0 => ?_) (fun b3 a0 => ?_)))))
  refine ck (qn (cs (ce (sr (wp 2 (nq (cs ?_)))))))
  refine bi a0 fun b4 a2 a0 => agq a5 [0, 2, 3, 4, 5, 15, 16, 28] [(28, (Vb b4))] ?_ ?_
  refine cr (wp 2 (gi a2 fun b5 a2 => adz s_0 .i64 a1 Tryz.underlying9 (by kernel_rfl) (by kernel_rfl) b5 (w8_lss (at_ s_0 a1) (48 : UInt8) (by kernel_rfl) (by kernel_rfl) (wd a2 (fun b6 a2 => ?_) (fun b6 a2 => ?_)))))
  refine wp 5 (wl (ql ?_))
  obtain rfl := oi a2
  exact je a5.kp
  refine wp 2 (gy 23 (gi a2 fun b7 a2 => adz s_0 .i64 a1 Tryz.underlying9 (by kernel_rfl) (by kernel_rfl) b7 (gy 23 (w8_gtr (at_ s_0 a1) (57 : UInt8) (by kernel_rfl) (by kernel_rfl) (wp 1 (wl (ql ?_)))))))
  obtain rfl := oi a2
  exact je a5.kp
  intro c5 G a9
  refine cb a0 (fun b8 a0 => ?_) (fun b8 a0 => ?_)
  refine sr (wp 2 (nq (ct (st (bt_ (st (acp ?_)))))))
  refine bt_ (acp ?_)
  obtain rfl := oi a0
  obtain rfl := oi hr
  exact rv a9.kp
  refine ck (qn (cr (wp 1 (gi a0 fun b9 a0 => amv (10 : Int) a3 (by kernel_rfl) (by kernel_rfl) b9 (wp 2 (gi a0 fun c0 a0 => adz s_0 .i64 a1 Tryz.underlying9 (by kernel_rfl) (by kernel_rfl) c0 (w8_sub (at_ s_0 a1) (48 : UInt8) (by kernel_rfl) (by kernel_rfl) ?_)))))))
  refine w_convx .i64 .u8 (((at_ s_0 a1) - (48 : UInt8)).toNat : Int) Tryz.underlying5 Tryz.underlying2 (by kernel_rfl) (wrap_u8_i64 _) (gi a0 fun c1 a0 => aac ((10 : Int) * a3) (((at_ s_0 a1) - (48 : UInt8)).toNat : Int) (by kernel_rfl) (by kernel_rfl) c1 (wp 1 (wl (bn (qn (cr (gi a0 fun c2 a0 => aac a1 (1 : Int) (by kernel_rfl) (by kernel_rfl) c2 ?_)))))))
  exact wp 1 (wl (ql (le' (((10 : Int) * a3) + (((at_ s_0 a1) - (48 : UInt8)).toNat : Int), a1 + (1 : Int)) a9.kp a0)))
  refine ach (acg (acq (aci (ql ?_))))
  obtain rfl := oi a0
  exact je1 rfl a5.kp
  rintro a7 c6 G b0 rfl
  refine cs (sr (wp 2 (nq (cd hr (fun c3 hr => ?_) (fun c3 hr => ?_)))))
  refine sr (wp 2 (nq (ct (st ?_))))
  obtain rfl := oi hr
  exact rv b0.kp
  refine ck (qn (sr (wp 3 (nq (ct ?_)))))
  obtain rfl := oi hr
  exact rv b0.kp
theorem anj {fu : Nat} {a3 : (Str × Int)} {a2 : (Str × Str × Str × Int × (List (Str × Str × Bool)) × (List (Str × Str × Bool)))} (a8 : Nat) (b1 : Nat) (a9 : Option Nat) (a4 : Option Addr) (a5 : Nat) (b0 : Option Nat) (a6 : Option Addr) (a7 : Nat) {w : World} {r : (Int × UInt8 × (Str × Int) × (Str × Str × Str × Int × (List (Str × Str × Bool)) × (List (Str × Str × Bool))))} (hr : ail fu a3 a2 = some r) (hG : Gl w) (hM : Hp w (aaj [blk a8 [(str a3.1), (Vi .i64 a3.2)] 119, blk b1 [(str a2.1), (str a2.2.1), (str a2.2.2.1), (Vi .i64 a2.2.2.2.1), (Vs a4 a2.2.2.2.2.1.length a5), (Vs a6 a2.2.2.2.2.2.length a7)] 68, rwt aaa 46 3 a9 a4 a5 a2.2.2.2.2.1, rwt aaa 46 3 b0 a6 a7 a2.2.2.2.2.2]) [blk a8 [(str a3.1), (Vi .i64 a3.2)] 119, blk b1 [(str a2.1), (str a2.2.1), (str a2.2.2.1), (Vi .i64 a2.2.2.2.1), (Vs a4 a2.2.2.2.2.1.length a5), (Vs a6 a2.2.2.2.2.2.length a7)] 68, rwt aaa 46 3 a9 a4 a5 a2.2.2.2.2.1, rwt aaa 46 3 b0 a6 a7 a2.2.2.2.2.2] w) (hS : ∀ b ∈ aaj [blk a8 [(str a3.1), (Vi .i64 a3.2)] 119, blk b1 [(str a2.1), (str a2.2.1), (str a2.2.2.1), (Vi .i64 a2.2.2.2.1), (Vs a4 a2.2.2.2.2.1.length a5), (Vs a6 a2.2.2.2.2.2.length a7)] 68, rwt aaa 46 3 a9 a4 a5 a2.2.2.2.2.1, rwt aaa 46 3 b0 a6 a7 a2.2.2.2.2.2], 9 ≤ b) : CR Tryz.prog 229 [(Vp (some ⟨a8, 0, none⟩)), (Vp (some ⟨b1, 0, none⟩))] w fun v w' => ∃ (o0 : Option Nat), ∃ (a0 : Option Addr), ∃ (cap0 : Nat), ∃ (o1 : Option Nat), ∃ (a1 : Option Addr), ∃ (cap1 : Nat), v = (Value.tuple #[(Vi .i64 r.1), (bt r.2.1)]) ∧ Hp w (aaj [blk a8 [(str a3.1), (Vi .i64 a3.2)] 119, blk b1 [(str a2.1), (str a2.2.1), (str a2.2.2.1), (Vi .i64 a2.2.2.2.1), (Vs a4 a2.2.2.2.2.1.length a5), (Vs a6 a2.2.2.2.2.2.length a7)] 68, rwt aaa 46 3 a9 a4 a5 a2.2.2.2.2.1, rwt aaa 46 3 b0 a6 a7 a2.2.2.2.2.2]) [blk a8 [(str r.2.2.1.1), (Vi .i64 r.2.2.1.2)] 119, blk b1 [(str r.2.2.2.1), (str r.2.2.2.2.1), (str r.2.2.2.2.2.1), (Vi .i64 r.2.2.2.2.2.2.1), (Vs a0 r.2.2.2.2.2.2.2.1.length cap0), (Vs a1 r.2.2.2.2.2.2.2.2.length cap1)] 68, rwt aaa 46 3 o0 a0 cap0 r.2.2.2.2.2.2.2.1, rwt aaa 46 3 o1 a1 cap1 r.2.2.2.2.2.2.2.2] w' := by
  have hH : Hp w (aaj [blk a8 [(str a3.1), (Vi .i64 a3.2)] 119, blk b1 [(str a2.1), (str a2.2.1), (str a2.2.2.1), (Vi .i64 a2.2.2.2.1), (Vs a4 a2.2.2.2.2.1.length a5), (Vs a6 a2.2.2.2.2.2.length a7)] 68, rwt aaa 46 3 a9 a4 a5 a2.2.2.2.2.1, rwt aaa 46 3 b0 a6 a7 a2.2.2.2.2.2]) [blk a8 [(str a3.1), (Vi .i64 a3.2)] 119, blk b1 [(str a2.1), (str a2.2.1), (str a2.2.2.1), (Vi .i64 a2.2.2.2.1), (Vs a4 a2.2.2.2.2.1.length a5), (Vs a6 a2.2.2.2.2.2.length a7)] 68, rwt aaa 46 3 a9 a4 a5 a2.2.2.2.2.1, rwt aaa 46 3 b0 a6 a7 a2.2.2.2.2.2] w := hM
  refine enter (k := 197) Tryz.func229 rfl rfl (Nat.le_of_ble_eq_true rfl) ?_
  unfold ail at hr
  refine sr (wp 2 (nq (bi hr fun f4 b4 hr => cut (σ := (Int × Str)) [0, 1, 4, 5] (fun b2 => []) (fun b2 w' => Hp w (aaj [blk a8 [(str a3.1), (Vi .i64 a3.2)] 119, blk b1 [(str a2.1), (str a2.2.1), (str a2.2.2.1), (Vi .i64 a2.2.2.2.1), (Vs a4 a2.2.2.2.2.1.length a5), (Vs a6 a2.2.2.2.2.2.length a7)] 68, rwt aaa 46 3 a9 a4 a5 a2.2.2.2.2.1, rwt aaa 46 3 b0 a6 a7 a2.2.2.2.2.2]) [blk a8 [(str a3.1), (Vi .i64 b2.1)] 119, blk b1 [(str a2.1), (str b2.2), (str a2.2.2.1), (Vi .i64 a2.2.2.2.1), (Vs a4 a2.2.2.2.2.1.length a5), (Vs a6 a2.2.2.2.2.2.length a7)] 68, rwt aaa 46 3 a9 a4 a5 a2.2.2.2.2.1, rwt aaa 46 3 b0 a6 a7 a2.2.2.2.2.2] w' ∧ .inl b2 = f4) ?_ ?_)))
  refine cs (adm 9 (fun j_ w_ w_' => abv [9, 10, 11] (fun w' => w'.heap[a8]? = some (.cells [(str a3.1), (Vi .i64 a3.2)].toArray 119 (0, 0))) j_ w_ w_' ∧ True) [false, false, false, false, false, false, false, false, false, false, false, false] (fun _ _ => ⟨abv.same, trivial⟩) (by kernel_rfl) (by kernel_rfl) hH rfl (adb (aal acf)) fun f5 d6 => rp 5 [0, 1, 2, 3] (aag [true, true, true, true, true, false, false, false, false, false, false, false] 4 20 (str a3.1) [9, 10, 11] (fun _ _ _ h => h.1) _ rfl rfl (by kernel_rfl) (by kernel_rfl) (by kernel_rfl) (by kernel_rfl) (by kernel_rfl) rfl (aai rfl (by intro w hS_; exact (afx a8 0 [(str a3.1), (Vi .i64 a3.2)] 119 (str a3.1) hS_ rfl (by kernel_rfl) (by kernel_rfl)))) (by exact d6.blkAt 0 rfl) (rp 1 [5, 6, 7] (aag [true, true, true, true, true, true, true, true, true, false, false, false] 8 24 (Vi .i64 a3.2) [9, 10, 11] (fun _ _ _ h => h.1) _ rfl rfl (by kernel_rfl) (by kernel_rfl) (by kernel_rfl) (by kernel_rfl) (by kernel_rfl) rfl (aai rfl (by intro w hS_; exact (afx a8 1 [(str a3.1), (Vi .i64 a3.2)] 119 (Vi .i64 a3.2) hS_ rfl (by kernel_rfl) (by kernel_rfl)))) (by exact d6.blkAt 0 rfl) (acw (by kernel_rfl) (gi b4 fun f6 b4 => ahu a3.1 .i64 a3.2 Tryz.underlying9 (by kernel_rfl) (by kernel_rfl) f6 (aad 146 #[] [(str (List.drop (Int.toNat a3.2) a3.1)), (bt (64 : UInt8))] _ ent146 (by kernel_rfl) (by kernel_rfl) (akc (List.drop (Int.toNat a3.2) a3.1) (64 : UInt8) f5) ?_)))))))
  rintro _ k8 ⟨rfl, e2⟩
  have c1 := d6.call e2; clear e2
  refine wp 1 (nq (sr (wp 2 (nq (cd b4 (fun f7 b4 => ?_) (fun f7 b4 => ?_))))))
  refine sr (wp 3 (aav c1 0 a8 1 [(str a3.1), (Vi .i64 a3.2)] 119 (Vi .i64 a3.2) rfl rfl (by kernel_rfl) (by kernel_rfl) (wp 1 (gi b4 fun f8 b4 => aac a3.2 (ixb (· == (64 : UInt8)) (List.drop (Int.toNat a3.2) a3.1)) (by kernel_rfl) (by kernel_rfl) f8 (wp 1 (nq ?_))))))
  refine cs (sr (wp 2 (bi b4 fun c8 f9 b4 => aad 254 #[] [(Vp (some ⟨a8, 0, none⟩)), (Vi .i64 (a3.2 + (ixb (· == (64 : UInt8)) (List.drop (Int.toNat a3.2) a3.1)))), (Vi .i64 (0 : Int))] _ ent254 (by kernel_rfl) (by kernel_rfl) (ahr a8 f9 (hG.hp c1 hS) (c1.hand (L1 := [blk a8 [(str a3.1), (Vi .i64 a3.2)] 119]) (L2 := [blk b1 [(str a2.1), (str a2.2.1), (str a2.2.2.1), (Vi .i64 a2.2.2.2.1), (Vs a4 a2.2.2.2.2.1.length a5), (Vs a6 a2.2.2.2.2.2.length a7)] 68, rwt aaa 46 3 a9 a4 a5 a2.2.2.2.2.1, rwt aaa 46 3 b0 a6 a7 a2.2.2.2.2.2])) (c1.highs hG hS 1 rfl)) ?_)))
  rintro _ g0 ⟨rfl, e3⟩
  have c2 : Hp w (aaj [blk a8 [(str a3.1), (Vi .i64 a3.2)] 119, blk b1 [(str a2.1), (str a2.2.1), (str a2.2.2.1), (Vi .i64 a2.2.2.2.1), (Vs a4 a2.2.2.2.2.1.length a5), (Vs a6 a2.2.2.2.2.2.length a7)] 68, rwt aaa 46 3 a9 a4 a5 a2.2.2.2.2.1, rwt aaa 46 3 b0 a6 a7 a2.2.2.2.2.2]) [blk a8 [(str a3.1), (Vi .i64 a3.2)] 119, blk b1 [(str a2.1), (str a2.2.1), (str a2.2.2.1), (Vi .i64 a2.2.2.2.1), (Vs a4 a2.2.2.2.2.1.length a5), (Vs a6 a2.2.2.2.2.2.length a7)] 68, rwt aaa 46 3 a9 a4 a5 a2.2.2.2.2.1, rwt aaa 46 3 b0 a6 a7 a2.2.2.2.2.2] g0 := Hp.callK (L1 := [blk a8 [(str a3.1), (Vi .i64 a3.2)] 119]) (L2 := [blk b1 [(str a2.1), (str a2.2.1), (str a2.2.2.1), (Vi .i64 a2.2.2.2.1), (Vs a4 a2.2.2.2.2.1.length a5), (Vs a6 a2.2.2.2.2.2.length a7)] 68, rwt aaa 46 3 a9 a4 a5 a2.2.2.2.2.1, rwt aaa 46 3 b0 a6 a7 a2.2.2.2.2.2]) c1 e3; clear e3
  refine wp 5 (nq (sr (wp 1 (nq (cb b4 (fun g1 b4 => ?_) (fun g1 b4 => ?_))))))
  refine cs (sr (wp 4 (aav c2 0 a8 0 [(str a3.1), (Vi .i64 a3.2)] 119 (str a3.1) rfl rfl (by kernel_rfl) (by kernel_rfl) (wp 1 (gi b4 fun g2 b4 => adz a3.1 .i64 c8.1 Tryz.underlying9 (by kernel_rfl) (by kernel_rfl) g2 (ack (at_ a3.1 c8.1) (58 : UInt8) (by kernel_rfl) (by kernel_rfl) (wl ?_)))))))
  refine qn (cd b4 (fun g3 b4 => ?_) (fun g3 b4 => ?_))
  refine sr (wp 3 (nq (ct (st (st (acp ?_))))))
  obtain rfl := oi b4
  obtain rfl := oi hr
  refine ajc (Vi .i64 c8.1) (bt (15 : UInt8)) rfl (by kernel_rfl) (by kernel_rfl) ?_
  exact ⟨a9, a4, a5, b0, a6, a7, (by first | rfl | (simp; done) | (simp; omega)), (Hp.front (Hp.front (Hp.front (Hp.front c2 3 _ rfl) 3 _ rfl) 3 _ rfl) 3 _ rfl).kp⟩
  refine ck (qn (sr (wp 3 (nq (ct (st (acp ?_)))))))
  obtain rfl := oi b4
  obtain rfl := oi hr
  refine ajc (Vi .i64 c8.1) (bt (5 : UInt8)) rfl (by kernel_rfl) (by kernel_rfl) ?_
  exact ⟨a9, a4, a5, b0, a6, a7, (by first | rfl | (simp; done) | (simp; omega)), (Hp.front (Hp.front (Hp.front (Hp.front c2 3 _ rfl) 3 _ rfl) 3 _ rfl) 3 _ rfl).kp⟩
  refine ck (qn (cs (sr (wp 2 (nq (cd b4 (fun g4 b4 => ?_) (fun g4 b4 => ?_)))))))
  refine sr (wp 3 (nq (ct (st (acp ?_)))))
  obtain rfl := oi b4
  obtain rfl := oi hr
  refine ajc (Vi .i64 (a3.2 + (ixb (· == (64 : UInt8)) (List.drop (Int.toNat a3.2) a3.1)))) (bt (5 : UInt8)) rfl (by kernel_rfl) (by kernel_rfl) ?_
  exact ⟨a9, a4, a5, b0, a6, a7, (by first | rfl | (simp; done) | (simp; omega)), (Hp.front (Hp.front (Hp.front (Hp.front c2 3 _ rfl) 3 _ rfl) 3 _ rfl) 3 _ rfl).kp⟩
  refine ck (qn (cs (gi b4 fun g5 b4 => bi b4 fun c9 g6 b4 => adm 13 (fun j_ w_ w_' => abv [11, 12, 13, 14, 15] (fun w' => w'.heap[a8]? = some (.cells [(str a3.1), (Vi .i64 a3.2)].toArray 119 (0, 0))) j_ w_ w_' ∧ True) [false, false, false, false, false, false, false, false, false, false, false, false, false, false, false, false] (fun _ _ => ⟨abv.same, trivial⟩) (by kernel_rfl) (by kernel_rfl) c2 rfl (adb (aal acf)) fun k9 d0 => rp 8 [0, 1, 2, 3, 4] (aag [true, true, true, true, true, true, false, false, false, false, false, false, false, false, false, false] 5 60 (str a3.1) [11, 12, 13, 14, 15] (fun _ _ _ h => h.1) _ rfl rfl (by kernel_rfl) (by kernel_rfl) (by kernel_rfl) (by kernel_rfl) (by kernel_rfl) rfl (aai rfl (by intro w hS_; exact (afx a8 0 [(str a3.1), (Vi .i64 a3.2)] 119 (str a3.1) hS_ rfl (by kernel_rfl) (by kernel_rfl)))) (by exact d0.blkAt 0 rfl) (rp 4 [6, 7, 8] (aag [true, true, true, true, true, true, true, true, true, true, false, false, false, false, false, false] 9 64 (Vi .i64 a3.2) [11, 12, 13, 14, 15] (fun _ _ _ h => h.1) _ rfl rfl (by kernel_rfl) (by kernel_rfl) (by kernel_rfl) (by kernel_rfl) (by kernel_rfl) rfl (aai rfl (by intro w hS_; exact (afx a8 1 [(str a3.1), (Vi .i64 a3.2)] 119 (Vi .i64 a3.2) hS_ rfl (by kernel_rfl) (by kernel_rfl)))) (by exact d0.blkAt 0 rfl) ?_))))))
  refine rp 2 [10] (rt 11 (str (sub a3.1 a3.2 (a3.2 + (ixb (· == (64 : UInt8)) (List.drop (Int.toNat a3.2) a3.1))))) rfl rfl (aai rfl (by intro w hS_; exact (x_slice a3.1 .i64 .i64 a3.2 (a3.2 + (ixb (· == (64 : UInt8)) (List.drop (Int.toNat a3.2) a3.1))) Tryz.underlying9 (by kernel_rfl) (by kernel_rfl) (by kernel_rfl) g5))) (ro 12 rfl (wc ent255 d0 (aka g6 (hG.hp d0 hS)) fun l0 g7 => wl (abk (by exact ⟨abv.out rfl, trivial⟩) (acw (by kernel_rfl) (wp 2 (aeu g7 1 b1 1 [(str a2.1), (str a2.2.1), (str a2.2.2.1), (Vi .i64 a2.2.2.2.1), (Vs a4 a2.2.2.2.2.1.length a5), (Vs a6 a2.2.2.2.2.2.length a7)] 68 (str c9) [blk a8 [(str a3.1), (Vi .i64 a3.2)] 119, blk b1 [(str a2.1), (str c9), (str a2.2.2.1), (Vi .i64 a2.2.2.2.1), (Vs a4 a2.2.2.2.2.1.length a5), (Vs a6 a2.2.2.2.2.2.length a7)] 68, rwt aaa 46 3 a9 a4 a5 a2.2.2.2.2.1, rwt aaa 46 3 b0 a6 a7 a2.2.2.2.2.2] rfl (Nat.lt_of_lt_of_le (Nat.lt_succ_self _) (Nat.le_of_ble_eq_true rfl)) (by kernel_rfl) (by kernel_rfl) rfl (by kernel_rfl) rfl fun l1 g8 => wl ?_)))))))
  refine qn (cr (wp 2 (gi b4 fun g9 b4 => aac (a3.2 + (ixb (· == (64 : UInt8)) (List.drop (Int.toNat a3.2) a3.1))) (1 : Int) (by kernel_rfl) (by kernel_rfl) g9 (wp 2 (aeu g8 0 a8 1 [(str a3.1), (Vi .i64 a3.2)] 119 (Vi .i64 ((a3.2 + (ixb (· == (64 : UInt8)) (List.drop (Int.toNat a3.2) a3.1))) + (1 : Int))) [blk a8 [(str a3.1), (Vi .i64 ((a3.2 + (ixb (· == (64 : UInt8)) (List.drop (Int.toNat a3.2) a3.1))) + (1 : Int)))] 119, blk b1 [(str a2.1), (str c9), (str a2.2.2.1), (Vi .i64 a2.2.2.2.1), (Vs a4 a2.2.2.2.2.1.length a5), (Vs a6 a2.2.2.2.2.2.length a7)] 68, rwt aaa 46 3 a9 a4 a5 a2.2.2.2.2.1, rwt aaa 46 3 b0 a6 a7 a2.2.2.2.2.2] rfl (Nat.lt_of_lt_of_le (Nat.lt_succ_self _) (Nat.le_of_ble_eq_true rfl)) (by kernel_rfl) (by kernel_rfl) rfl (by kernel_rfl) rfl fun l2 h0 => wl (ql ?_))))))
  obtain rfl := oi b4
  exact ⟨((a3.2 + (ixb (· == (64 : UInt8)) (List.drop (Int.toNat a3.2) a3.1))) + (1 : Int), c9), _, rfl, by kernel_rfl, (Hp.front (Hp.front (Hp.front (Hp.front h0 3 _ rfl) 3 _ rfl) 3 _ rfl) 3 _ rfl).kp, rfl⟩
  refine ck (ql ?_)
  obtain rfl := oi b4
  exact ⟨(a3.2, a2.2.1), _, rfl, by kernel_rfl, (Hp.front (Hp.front (Hp.front (Hp.front c1 3 _ rfl) 3 _ rfl) 3 _ rfl) 3 _ rfl).kp, rfl⟩
  rintro b2 l3 G ⟨d1, rfl⟩
  refine sr (wp 3 (aav d1 0 a8 1 [(str a3.1), (Vi .i64 b2.1)] 119 (Vi .i64 b2.1) rfl rfl (by kernel_rfl) (by kernel_rfl) (wp 1 (nq (sr (wp 3 ?_))))))
  refine akx d1 0 a8 0 1 [(str a3.1), (Vi .i64 b2.1)] [(str a3.1)] 119 rfl rfl rfl (by kernel_rfl) (by kernel_rfl) (by kernel_rfl) (wp 1 (bi hr fun l4 h1 hr => wc ent177 d1 (acj h1 (hG.hp d1 hS)) fun l5 c3 => wp 1 (nq (bi hr fun b3 b7 hr => agq c3 [0, 1, 4, 5, 10, 11] [(11, (Vi .i64 b3))] ?_ ?_))))
  refine sr (wp 1 (bi b7 fun l6 h2 b7 => aad 113 #[] [(Vp (some ⟨a8, 0, none⟩)), (bt (91 : UInt8))] _ als (by kernel_rfl) (by kernel_rfl) (aar a8 h2 (hG.hp c3 hS) (c3.hand (L1 := [blk a8 [(str a3.1), (Vi .i64 b2.1)] 119]) (L2 := [blk b1 [(str a2.1), (str b2.2), (str a2.2.2.1), (Vi .i64 a2.2.2.2.1), (Vs a4 a2.2.2.2.2.1.length a5), (Vs a6 a2.2.2.2.2.2.length a7)] 68, rwt aaa 46 3 a9 a4 a5 a2.2.2.2.2.1, rwt aaa 46 3 b0 a6 a7 a2.2.2.2.2.2])) (c3.highs hG hS 1 rfl)) ?_))
  rintro _ h3 ⟨rfl, e4⟩
  have e5 : Hp w (aaj [blk a8 [(str a3.1), (Vi .i64 a3.2)] 119, blk b1 [(str a2.1), (str a2.2.1), (str a2.2.2.1), (Vi .i64 a2.2.2.2.1), (Vs a4 a2.2.2.2.2.1.length a5), (Vs a6 a2.2.2.2.2.2.length a7)] 68, rwt aaa 46 3 a9 a4 a5 a2.2.2.2.2.1, rwt aaa 46 3 b0 a6 a7 a2.2.2.2.2.2]) [blk a8 [(str a3.1), (Vi .i64 b2.1)] 119, blk b1 [(str a2.1), (str b2.2), (str a2.2.2.1), (Vi .i64 a2.2.2.2.1), (Vs a4 a2.2.2.2.2.1.length a5), (Vs a6 a2.2.2.2.2.2.length a7)] 68, rwt aaa 46 3 a9 a4 a5 a2.2.2.2.2.1, rwt aaa 46 3 b0 a6 a7 a2.2.2.2.2.2] h3 := Hp.callK (L1 := [blk a8 [(str a3.1), (Vi .i64 b2.1)] 119]) (L2 := [blk b1 [(str a2.1), (str b2.2), (str a2.2.2.1), (Vi .i64 a2.2.2.2.1), (Vs a4 a2.2.2.2.2.1.length a5), (Vs a6 a2.2.2.2.2.2.length a7)] 68, rwt aaa 46 3 a9 a4 a5 a2.2.2.2.2.1, rwt aaa 46 3 b0 a6 a7 a2.2.2.2.2.2]) c3 e4; clear e4
  refine nq (cb b7 (fun h4 b7 => ?_) (fun h4 b7 => ?_))
  refine bi b7 fun d7 h5 b7 => gi b7 fun h6 b7 => adm 13 (fun j_ w_ w_' => abv [5, 6, 13, 14] (fun w' => w'.heap[a8]? = some (.cells [(str a3.1), (Vi .i64 b2.1)].toArray 119 (0, 0))) j_ w_ w_' ∧ abv [12, 13, 14] (fun w' => w'.heap[a8]? = some (.cells [(str a3.1), (Vi .i64 b2.1)].toArray 119 (0, 0))) j_ w_ w_' ∧ True) [false, false, false, false, false, false, false, false, false, false, false, false, false, false, false] (fun _ _ => ⟨abv.same, abv.same, trivial⟩) (by kernel_rfl) (by kernel_rfl) e5 rfl (aal acf) fun l7 d2 => rp 10 [0, 1, 2] (aag [true, true, true, true, false, false, false, false, false, false, false, false, false, false, false] 3 90 (Value.agg #[(str a3.1)]) [5, 6, 13, 14] (fun _ _ _ h => h.1) _ rfl rfl (by kernel_rfl) (by kernel_rfl) (by kernel_rfl) (by kernel_rfl) (by kernel_rfl) rfl (aai rfl (by intro w hS_; exact (x_ldN a8 0 1 [(str a3.1), (Vi .i64 b2.1)] [(str a3.1)] 119 hS_ rfl rfl (by kernel_rfl) (by kernel_rfl) (by kernel_rfl)))) (by exact d2.blkAt 0 rfl) (rp 4 [4, 7, 8, 9, 10] (aag [true, true, true, true, true, false, false, true, true, true, true, true, false, false, false] 11 98 (str a3.1) [12, 13, 14] (fun _ _ _ h => h.2.1) _ rfl rfl (by kernel_rfl) (by kernel_rfl) (by kernel_rfl) (by kernel_rfl) (by kernel_rfl) rfl (aai rfl (by intro w hS_; exact (afx a8 0 [(str a3.1), (Vi .i64 b2.1)] 119 (str a3.1) hS_ rfl (by kernel_rfl) (by kernel_rfl)))) (by exact d2.blkAt 0 rfl) (rp 2 [12] (ro 5 rfl (wc ent177 d2 (acj h5 (hG.hp d2 hS)) fun l8 e6 => ?_))))))
  refine wl (abk (by exact ⟨abv.out rfl, abv.new (e6.blkAt 0 rfl), trivial⟩) (rt 6 (Vi .i64 (d7 + (1 : Int))) rfl rfl (aai rfl (by intro w hS_; exact (aiv d7 (1 : Int) (by kernel_rfl) (by kernel_rfl) h6))) (acw (by kernel_rfl) (w_min .i64 (d7 + (1 : Int)) (a3.1.length : Int) (by kernel_rfl) (by kernel_rfl) (wp 1 (wl (ql ?_)))))))
  obtain rfl := oi b7
  exact je (Hp.front (Hp.front (Hp.front (Hp.front e6 3 _ rfl) 3 _ rfl) 3 _ rfl) 3 _ rfl).kp
  refine ck (ql ?_)
  obtain rfl := oi b7
  exact je (Hp.front (Hp.front (Hp.front (Hp.front e5 3 _ rfl) 3 _ rfl) 3 _ rfl) 3 _ rfl).kp
  intro l9 G d8
  refine sr (wp 4 (aav d8 0 a8 0 [(str a3.1), (Vi .i64 b2.1)] 119 (str a3.1) rfl rfl (by kernel_rfl) (by kernel_rfl) (wp 2 (gi hr fun h7 hr => amd a3.1 .i64 .i64 b2.1 b3 Tryz.underlying9 (by kernel_rfl) (by kernel_rfl) (by kernel_rfl) h7 (bi hr fun b5 h8 hr => wc ent26 d8 (afw h8 (hG.hp d8 hS)) fun m0 e7 => wp 5 ?_)))))
  refine nq (cs (sr (wp 2 (nq (cb hr (fun h9 hr => ?_) (fun h9 hr => ?_))))))
  refine sr (wp 3 (nq (ct (st ?_))))
  obtain rfl := oi hr
  refine ajc (Vi .i64 b2.1) (bt (5 : UInt8)) rfl (by kernel_rfl) (by kernel_rfl) ?_
  exact ⟨a9, a4, a5, b0, a6, a7, (by first | rfl | (simp; done) | (simp; omega)), (Hp.front (Hp.front (Hp.front (Hp.front e7 3 _ rfl) 3 _ rfl) 3 _ rfl) 3 _ rfl).kp⟩
  refine ck (qn (sr (wp 6 (aeu e7 1 b1 2 [(str a2.1), (str b2.2), (str a2.2.2.1), (Vi .i64 a2.2.2.2.1), (Vs a4 a2.2.2.2.2.1.length a5), (Vs a6 a2.2.2.2.2.2.length a7)] 68 (str b5.1) [blk a8 [(str a3.1), (Vi .i64 b2.1)] 119, blk b1 [(str a2.1), (str b2.2), (str b5.1), (Vi .i64 a2.2.2.2.1), (Vs a4 a2.2.2.2.2.1.length a5), (Vs a6 a2.2.2.2.2.2.length a7)] 68, rwt aaa 46 3 a9 a4 a5 a2.2.2.2.2.1, rwt aaa 46 3 b0 a6 a7 a2.2.2.2.2.2] rfl (Nat.lt_of_lt_of_le (Nat.lt_succ_self _) (Nat.le_of_ble_eq_true rfl)) (by kernel_rfl) (by kernel_rfl) rfl (by kernel_rfl) rfl fun m1 i0 => wp 2 (aeu i0 0 a8 1 [(str a3.1), (Vi .i64 b2.1)] 119 (Vi .i64 b3) [blk a8 [(str a3.1), (Vi .i64 b3)] 119, blk b1 [(str a2.1), (str b2.2), (str b5.1), (Vi .i64 a2.2.2.2.1), (Vs a4 a2.2.2.2.2.1.length a5), (Vs a6 a2.2.2.2.2.2.length a7)] 68, rwt aaa 46 3 a9 a4 a5 a2.2.2.2.2.1, rwt aaa 46 3 b0 a6 a7 a2.2.2.2.2.2] rfl (Nat.lt_of_lt_of_le (Nat.lt_succ_self _) (Nat.le_of_ble_eq_true rfl)) (by kernel_rfl) (by kernel_rfl) rfl (by kernel_rfl) rfl fun m2 d3 => nq ?_)))))
  refine cs (sr (wp 1 (bi hr fun m3 i1 hr => aad 113 #[] [(Vp (some ⟨a8, 0, none⟩)), (bt (58 : UInt8))] _ als (by kernel_rfl) (by kernel_rfl) (aar a8 i1 (hG.hp d3 hS) (d3.hand (L1 := [blk a8 [(str a3.1), (Vi .i64 b3)] 119]) (L2 := [blk b1 [(str a2.1), (str b2.2), (str b5.1), (Vi .i64 a2.2.2.2.1), (Vs a4 a2.2.2.2.2.1.length a5), (Vs a6 a2.2.2.2.2.2.length a7)] 68, rwt aaa 46 3 a9 a4 a5 a2.2.2.2.2.1, rwt aaa 46 3 b0 a6 a7 a2.2.2.2.2.2])) (d3.highs hG hS 1 rfl)) ?_)))
  rintro _ i2 ⟨rfl, e8⟩
  have b9 : Hp w (aaj [blk a8 [(str a3.1), (Vi .i64 a3.2)] 119, blk b1 [(str a2.1), (str a2.2.1), (str a2.2.2.1), (Vi .i64 a2.2.2.2.1), (Vs a4 a2.2.2.2.2.1.length a5), (Vs a6 a2.2.2.2.2.2.length a7)] 68, rwt aaa 46 3 a9 a4 a5 a2.2.2.2.2.1, rwt aaa 46 3 b0 a6 a7 a2.2.2.2.2.2]) [blk a8 [(str a3.1), (Vi .i64 b3)] 119, blk b1 [(str a2.1), (str b2.2), (str b5.1), (Vi .i64 a2.2.2.2.1), (Vs a4 a2.2.2.2.2.1.length a5), (Vs a6 a2.2.2.2.2.2.length a7)] 68, rwt aaa 46 3 a9 a4 a5 a2.2.2.2.2.1, rwt aaa 46 3 b0 a6 a7 a2.2.2.2.2.2] i2 := Hp.callK (L1 := [blk a8 [(str a3.1), (Vi .i64 b3)] 119]) (L2 := [blk b1 [(str a2.1), (str b2.2), (str b5.1), (Vi .i64 a2.2.2.2.1), (Vs a4 a2.2.2.2.2.1.length a5), (Vs a6 a2.2.2.2.2.2.length a7)] 68, rwt aaa 46 3 a9 a4 a5 a2.2.2.2.2.1, rwt aaa 46 3 b0 a6 a7 a2.2.2.2.2.2]) d3 e8; clear e8
  refine nq (cb hr (fun i3 hr => ?_) (fun i3 hr => ?_))
  refine sr (wp 3 (aav b9 0 a8 1 [(str a3.1), (Vi .i64 b3)] 119 (Vi .i64 b3) rfl rfl (by kernel_rfl) (by kernel_rfl) (gi hr fun i4 hr => aac b3 (1 : Int) (by kernel_rfl) (by kernel_rfl) i4 (wp 2 (aeu b9 0 a8 1 [(str a3.1), (Vi .i64 b3)] 119 (Vi .i64 (b3 + (1 : Int))) [blk a8 [(str a3.1), (Vi .i64 (b3 + (1 : Int)))] 119, blk b1 [(str a2.1), (str b2.2), (str b5.1), (Vi .i64 a2.2.2.2.1), (Vs a4 a2.2.2.2.2.1.length a5), (Vs a6 a2.2.2.2.2.2.length a7)] 68, rwt aaa 46 3 a9 a4 a5 a2.2.2.2.2.1, rwt aaa 46 3 b0 a6 a7 a2.2.2.2.2.2] rfl (Nat.lt_of_lt_of_le (Nat.lt_succ_self _) (Nat.le_of_ble_eq_true rfl)) (by kernel_rfl) (by kernel_rfl) rfl (by kernel_rfl) rfl fun m4 i5 => nq ?_)))))
  refine cs (bi hr fun d9 i6 hr => adm 13 (fun j_ w_ w_' => abv [13, 14] (fun w' => w'.heap[a8]? = some (.cells [(str a3.1), (Vi .i64 (b3 + (1 : Int)))].toArray 119 (0, 0))) j_ w_ w_' ∧ abv [12, 13, 14] (fun w' => w'.heap[a8]? = some (.cells [(str a3.1), (Vi .i64 (b3 + (1 : Int)))].toArray 119 (0, 0))) j_ w_ w_' ∧ True) [false, false, false, false, false, false, false, false, false, false, false, false, false, false, false] (fun _ _ => ⟨abv.same, abv.same, trivial⟩) (by kernel_rfl) (by kernel_rfl) i5 rfl (adb (adb acf)) fun m5 c4 => rp 10 [0, 1, 2] (aag [true, true, true, true, false, false, false, false, false, false, false, false, false, false, false] 3 136 (Vi .i64 (b3 + (1 : Int))) [13, 14] (fun _ _ _ h => h.1) _ rfl rfl (by kernel_rfl) (by kernel_rfl) (by kernel_rfl) (by kernel_rfl) (by kernel_rfl) rfl (aai rfl (by intro w hS_; exact (afx a8 1 [(str a3.1), (Vi .i64 (b3 + (1 : Int)))] 119 (Vi .i64 (b3 + (1 : Int))) hS_ rfl (by kernel_rfl) (by kernel_rfl)))) (by exact c4.blkAt 0 rfl) (rp 6 [4, 5, 6] (aag [true, true, true, true, true, true, true, true, false, false, false, false, false, false, false] 7 140 (Value.agg #[(str a3.1)]) [12, 13, 14] (fun _ _ _ h => h.2.1) _ rfl rfl (by kernel_rfl) (by kernel_rfl) (by kernel_rfl) (by kernel_rfl) (by kernel_rfl) rfl (aai rfl (by intro w hS_; exact (x_ldN a8 0 1 [(str a3.1), (Vi .i64 (b3 + (1 : Int)))] [(str a3.1)] 119 hS_ rfl rfl (by kernel_rfl) (by kernel_rfl) (by kernel_rfl)))) (by exact c4.blkAt 0 rfl) (rp 2 [8, 9, 10] (aag [true, true, true, true, true, true, true, true, true, true, true, true, false, false, false] 11 144 (Vi .i64 (b3 + (1 : Int))) [12, 13, 14] (fun _ _ _ h => h.2.1) _ rfl rfl (by kernel_rfl) (by kernel_rfl) (by kernel_rfl) (by kernel_rfl) (by kernel_rfl) rfl (aai rfl (by intro w hS_; exact (afx a8 1 [(str a3.1), (Vi .i64 (b3 + (1 : Int)))] 119 (Vi .i64 (b3 + (1 : Int))) hS_ rfl (by kernel_rfl) (by kernel_rfl)))) (by exact c4.blkAt 0 rfl) (ro 12 rfl ?_)))))))
  refine wc ent177 c4 (acj i6 (hG.hp c4 hS)) fun m6 d4 => wl (abk (by exact ⟨abv.new (d4.blkAt 0 rfl), abv.out rfl, trivial⟩) (acw (by kernel_rfl) (wp 2 (nq (sr (wp 4 ?_))))))
  refine aav d4 0 a8 0 [(str a3.1), (Vi .i64 (b3 + (1 : Int)))] 119 (str a3.1) rfl rfl (by kernel_rfl) (by kernel_rfl) (wp 2 (gi hr fun i7 hr => amd a3.1 .i64 .i64 (b3 + (1 : Int)) d9 Tryz.underlying9 (by kernel_rfl) (by kernel_rfl) (by kernel_rfl) i7 (bi hr fun d5 i9 hr => wc ent58 d4 (ajw i9 (hG.hp d4 hS)) fun m7 c5 => wp 5 (nq (bi hr fun e0 c0 hr => agq c5 [0, 1, 4, 5, 10, 11, 14, 15] [(15, (bt e0))] ?_ ?_)))))
  refine bi c0 fun j0 b8 c0 => agq c5 [0, 1, 4, 5, 10, 11, 14, 15, 167] [(167, (Vb j0))] ?_ ?_
  refine cr (wp 1 (ack d5.2 (0 : UInt8) (by kernel_rfl) (by kernel_rfl) (wd b8 (fun j1 b8 => ?_) (fun j1 b8 => ?_))))
  refine wp 2 (gy 160 (wd b8 (fun j2 b8 => ?_) (fun j2 b8 => ?_)))
  refine wp 4 (wl (ql ?_))
  obtain rfl := oi b8
  exact je (Hp.front (Hp.front (Hp.front (Hp.front c5 3 _ rfl) 3 _ rfl) 3 _ rfl) 3 _ rfl).kp
  refine wp 4 (wl (ql ?_))
  obtain rfl := oi b8
  exact je (Hp.front (Hp.front (Hp.front (Hp.front c5 3 _ rfl) 3 _ rfl) 3 _ rfl) 3 _ rfl).kp
  refine wp 7 (wl (ql ?_))
  obtain rfl := oi b8
  exact je (Hp.front (Hp.front (Hp.front (Hp.front c5 3 _ rfl) 3 _ rfl) 3 _ rfl) 3 _ rfl).kp
  intro m8 G e9
  refine cb c0 (fun j3 c0 => ?_) (fun j3 c0 => ?_)
  refine cr (wp 1 (wl (ql ?_)))
  obtain rfl := oi c0
  exact je (Hp.front (Hp.front (Hp.front (Hp.front e9 3 _ rfl) 3 _ rfl) 3 _ rfl) 3 _ rfl).kp
  refine ck (ql ?_)
  obtain rfl := oi c0
  exact je (Hp.front (Hp.front (Hp.front (Hp.front e9 3 _ rfl) 3 _ rfl) 3 _ rfl) 3 _ rfl).kp
  intro m9 G f0
  refine cs (sr (wp 1 (aec e0 (0 : UInt8) (by kernel_rfl) (by kernel_rfl) (nq (cn hr (fun j4 hr => ?_) (fun j4 hr => ?_))))))
  refine sr (wp 4 (nq (ct (st (st ?_)))))
  obtain rfl := oi hr
  refine ajc (Vi .i64 (b3 + (1 : Int))) (bt e0) rfl (by kernel_rfl) (by kernel_rfl) ?_
  exact ⟨a9, a4, a5, b0, a6, a7, (by first | rfl | (simp; done) | (simp; omega)), (Hp.front (Hp.front (Hp.front (Hp.front f0 3 _ rfl) 3 _ rfl) 3 _ rfl) 3 _ rfl).kp⟩
  refine ck (qn (sr (wp 6 (aeu f0 1 b1 3 [(str a2.1), (str b2.2), (str b5.1), (Vi .i64 a2.2.2.2.1), (Vs a4 a2.2.2.2.2.1.length a5), (Vs a6 a2.2.2.2.2.2.length a7)] 68 (Vi .i64 d5.1) [blk a8 [(str a3.1), (Vi .i64 (b3 + (1 : Int)))] 119, blk b1 [(str a2.1), (str b2.2), (str b5.1), (Vi .i64 d5.1), (Vs a4 a2.2.2.2.2.1.length a5), (Vs a6 a2.2.2.2.2.2.length a7)] 68, rwt aaa 46 3 a9 a4 a5 a2.2.2.2.2.1, rwt aaa 46 3 b0 a6 a7 a2.2.2.2.2.2] rfl (Nat.lt_of_lt_of_le (Nat.lt_succ_self _) (Nat.le_of_ble_eq_true rfl)) (by kernel_rfl) (by kernel_rfl) rfl (by kernel_rfl) rfl fun n0 j5 => wp 2 (aeu j5 0 a8 1 [(str a3.1), (Vi .i64 (b3 + (1 : Int)))] 119 (Vi .i64 d9) [blk a8 [(str a3.1), (Vi .i64 d9)] 119, blk b1 [(str a2.1), (str b2.2), (str b5.1), (Vi .i64 d5.1), (Vs a4 a2.2.2.2.2.1.length a5), (Vs a6 a2.2.2.2.2.2.length a7)] 68, rwt aaa 46 3 a9 a4 a5 a2.2.2.2.2.1, rwt aaa 46 3 b0 a6 a7 a2.2.2.2.2.2] rfl (Nat.lt_of_lt_of_le (Nat.lt_succ_self _) (Nat.le_of_ble_eq_true rfl)) (by kernel_rfl) (by kernel_rfl) rfl (by kernel_rfl) rfl fun n1 j6 => nq ?_)))))
  refine sr (wp 2 (nq (ct (st ?_))))
  obtain rfl := oi hr
  refine ajc (Vi .i64 (0 : Int)) (bt (0 : UInt8)) rfl (by kernel_rfl) (by kernel_rfl) ?_
  exact ⟨a9, a4, a5, b0, a6, a7, (by first | rfl | (simp; done) | (simp; omega)), (Hp.front (Hp.front (Hp.front (Hp.front j6 3 _ rfl) 3 _ rfl) 3 _ rfl) 3 _ rfl).kp⟩
  refine ck (qn (cs (bi hr fun j7 b6 hr => agq b9 [0, 4, 5, 192] [(192, (Vb j7))] ?_ ?_)))
  refine cr (wp 1 (bi b6 fun n2 j8 b6 => aad 112 #[] [(Vp (some ⟨a8, 0, none⟩))] _ ent112 (by kernel_rfl) (by kernel_rfl) (aes a8 j8 (hG.hp b9 hS) (b9.hand (L1 := [blk a8 [(str a3.1), (Vi .i64 b3)] 119]) (L2 := [blk b1 [(str a2.1), (str b2.2), (str b5.1), (Vi .i64 a2.2.2.2.1), (Vs a4 a2.2.2.2.2.1.length a5), (Vs a6 a2.2.2.2.2.2.length a7)] 68, rwt aaa 46 3 a9 a4 a5 a2.2.2.2.2.1, rwt aaa 46 3 b0 a6 a7 a2.2.2.2.2.2])) (b9.highs hG hS 1 rfl)) ?_))
  rintro _ j9 ⟨rfl, f1⟩
  have c6 : Hp w (aaj [blk a8 [(str a3.1), (Vi .i64 a3.2)] 119, blk b1 [(str a2.1), (str a2.2.1), (str a2.2.2.1), (Vi .i64 a2.2.2.2.1), (Vs a4 a2.2.2.2.2.1.length a5), (Vs a6 a2.2.2.2.2.2.length a7)] 68, rwt aaa 46 3 a9 a4 a5 a2.2.2.2.2.1, rwt aaa 46 3 b0 a6 a7 a2.2.2.2.2.2]) [blk a8 [(str a3.1), (Vi .i64 b3)] 119, blk b1 [(str a2.1), (str b2.2), (str b5.1), (Vi .i64 a2.2.2.2.1), (Vs a4 a2.2.2.2.2.1.length a5), (Vs a6 a2.2.2.2.2.2.length a7)] 68, rwt aaa 46 3 a9 a4 a5 a2.2.2.2.2.1, rwt aaa 46 3 b0 a6 a7 a2.2.2.2.2.2] j9 := Hp.callK (L1 := [blk a8 [(str a3.1), (Vi .i64 b3)] 119]) (L2 := [blk b1 [(str a2.1), (str b2.2), (str b5.1), (Vi .i64 a2.2.2.2.1), (Vs a4 a2.2.2.2.2.1.length a5), (Vs a6 a2.2.2.2.2.2.length a7)] 68, rwt aaa 46 3 a9 a4 a5 a2.2.2.2.2.1, rwt aaa 46 3 b0 a6 a7 a2.2.2.2.2.2]) b9 f1; clear f1
  refine wp 1 (wb b6 (fun k0 b6 => ?_) (fun k0 b6 => ?_))
  refine wp 1 (gy 183 (bi b6 fun n3 k1 b6 => aad 113 #[] [(Vp (some ⟨a8, 0, none⟩)), (bt (59 : UInt8))] _ als (by kernel_rfl) (by kernel_rfl) (aar a8 k1 (hG.hp c6 hS) (c6.hand (L1 := [blk a8 [(str a3.1), (Vi .i64 b3)] 119]) (L2 := [blk b1 [(str a2.1), (str b2.2), (str b5.1), (Vi .i64 a2.2.2.2.1), (Vs a4 a2.2.2.2.2.1.length a5), (Vs a6 a2.2.2.2.2.2.length a7)] 68, rwt aaa 46 3 a9 a4 a5 a2.2.2.2.2.1, rwt aaa 46 3 b0 a6 a7 a2.2.2.2.2.2])) (c6.highs hG hS 1 rfl)) ?_))
  rintro _ k2 ⟨rfl, f2⟩
  have c7 : Hp w (aaj [blk a8 [(str a3.1), (Vi .i64 a3.2)] 119, blk b1 [(str a2.1), (str a2.2.1), (str a2.2.2.1), (Vi .i64 a2.2.2.2.1), (Vs a4 a2.2.2.2.2.1.length a5), (Vs a6 a2.2.2.2.2.2.length a7)] 68, rwt aaa 46 3 a9 a4 a5 a2.2.2.2.2.1, rwt aaa 46 3 b0 a6 a7 a2.2.2.2.2.2]) [blk a8 [(str a3.1), (Vi .i64 b3)] 119, blk b1 [(str a2.1), (str b2.2), (str b5.1), (Vi .i64 a2.2.2.2.1), (Vs a4 a2.2.2.2.2.1.length a5), (Vs a6 a2.2.2.2.2.2.length a7)] 68, rwt aaa 46 3 a9 a4 a5 a2.2.2.2.2.1, rwt aaa 46 3 b0 a6 a7 a2.2.2.2.2.2] k2 := Hp.callK (L1 := [blk a8 [(str a3.1), (Vi .i64 b3)] 119]) (L2 := [blk b1 [(str a2.1), (str b2.2), (str b5.1), (Vi .i64 a2.2.2.2.1), (Vs a4 a2.2.2.2.2.1.length a5), (Vs a6 a2.2.2.2.2.2.length a7)] 68, rwt aaa 46 3 a9 a4 a5 a2.2.2.2.2.1, rwt aaa 46 3 b0 a6 a7 a2.2.2.2.2.2]) c6 f2; clear f2
  refine wp 2 (wb b6 (fun k3 b6 => ?_) (fun k3 b6 => ?_))
  refine wp 1 (gy 188 (bi b6 fun n4 k4 b6 => aad 113 #[] [(Vp (some ⟨a8, 0, none⟩)), (bt (63 : UInt8))] _ als (by kernel_rfl) (by kernel_rfl) (aar a8 k4 (hG.hp c7 hS) (c7.hand (L1 := [blk a8 [(str a3.1), (Vi .i64 b3)] 119]) (L2 := [blk b1 [(str a2.1), (str b2.2), (str b5.1), (Vi .i64 a2.2.2.2.1), (Vs a4 a2.2.2.2.2.1.length a5), (Vs a6 a2.2.2.2.2.2.length a7)] 68, rwt aaa 46 3 a9 a4 a5 a2.2.2.2.2.1, rwt aaa 46 3 b0 a6 a7 a2.2.2.2.2.2])) (c7.highs hG hS 1 rfl)) ?_))
  rintro _ k5 ⟨rfl, f3⟩
  have k6 : Hp w (aaj [blk a8 [(str a3.1), (Vi .i64 a3.2)] 119, blk b1 [(str a2.1), (str a2.2.1), (str a2.2.2.1), (Vi .i64 a2.2.2.2.1), (Vs a4 a2.2.2.2.2.1.length a5), (Vs a6 a2.2.2.2.2.2.length a7)] 68, rwt aaa 46 3 a9 a4 a5 a2.2.2.2.2.1, rwt aaa 46 3 b0 a6 a7 a2.2.2.2.2.2]) [blk a8 [(str a3.1), (Vi .i64 b3)] 119, blk b1 [(str a2.1), (str b2.2), (str b5.1), (Vi .i64 a2.2.2.2.1), (Vs a4 a2.2.2.2.2.1.length a5), (Vs a6 a2.2.2.2.2.2.length a7)] 68, rwt aaa 46 3 a9 a4 a5 a2.2.2.2.2.1, rwt aaa 46 3 b0 a6 a7 a2.2.2.2.2.2] k5 := Hp.callK (L1 := [blk a8 [(str a3.1), (Vi .i64 b3)] 119]) (L2 := [blk b1 [(str a2.1), (str b2.2), (str b5.1), (Vi .i64 a2.2.2.2.1), (Vs a4 a2.2.2.2.2.1.length a5), (Vs a6 a2.2.2.2.2.2.length a7)] 68, rwt aaa 46 3 a9 a4 a5 a2.2.2.2.2.1, rwt aaa 46 3 b0 a6 a7 a2.2.2.2.2.2]) c7 f3; clear f3
  refine wp 2 (wl (ql ?_))
  obtain rfl := oi b6
  exact je (Hp.front (Hp.front (Hp.front (Hp.front k6 3 _ rfl) 3 _ rfl) 3 _ rfl) 3 _ rfl).kp
  refine wp 4 (wl (ql ?_))
  obtain rfl := oi b6
  exact je (Hp.front (Hp.front (Hp.front (Hp.front c7 3 _ rfl) 3 _ rfl) 3 _ rfl) 3 _ rfl).kp
  refine wp 9 (wl (ql ?_))
  obtain rfl := oi b6
  exact je (Hp.front (Hp.front (Hp.front (Hp.front c6 3 _ rfl) 3 _ rfl) 3 _ rfl) 3 _ rfl).kp
  intro n5 G e1
  refine cb hr (fun k7 hr => ?_) (fun k7 hr => ?_)
  refine sr (wp 3 (aav e1 0 a8 1 [(str a3.1), (Vi .i64 b3)] 119 (Vi .i64 b3) rfl rfl (by kernel_rfl) (by kernel_rfl) (wp 2 (nq (ct (st ?_))))))
  obtain rfl := oi hr
  refine ajc (Vi .i64 b3) (bt (5 : UInt8)) rfl (by kernel_rfl) (by kernel_rfl) ?_
  exact ⟨a9, a4, a5, b0, a6, a7, (by first | rfl | (simp; done) | (simp; omega)), (Hp.front (Hp.front (Hp.front (Hp.front e1 3 _ rfl) 3 _ rfl) 3 _ rfl) 3 _ rfl).kp⟩
  refine ck (qn (sr (wp 2 (nq (ct ?_)))))
  obtain rfl := oi hr
  refine ajc (Vi .i64 (0 : Int)) (bt (0 : UInt8)) rfl (by kernel_rfl) (by kernel_rfl) ?_
  exact ⟨a9, a4, a5, b0, a6, a7, (by first | rfl | (simp; done) | (simp; omega)), (Hp.front (Hp.front (Hp.front (Hp.front e1 3 _ rfl) 3 _ rfl) 3 _ rfl) 3 _ rfl).kp⟩
theorem amx {fu : Nat} {a3 : (Str × Int)} {a2 : (Str × Str × Str × Int × (List (Str × Str × Bool)) × (List (Str × Str × Bool)))} (a8 : Nat) (b0 : Nat) (b1 : Option Nat) (a4 : Option Addr) (a5 : Nat) (b2 : Option Nat) (a6 : Option Addr) (a7 : Nat) {w : World} {r : (Int × UInt8 × (Str × Int) × (Str × Str × Str × Int × (List (Str × Str × Bool)) × (List (Str × Str × Bool))))} (hr : aia fu a3 a2 = some r) (hG : Gl w) (hM : Hp w (aaj [blk a8 [(str a3.1), (Vi .i64 a3.2)] 119, blk b0 [(str a2.1), (str a2.2.1), (str a2.2.2.1), (Vi .i64 a2.2.2.2.1), (Vs a4 a2.2.2.2.2.1.length a5), (Vs a6 a2.2.2.2.2.2.length a7)] 68, rwt aaa 46 3 b1 a4 a5 a2.2.2.2.2.1, rwt aaa 46 3 b2 a6 a7 a2.2.2.2.2.2]) [blk a8 [(str a3.1), (Vi .i64 a3.2)] 119, blk b0 [(str a2.1), (str a2.2.1), (str a2.2.2.1), (Vi .i64 a2.2.2.2.1), (Vs a4 a2.2.2.2.2.1.length a5), (Vs a6 a2.2.2.2.2.2.length a7)] 68, rwt aaa 46 3 b1 a4 a5 a2.2.2.2.2.1, rwt aaa 46 3 b2 a6 a7 a2.2.2.2.2.2] w) (hS : ∀ b ∈ aaj [blk a8 [(str a3.1), (Vi .i64 a3.2)] 119, blk b0 [(str a2.1), (str a2.2.1), (str a2.2.2.1), (Vi .i64 a2.2.2.2.1), (Vs a4 a2.2.2.2.2.1.length a5), (Vs a6 a2.2.2.2.2.2.length a7)] 68, rwt aaa 46 3 b1 a4 a5 a2.2.2.2.2.1, rwt aaa 46 3 b2 a6 a7 a2.2.2.2.2.2], 9 ≤ b) : CR Tryz.prog 230 [(Vp (some ⟨a8, 0, none⟩)), (Vp (some ⟨b0, 0, none⟩))] w fun v w' => ∃ (o0 : Option Nat), ∃ (a0 : Option Addr), ∃ (cap0 : Nat), ∃ (o1 : Option Nat), ∃ (a1 : Option Addr), ∃ (cap1 : Nat), v = (Value.tuple #[(Vi .i64 r.1), (bt r.2.1)]) ∧ Hp w (aaj [blk a8 [(str a3.1), (Vi .i64 a3.2)] 119, blk b0 [(str a2.1), (str a2.2.1), (str a2.2.2.1), (Vi .i64 a2.2.2.2.1), (Vs a4 a2.2.2.2.2.1.length a5), (Vs a6 a2.2.2.2.2.2.length a7)] 68, rwt aaa 46 3 b1 a4 a5 a2.2.2.2.2.1, rwt aaa 46 3 b2 a6 a7 a2.2.2.2.2.2]) [blk a8 [(str r.2.2.1.1), (Vi .i64 r.2.2.1.2)] 119, blk b0 [(str r.2.2.2.1), (str r.2.2.2.2.1), (str r.2.2.2.2.2.1), (Vi .i64 r.2.2.2.2.2.2.1), (Vs a0 r.2.2.2.2.2.2.2.1.length cap0), (Vs a1 r.2.2.2.2.2.2.2.2.length cap1)] 68, rwt aaa 46 3 o0 a0 cap0 r.2.2.2.2.2.2.2.1, rwt aaa 46 3 o1 a1 cap1 r.2.2.2.2.2.2.2.2] w' := by
  have hH : Hp w (aaj [blk a8 [(str a3.1), (Vi .i64 a3.2)] 119, blk b0 [(str a2.1), (str a2.2.1), (str a2.2.2.1), (Vi .i64 a2.2.2.2.1), (Vs a4 a2.2.2.2.2.1.length a5), (Vs a6 a2.2.2.2.2.2.length a7)] 68, rwt aaa 46 3 b1 a4 a5 a2.2.2.2.2.1, rwt aaa 46 3 b2 a6 a7 a2.2.2.2.2.2]) [blk a8 [(str a3.1), (Vi .i64 a3.2)] 119, blk b0 [(str a2.1), (str a2.2.1), (str a2.2.2.1), (Vi .i64 a2.2.2.2.1), (Vs a4 a2.2.2.2.2.1.length a5), (Vs a6 a2.2.2.2.2.2.length a7)] 68, rwt aaa 46 3 b1 a4 a5 a2.2.2.2.2.1, rwt aaa 46 3 b2 a6 a7 a2.2.2.2.2.2] w := hM
  refine enter (k := 115) Tryz.func230 rfl rfl (Nat.le_of_ble_eq_true rfl) ?_
  unfold aia at hr
  refine sr (wp 2 (nq (sr (wp 3 (aav hH 0 a8 1 [(str a3.1), (Vi .i64 a3.2)] 119 (Vi .i64 a3.2) rfl rfl (by kernel_rfl) (by kernel_rfl) (wp 1 ?_))))))
  refine nq (sr (wp 3 (akx hH 0 a8 0 1 [(str a3.1), (Vi .i64 a3.2)] [(str a3.1)] 119 rfl rfl rfl (by kernel_rfl) (by kernel_rfl) (by kernel_rfl) (wp 1 (bi hr fun y1 g2 hr => wc ent177 hH (acj g2 (hG.hp hH hS)) fun w3 d7 => wp 1 ?_)))))
  refine nq (sr (wp 1 (nq (sr (wp 1 ?_)))))
  refine bi hr fun y6 g3 hr => aad 113 #[] [(Vp (some ⟨a8, 0, none⟩)), (bt (43 : UInt8))] _ als (by kernel_rfl) (by kernel_rfl) (aar a8 g3 (hG.hp d7 hS) (d7.hand (L1 := [blk a8 [(str a3.1), (Vi .i64 a3.2)] 119]) (L2 := [blk b0 [(str a2.1), (str a2.2.1), (str a2.2.2.1), (Vi .i64 a2.2.2.2.1), (Vs a4 a2.2.2.2.2.1.length a5), (Vs a6 a2.2.2.2.2.2.length a7)] 68, rwt aaa 46 3 b1 a4 a5 a2.2.2.2.2.1, rwt aaa 46 3 b2 a6 a7 a2.2.2.2.2.2])) (d7.highs hG hS 1 rfl)) ?_
  rintro _ w8 ⟨rfl, f1⟩
  have f2 : Hp w (aaj [blk a8 [(str a3.1), (Vi .i64 a3.2)] 119, blk b0 [(str a2.1), (str a2.2.1), (str a2.2.2.1), (Vi .i64 a2.2.2.2.1), (Vs a4 a2.2.2.2.2.1.length a5), (Vs a6 a2.2.2.2.2.2.length a7)] 68, rwt aaa 46 3 b1 a4 a5 a2.2.2.2.2.1, rwt aaa 46 3 b2 a6 a7 a2.2.2.2.2.2]) [blk a8 [(str a3.1), (Vi .i64 a3.2)] 119, blk b0 [(str a2.1), (str a2.2.1), (str a2.2.2.1), (Vi .i64 a2.2.2.2.1), (Vs a4 a2.2.2.2.2.1.length a5), (Vs a6 a2.2.2.2.2.2.length a7)] 68, rwt aaa 46 3 b1 a4 a5 a2.2.2.2.2.1, rwt aaa 46 3 b2 a6 a7 a2.2.2.2.2.2] w8 := Hp.callK (L1 := [blk a8 [(str a3.1), (Vi .i64 a3.2)] 119]) (L2 := [blk b0 [(str a2.1), (str a2.2.1), (str a2.2.2.1), (Vi .i64 a2.2.2.2.1), (Vs a4 a2.2.2.2.2.1.length a5), (Vs a6 a2.2.2.2.2.2.length a7)] 68, rwt aaa 46 3 b1 a4 a5 a2.2.2.2.2.1, rwt aaa 46 3 b2 a6 a7 a2.2.2.2.2.2]) d7 f1; clear f1
  refine wp 1 (nq (bi hr fun g4 b9 hr => cut (σ := ((List UInt8) × Int) × (Option Nat) × (Option Addr) × Nat) [0, 1, 4, 5, 6, 7, 8, 9] (fun ⟨c0, d8, d2, d3⟩ => [(8, (Vs d2 c0.1.length d3))]) (fun ⟨c0, d8, d2, d3⟩ w' => Hp w (aaj [blk a8 [(str a3.1), (Vi .i64 a3.2)] 119, blk b0 [(str a2.1), (str a2.2.1), (str a2.2.2.1), (Vi .i64 a2.2.2.2.1), (Vs a4 a2.2.2.2.2.1.length a5), (Vs a6 a2.2.2.2.2.2.length a7)] 68, rwt aaa 46 3 b1 a4 a5 a2.2.2.2.2.1, rwt aaa 46 3 b2 a6 a7 a2.2.2.2.2.2]) [blk a8 [(str a3.1), (Vi .i64 c0.2)] 119, blk b0 [(str a2.1), (str a2.2.1), (str a2.2.2.1), (Vi .i64 a2.2.2.2.1), (Vs a4 a2.2.2.2.2.1.length a5), (Vs a6 a2.2.2.2.2.2.length a7)] 68, rwt aaa 46 3 b1 a4 a5 a2.2.2.2.2.1, rwt aaa 46 3 b2 a6 a7 a2.2.2.2.2.2, rwt eB 5 1 d8 d2 d3 c0.1] w' ∧ c0 = g4) ?_ ?_))
  refine sr (wp 1 (nq (cb b9 (fun g5 b9 => ?_) (fun g5 b9 => ?_))))
  refine sr (wp 1 (adl f2 [(bt (43 : UInt8))] 5 (fun b => (Vs (some ⟨b, 0, none⟩) 1 1)) rfl rfl (by kernel_rfl) fun d4 g6 g7 => ?_))
  have d9 := g7.nilrw eB 5 1 none
  replace d9 : Hp w (aaj [blk a8 [(str a3.1), (Vi .i64 a3.2)] 119, blk b0 [(str a2.1), (str a2.2.1), (str a2.2.2.1), (Vi .i64 a2.2.2.2.1), (Vs a4 a2.2.2.2.2.1.length a5), (Vs a6 a2.2.2.2.2.2.length a7)] 68, rwt aaa 46 3 b1 a4 a5 a2.2.2.2.2.1, rwt aaa 46 3 b2 a6 a7 a2.2.2.2.2.2]) [rwt eB 5 1 none none 0 ([] : List UInt8), blk d4 [(bt (43 : UInt8))] 5, blk a8 [(str a3.1), (Vi .i64 a3.2)] 119, blk b0 [(str a2.1), (str a2.2.1), (str a2.2.2.1), (Vi .i64 a2.2.2.2.1), (Vs a4 a2.2.2.2.2.1.length a5), (Vs a6 a2.2.2.2.2.2.length a7)] 68, rwt aaa 46 3 b1 a4 a5 a2.2.2.2.2.1, rwt aaa 46 3 b2 a6 a7 a2.2.2.2.2.2] g6 := d9
  refine gi b9 fun g8 b9 => adw d9 0 none none (some ⟨d4, 0, none⟩) 0 1 5 1 1 ([] : List UInt8) ([(43 : UInt8)] : List UInt8) aks rfl Tryz.underlying92 (by unfold TI; kernel_rfl) (by decide) (by decide) (Eq.trans (b := (Vs none 0 0)) (by kernel_rfl) (aae (by first | rfl | (simp; done) | omega | (simp; omega) | (rw [List.length_take]; omega)))) (Eq.trans (b := (Vs (some ⟨d4, 0, none⟩) 1 1)) (by kernel_rfl) (aae (by first | rfl | (simp; done) | omega | (simp; omega) | (rw [List.length_take]; omega)))) (d9.rdblk 1 rfl) g8 fun e3 e4 e5 g9 e0 => ?_
  replace e0 : Hp w (aaj [blk a8 [(str a3.1), (Vi .i64 a3.2)] 119, blk b0 [(str a2.1), (str a2.2.1), (str a2.2.2.1), (Vi .i64 a2.2.2.2.1), (Vs a4 a2.2.2.2.2.1.length a5), (Vs a6 a2.2.2.2.2.2.length a7)] 68, rwt aaa 46 3 b1 a4 a5 a2.2.2.2.2.1, rwt aaa 46 3 b2 a6 a7 a2.2.2.2.2.2]) [rwt eB 5 1 e3 e4 e5 (([] : List UInt8) ++ ([(43 : UInt8)] : List UInt8)), blk d4 [(bt (43 : UInt8))] 5, blk a8 [(str a3.1), (Vi .i64 a3.2)] 119, blk b0 [(str a2.1), (str a2.2.1), (str a2.2.2.1), (Vi .i64 a2.2.2.2.1), (Vs a4 a2.2.2.2.2.1.length a5), (Vs a6 a2.2.2.2.2.2.length a7)] 68, rwt aaa 46 3 b1 a4 a5 a2.2.2.2.2.1, rwt aaa 46 3 b2 a6 a7 a2.2.2.2.2.2] g9 := e0
  refine wp 1 (nq (cr (wp 3 (aav e0 2 a8 1 [(str a3.1), (Vi .i64 a3.2)] 119 (Vi .i64 a3.2) rfl rfl (by kernel_rfl) (by kernel_rfl) (gi b9 fun h0 b9 => aac a3.2 (1 : Int) (by kernel_rfl) (by kernel_rfl) h0 (wp 2 (aeu e0 2 a8 1 [(str a3.1), (Vi .i64 a3.2)] 119 (Vi .i64 (a3.2 + (1 : Int))) [rwt eB 5 1 e3 e4 e5 (([] : List UInt8) ++ ([(43 : UInt8)] : List UInt8)), blk d4 [(bt (43 : UInt8))] 5, blk a8 [(str a3.1), (Vi .i64 (a3.2 + (1 : Int)))] 119, blk b0 [(str a2.1), (str a2.2.1), (str a2.2.2.1), (Vi .i64 a2.2.2.2.1), (Vs a4 a2.2.2.2.2.1.length a5), (Vs a6 a2.2.2.2.2.2.length a7)] 68, rwt aaa 46 3 b1 a4 a5 a2.2.2.2.2.1, rwt aaa 46 3 b2 a6 a7 a2.2.2.2.2.2] rfl (Nat.lt_of_lt_of_le (Nat.lt_succ_self _) (Nat.le_of_ble_eq_true rfl)) (by kernel_rfl) (by kernel_rfl) rfl (by kernel_rfl) rfl fun j8 h1 => ?_)))))))
  refine wl (ql ?_)
  obtain rfl := oi b9
  exact ⟨((([] : List UInt8) ++ ([(43 : UInt8)] : List UInt8), a3.2 + (1 : Int)), e3, e4, e5), _, rfl, by kernel_rfl, (Hp.front (Hp.front (Hp.front (Hp.front h1 5 _ rfl) 5 _ rfl) 5 _ rfl) 5 _ rfl).kp, rfl⟩
  refine ck (ql ?_)
  obtain rfl := oi b9
  exact ⟨((([] : List UInt8), a3.2), none, none, 0), _, rfl, (mc (by kernel_rfl) (mc (by kernel_rfl) (mc (by kernel_rfl) (mc (by kernel_rfl) (mc (by kernel_rfl) (mc (by kernel_rfl) (mc (Eq.trans (b := (Vs none 0 0)) (by kernel_rfl) (aae (by (try simp only [List.length_set]) <;> first | rfl | omega | simp))) (mc (by kernel_rfl) rfl)))))))), (Hp.front (Hp.front (Hp.front (Hp.front (Hp.nilrw f2 eB 5 1 none) 4 _ rfl) 4 _ rfl) 4 _ rfl) 4 _ rfl).kp, rfl⟩
  rintro ⟨c0, d8, d2, d3⟩ j9 G ⟨h2, rfl⟩
  refine bi hr fun f3 h3 hr => cut (σ := ((List UInt8) × Int) × (Option Nat) × (Option Addr) × Nat) [1, 4, 5, 6, 8] (fun ⟨b3, e1, c5, c6⟩ => [(8, (Vs c5 b3.1.length c6))]) (fun ⟨b3, e1, c5, c6⟩ w' => Hp w (aaj [blk a8 [(str a3.1), (Vi .i64 a3.2)] 119, blk b0 [(str a2.1), (str a2.2.1), (str a2.2.2.1), (Vi .i64 a2.2.2.2.1), (Vs a4 a2.2.2.2.2.1.length a5), (Vs a6 a2.2.2.2.2.2.length a7)] 68, rwt aaa 46 3 b1 a4 a5 a2.2.2.2.2.1, rwt aaa 46 3 b2 a6 a7 a2.2.2.2.2.2]) [blk a8 [(str a3.1), (Vi .i64 b3.2)] 119, blk b0 [(str a2.1), (str a2.2.1), (str a2.2.2.1), (Vi .i64 a2.2.2.2.1), (Vs a4 a2.2.2.2.2.1.length a5), (Vs a6 a2.2.2.2.2.2.length a7)] 68, rwt aaa 46 3 b1 a4 a5 a2.2.2.2.2.1, rwt aaa 46 3 b2 a6 a7 a2.2.2.2.2.2, rwt eB 5 1 e1 c5 c6 b3.1] w' ∧ .inl b3 = f3) ?_ ?_
  refine ce (lpG (σ := Nat × (List UInt8) × Int × (Option Nat) × (Option Addr) × Nat) [0, 1, 4, 5, 6, 7, 8, 9] (fun ⟨c7, b8, a9, c3, c1, c2⟩ => [(8, (Vs c1 b8.length c2))]) (fun ⟨c7, b8, a9, c3, c1, c2⟩ w' => Hp w (aaj [blk a8 [(str a3.1), (Vi .i64 a3.2)] 119, blk b0 [(str a2.1), (str a2.2.1), (str a2.2.2.1), (Vi .i64 a2.2.2.2.1), (Vs a4 a2.2.2.2.2.1.length a5), (Vs a6 a2.2.2.2.2.2.length a7)] 68, rwt aaa 46 3 b1 a4 a5 a2.2.2.2.2.1, rwt aaa 46 3 b2 a6 a7 a2.2.2.2.2.2]) [blk a8 [(str a3.1), (Vi .i64 a9)] 119, blk b0 [(str a2.1), (str a2.2.1), (str a2.2.2.1), (Vi .i64 a2.2.2.2.1), (Vs a4 a2.2.2.2.2.1.length a5), (Vs a6 a2.2.2.2.2.2.length a7)] 68, rwt aaa 46 3 b1 a4 a5 a2.2.2.2.2.1, rwt aaa 46 3 b2 a6 a7 a2.2.2.2.2.2, rwt eB 5 1 c3 c1 c2 b8] w' ∧ afa fu a3 a2 y1 y6 c7 b8 a9 = some f3) (fun ⟨c7, b8, a9, c3, c1, c2⟩ => c7) (fu, c0.1, c0.2, d8, d2, d3) (by exact ⟨(Hp.front (Hp.front (Hp.front (Hp.front (Hp.front h2 4 _ rfl) 4 _ rfl) 4 _ rfl) 4 _ rfl) 4 _ rfl).kp, h3⟩) ?_)
  rintro ⟨_ | c7, b8, a9, c3, c1, c2⟩ k0 G ⟨e6, b7⟩
  · exact absurd (show none = some _ from b7) (by simp)
  rw [afa.eq_2] at b7
  refine cs (sr (wp 3 (aav e6 0 a8 1 [(str a3.1), (Vi .i64 a9)] 119 (Vi .i64 a9) rfl rfl (by kernel_rfl) (by kernel_rfl) (wp 2 (nq (cd b7 (fun h4 b7 => ?_) (fun h4 b7 => ?_)))))))
  refine ck (qn (bi b7 fun h5 b4 b7 => cut (σ := (List UInt8) × (Option Nat) × (Option Addr) × Nat) [0, 1, 4, 5, 6, 7, 8, 9] (fun ⟨c4, d5, c8, c9⟩ => [(8, (Vs c8 c4.length c9))]) (fun ⟨c4, d5, c8, c9⟩ w' => Hp w (aaj [blk a8 [(str a3.1), (Vi .i64 a3.2)] 119, blk b0 [(str a2.1), (str a2.2.1), (str a2.2.2.1), (Vi .i64 a2.2.2.2.1), (Vs a4 a2.2.2.2.2.1.length a5), (Vs a6 a2.2.2.2.2.2.length a7)] 68, rwt aaa 46 3 b1 a4 a5 a2.2.2.2.2.1, rwt aaa 46 3 b2 a6 a7 a2.2.2.2.2.2]) [blk a8 [(str a3.1), (Vi .i64 a9)] 119, blk b0 [(str a2.1), (str a2.2.1), (str a2.2.2.1), (Vi .i64 a2.2.2.2.1), (Vs a4 a2.2.2.2.2.1.length a5), (Vs a6 a2.2.2.2.2.2.length a7)] 68, rwt aaa 46 3 b1 a4 a5 a2.2.2.2.2.1, rwt aaa 46 3 b2 a6 a7 a2.2.2.2.2.2, rwt eB 5 1 d5 c8 c9 c4] w' ∧ .inl c4 = h5) ?_ ?_))
  refine ce (cs (adm 9 (fun j_ w_ w_' => abv [9, 10] (fun w' => w'.heap[a8]? = some (.cells [(str a3.1), (Vi .i64 a9)].toArray 119 (0, 0))) j_ w_ w_' ∧ True) [false, false, false, false, false, false, false, false, false, false, false] (fun _ _ => ⟨abv.same, trivial⟩) (by kernel_rfl) (by kernel_rfl) e6 rfl (adb (aah (aal (aal (aah (aal acf)))))) fun k1 d0 => rp 5 [0, 1, 2, 3] (aag [true, true, true, true, true, false, false, false, false, false, false] 4 52 (str a3.1) [9, 10] (fun _ _ _ h => h.1) _ rfl rfl (by kernel_rfl) (by kernel_rfl) (by kernel_rfl) (by kernel_rfl) (by kernel_rfl) rfl (aai rfl (by intro w hS_; exact (afx a8 0 [(str a3.1), (Vi .i64 a9)] 119 (str a3.1) hS_ rfl (by kernel_rfl) (by kernel_rfl)))) (by exact d0.blkAt 0 rfl) (rp 1 [5, 6, 7] (aag [true, true, true, true, true, true, true, true, true, false, false] 8 56 (Vi .i64 a9) [9, 10] (fun _ _ _ h => h.1) _ rfl rfl (by kernel_rfl) (by kernel_rfl) (by kernel_rfl) (by kernel_rfl) (by kernel_rfl) rfl (aai rfl (by intro w hS_; exact (afx a8 1 [(str a3.1), (Vi .i64 a9)] 119 (Vi .i64 a9) hS_ rfl (by kernel_rfl) (by kernel_rfl)))) (by exact d0.blkAt 0 rfl) (acw (by kernel_rfl) (gi b4 fun h6 b4 => adz a3.1 .i64 a9 Tryz.underlying9 (by kernel_rfl) (by kernel_rfl) h6 ?_)))))))
  refine wp 1 (nq (ce (bi b4 fun h7 b5 b4 => agq d0 [0, 1, 4, 5, 6, 7, 8, 9, 10, 58] [(58, (Vb h7))] ?_ ?_)))
  refine bi b5 fun h8 d6 b5 => agq d0 [0, 1, 4, 5, 6, 7, 8, 9, 10, 58] [(58, (Vb h8))] ?_ ?_
  refine cr (wp 1 (amq (at_ a3.1 a9) (48 : UInt8) (by kernel_rfl) (by kernel_rfl) (wd d6 (fun h9 d6 => ?_) (fun h9 d6 => ?_))))
  refine wp 1 (gy 61 (amp (at_ a3.1 a9) (57 : UInt8) (by kernel_rfl) (by kernel_rfl) (wp 2 (wl (ql ?_)))))
  obtain rfl := oi d6
  exact je (Hp.front (Hp.front (Hp.front (Hp.front (Hp.front d0 4 _ rfl) 4 _ rfl) 4 _ rfl) 4 _ rfl) 4 _ rfl).kp
  refine wp 4 (wl (ql ?_))
  obtain rfl := oi d6
  exact je (Hp.front (Hp.front (Hp.front (Hp.front (Hp.front d0 4 _ rfl) 4 _ rfl) 4 _ rfl) 4 _ rfl) 4 _ rfl).kp
  intro k2 G e2
  refine cb b5 (fun i0 b5 => ?_) (fun i0 b5 => ?_)
  refine ck (ql ?_)
  obtain rfl := oi b5
  exact je (Hp.front (Hp.front (Hp.front (Hp.front (Hp.front e2 4 _ rfl) 4 _ rfl) 4 _ rfl) 4 _ rfl) 4 _ rfl).kp
  refine cr (wp 2 (wb b5 (fun i1 b5 => ?_) (fun i1 b5 => ?_)))
  refine wp 1 (gy 67 (ack (at_ a3.1 a9) (42 : UInt8) (by kernel_rfl) (by kernel_rfl) (gy 67 (wd b5 (fun i2 b5 => ?_) (fun i2 b5 => ?_)))))
  refine wp 5 (wl (ql ?_))
  obtain rfl := oi b5
  exact je (Hp.front (Hp.front (Hp.front (Hp.front (Hp.front e2 4 _ rfl) 4 _ rfl) 4 _ rfl) 4 _ rfl) 4 _ rfl).kp
  refine wp 1 (gy 70 (ack (at_ a3.1 a9) (35 : UInt8) (by kernel_rfl) (by kernel_rfl) (wp 3 (wl (ql ?_)))))
  obtain rfl := oi b5
  exact je (Hp.front (Hp.front (Hp.front (Hp.front (Hp.front e2 4 _ rfl) 4 _ rfl) 4 _ rfl) 4 _ rfl) 4 _ rfl).kp
  refine wp 8 (wl (ql ?_))
  obtain rfl := oi b5
  exact je (Hp.front (Hp.front (Hp.front (Hp.front (Hp.front e2 4 _ rfl) 4 _ rfl) 4 _ rfl) 4 _ rfl) 4 _ rfl).kp
  intro k3 G d1
  refine cb b4 (fun i3 b4 => ?_) (fun i3 b4 => ?_)
  refine cr (wp 2 (adl d1 [(bt (at_ a3.1 a9))] 5 (fun b => (Vs (some ⟨b, 0, none⟩) 1 1)) rfl rfl (by kernel_rfl) fun e7 k4 f4 => gi b4 fun i4 b4 => adw f4 5 c3 c1 (some ⟨e7, 0, none⟩) c2 1 5 1 1 b8 ([at_ a3.1 a9] : List UInt8) aks rfl Tryz.underlying92 (by unfold TI; kernel_rfl) (by decide) (by decide) (by kernel_rfl) (Eq.trans (b := (Vs (some ⟨e7, 0, none⟩) 1 1)) (by kernel_rfl) (aae (by first | rfl | (simp; done) | omega | (simp; omega) | (rw [List.length_take]; omega)))) (f4.rdblk 0 rfl) i4 fun f5 f6 f7 i5 e8 => ?_))
  replace e8 : Hp w (aaj [blk a8 [(str a3.1), (Vi .i64 a3.2)] 119, blk b0 [(str a2.1), (str a2.2.1), (str a2.2.2.1), (Vi .i64 a2.2.2.2.1), (Vs a4 a2.2.2.2.2.1.length a5), (Vs a6 a2.2.2.2.2.2.length a7)] 68, rwt aaa 46 3 b1 a4 a5 a2.2.2.2.2.1, rwt aaa 46 3 b2 a6 a7 a2.2.2.2.2.2]) [blk e7 [(bt (at_ a3.1 a9))] 5, blk a8 [(str a3.1), (Vi .i64 a9)] 119, blk b0 [(str a2.1), (str a2.2.1), (str a2.2.2.1), (Vi .i64 a2.2.2.2.1), (Vs a4 a2.2.2.2.2.1.length a5), (Vs a6 a2.2.2.2.2.2.length a7)] 68, rwt aaa 46 3 b1 a4 a5 a2.2.2.2.2.1, rwt aaa 46 3 b2 a6 a7 a2.2.2.2.2.2, rwt eB 5 1 f5 f6 f7 (b8 ++ ([at_ a3.1 a9] : List UInt8))] i5 := e8
  refine wp 1 (wl (bn (bn (ql ?_))))
  obtain rfl := oi b4
  exact ⟨(b8 ++ ([at_ a3.1 a9] : List UInt8), f5, f6, f7), _, rfl, by kernel_rfl, (Hp.front (Hp.front (Hp.front (Hp.front (Hp.front e8 5 _ rfl) 5 _ rfl) 5 _ rfl) 5 _ rfl) 5 _ rfl).kp, rfl⟩
  refine bi b4 fun i6 b6 b4 => agq d1 [0, 1, 4, 5, 6, 7, 8, 9, 79] [(79, (Vb i6))] ?_ ?_
  refine cr (wp 1 (aec (at_ a3.1 a9) (45 : UInt8) (by kernel_rfl) (by kernel_rfl) (wn b6 (fun i7 b6 => ?_) (fun i7 b6 => ?_))))
  refine wp 1 (gy 82 (aec (at_ a3.1 a9) (46 : UInt8) (by kernel_rfl) (by kernel_rfl) (wp 1 (wn b6 (fun i9 b6 => ?_) (fun i9 b6 => ?_)))))
  refine wp 1 (gy 86 (aec (at_ a3.1 a9) (40 : UInt8) (by kernel_rfl) (by kernel_rfl) (wp 1 (wn b6 (fun j0 b6 => ?_) (fun j0 b6 => ?_)))))
  refine wp 1 (gy 90 (aec (at_ a3.1 a9) (41 : UInt8) (by kernel_rfl) (by kernel_rfl) (wp 2 (wl (ql ?_)))))
  obtain rfl := oi b6
  exact je (Hp.front (Hp.front (Hp.front (Hp.front (Hp.front d1 4 _ rfl) 4 _ rfl) 4 _ rfl) 4 _ rfl) 4 _ rfl).kp
  refine wp 4 (wl (ql ?_))
  obtain rfl := oi b6
  exact je (Hp.front (Hp.front (Hp.front (Hp.front (Hp.front d1 4 _ rfl) 4 _ rfl) 4 _ rfl) 4 _ rfl) 4 _ rfl).kp
  refine wp 8 (wl (ql ?_))
  obtain rfl := oi b6
  exact je (Hp.front (Hp.front (Hp.front (Hp.front (Hp.front d1 4 _ rfl) 4 _ rfl) 4 _ rfl) 4 _ rfl) 4 _ rfl).kp
  refine wp 12 (wl (ql ?_))
  obtain rfl := oi b6
  exact je (Hp.front (Hp.front (Hp.front (Hp.front (Hp.front d1 4 _ rfl) 4 _ rfl) 4 _ rfl) 4 _ rfl) 4 _ rfl).kp
  intro k5 G e9
  refine cb b4 (fun j1 b4 => ?_) (fun j1 b4 => ?_)
  refine sr (wp 3 (aav e9 0 a8 1 [(str a3.1), (Vi .i64 a9)] 119 (Vi .i64 a9) rfl rfl (by kernel_rfl) (by kernel_rfl) (wp 2 (nq (ct (bt_ (bt_ ?_)))))))
  refine acp ?_
  obtain rfl := oi b4
  refine acp (bt_ (acp ?_))
  obtain rfl := oi b7
  obtain rfl := oi hr
  refine ajc (Vi .i64 a9) (bt (5 : UInt8)) rfl (by kernel_rfl) (by kernel_rfl) ?_
  exact ⟨b1, a4, a5, b2, a6, a7, (by first | rfl | (simp; done) | (simp; omega)), (Hp.front (Hp.front (Hp.front (Hp.front e9 3 _ rfl) 3 _ rfl) 3 _ rfl) 3 _ rfl).kp⟩
  refine ck (bn (bn (ql ?_)))
  obtain rfl := oi b4
  exact ⟨(b8, c3, c1, c2), _, rfl, by kernel_rfl, (Hp.front (Hp.front (Hp.front (Hp.front (Hp.front e9 4 _ rfl) 4 _ rfl) 4 _ rfl) 4 _ rfl) 4 _ rfl).kp, rfl⟩
  rintro ⟨c4, d5, c8, c9⟩ k6 G ⟨f8, rfl⟩
  refine cr (wp 3 (aav f8 0 a8 1 [(str a3.1), (Vi .i64 a9)] 119 (Vi .i64 a9) rfl rfl (by kernel_rfl) (by kernel_rfl) (gi b7 fun j2 b7 => aac a9 (1 : Int) (by kernel_rfl) (by kernel_rfl) j2 (wp 2 (aeu f8 0 a8 1 [(str a3.1), (Vi .i64 a9)] 119 (Vi .i64 (a9 + (1 : Int))) [blk a8 [(str a3.1), (Vi .i64 (a9 + (1 : Int)))] 119, blk b0 [(str a2.1), (str a2.2.1), (str a2.2.2.1), (Vi .i64 a2.2.2.2.1), (Vs a4 a2.2.2.2.2.1.length a5), (Vs a6 a2.2.2.2.2.2.length a7)] 68, rwt aaa 46 3 b1 a4 a5 a2.2.2.2.2.1, rwt aaa 46 3 b2 a6 a7 a2.2.2.2.2.2, rwt eB 5 1 d5 c8 c9 c4] rfl (Nat.lt_of_lt_of_le (Nat.lt_succ_self _) (Nat.le_of_ble_eq_true rfl)) (by kernel_rfl) (by kernel_rfl) rfl (by kernel_rfl) rfl fun k7 j3 => wl (ql ?_))))))
  exact ⟨(c7, c4, a9 + (1 : Int), d5, c8, c9), _, rfl, by kernel_rfl, ⟨(Hp.front (Hp.front (Hp.front (Hp.front (Hp.front j3 4 _ rfl) 4 _ rfl) 4 _ rfl) 4 _ rfl) 4 _ rfl).kp, b7⟩, Nat.lt_succ_self _⟩
  refine ach (acg (acq (aci (ql ?_))))
  obtain rfl := oi b7
  exact ⟨((b8, a9), c3, c1, c2), _, rfl, by kernel_rfl, (Hp.front (Hp.front (Hp.front (Hp.front (Hp.front e6 4 _ rfl) 4 _ rfl) 4 _ rfl) 4 _ rfl) 4 _ rfl).kp, rfl⟩
  rintro ⟨b3, e1, c5, c6⟩ j4 G ⟨f9, rfl⟩
  refine sr (wp 2 (aed (v := (str b3.1)) (w' := j4) rfl rfl (anm b3.1 c5 b3.1.length c6 5 (Rd.bytes (f9.rdrw 4 rfl)) (by first | rfl | (simp; done) | omega | (simp; omega) | (rw [List.length_take]; omega)) Tryz.underlying92 Tryz.underlying9 Tryz.underlying5 (by kernel_rfl)) (wp 2 (aeu f9 1 b0 1 [(str a2.1), (str a2.2.1), (str a2.2.2.1), (Vi .i64 a2.2.2.2.1), (Vs a4 a2.2.2.2.2.1.length a5), (Vs a6 a2.2.2.2.2.2.length a7)] 68 (str b3.1) [blk a8 [(str a3.1), (Vi .i64 b3.2)] 119, blk b0 [(str a2.1), (str b3.1), (str a2.2.2.1), (Vi .i64 a2.2.2.2.1), (Vs a4 a2.2.2.2.2.1.length a5), (Vs a6 a2.2.2.2.2.2.length a7)] 68, rwt aaa 46 3 b1 a4 a5 a2.2.2.2.2.1, rwt aaa 46 3 b2 a6 a7 a2.2.2.2.2.2, rwt eB 5 1 e1 c5 c6 b3.1] rfl (Nat.lt_of_lt_of_le (Nat.lt_succ_self _) (Nat.le_of_ble_eq_true rfl)) (by kernel_rfl) (by kernel_rfl) rfl (by kernel_rfl) rfl fun j5 g0 => nq (sr ?_)))))
  refine wp 3 (aav g0 1 b0 1 [(str a2.1), (str b3.1), (str a2.2.2.1), (Vi .i64 a2.2.2.2.1), (Vs a4 a2.2.2.2.2.1.length a5), (Vs a6 a2.2.2.2.2.2.length a7)] 68 (str b3.1) rfl rfl (by kernel_rfl) (by kernel_rfl) (aad 256 #[] [(str b3.1), (str ([43] : Str))] _ ent256 (by kernel_rfl) (by kernel_rfl) (sh_TrimPrefix b3.1 ([43] : Str) j5) ?_))
  rintro _ k8 ⟨rfl, g1⟩
  have f0 := g0.call g1; clear g1
  refine wp 1 (nq (cs (sr (wp 2 (nq (cd hr (fun j6 hr => ?_) (fun j6 hr => ?_)))))))
  refine sr (wp 3 (nq (ct (st ?_))))
  obtain rfl := oi hr
  refine ajc (Vi .i64 a3.2) (bt (5 : UInt8)) rfl (by kernel_rfl) (by kernel_rfl) ?_
  exact ⟨b1, a4, a5, b2, a6, a7, (by first | rfl | (simp; done) | (simp; omega)), (Hp.front (Hp.front (Hp.front (Hp.front f0 3 _ rfl) 3 _ rfl) 3 _ rfl) 3 _ rfl).kp⟩
  refine ck (qn (cs (sr (wp 3 (nq (cd hr (fun j7 hr => ?_) (fun j7 hr => ?_)))))))
  refine sr (wp 3 (nq (ct (st ?_))))
  obtain rfl := oi hr
  refine ajc (Vi .i64 a3.2) (bt (4 : UInt8)) rfl (by kernel_rfl) (by kernel_rfl) ?_
  exact ⟨b1, a4, a5, b2, a6, a7, (by first | rfl | (simp; done) | (simp; omega)), (Hp.front (Hp.front (Hp.front (Hp.front f0 3 _ rfl) 3 _ rfl) 3 _ rfl) 3 _ rfl).kp⟩
  refine ck (qn (sr (wp 2 (nq (ct ?_)))))
  obtain rfl := oi hr
  refine ajc (Vi .i64 (0 : Int)) (bt (0 : UInt8)) rfl (by kernel_rfl) (by kernel_rfl) ?_
  exact ⟨b1, a4, a5, b2, a6, a7, (by first | rfl | (simp; done) | (simp; omega)), (Hp.front (Hp.front (Hp.front (Hp.front f0 3 _ rfl) 3 _ rfl) 3 _ rfl) 3 _ rfl).kp⟩
theorem K_L_address_holds_1 {fu : Nat} {a0 : (Str × Str × Bool)} {a1 : Str} (a2 : Nat) {w : World} {r : Bool} (hr : alb fu a0 a1 = some r) (hG : Gl w) (hM : Hp w (aaj [blk a2 [(str a1)] 9]) [blk a2 [(str a1)] 9] w) (hS : ∀ b ∈ aaj [blk a2 [(str a1)] 9], 9 ≤ b) : CR Tryz.prog 183 [(Value.agg #[(str a0.1), (str a0.2.1), (Vb a0.2.2)]), (Vp (some ⟨a2, 0, none⟩))] w fun v w' => v = (Vb r) ∧ Hp w (aaj [blk a2 [(str a1)] 9]) [blk a2 [(str a1)] 9] w' := by
  have hH : Hp w (aaj [blk a2 [(str a1)] 9]) [blk a2 [(str a1)] 9] w := hM
  refine enter (k := 8) Tryz.func183 rfl rfl (Nat.le_of_ble_eq_true rfl) ?_
  unfold alb at hr
  refine sr (adl hH [(str a0.1), (str a0.2.1), (Vb a0.2.2)] 46 (fun b => (Vp (some ⟨b, 0, none⟩))) rfl rfl (by kernel_rfl) fun b1 w2 a3 => wp 1 (nq (sr (wp 1 (aav a3 0 b1 0 [(str a0.1), (str a0.2.1), (Vb a0.2.2)] 46 (str a0.1) rfl rfl (by kernel_rfl) (by kernel_rfl) ?_)))))
  refine aav a3 1 a2 0 [(str a1)] 9 (str a1) rfl rfl (by kernel_rfl) (by kernel_rfl) (wp 2 (nq (ct ?_)))
  obtain rfl := oi hr
  refine ana (Vb (decide (a0.1 = a1))) rfl (by kernel_rfl) ?_
  exact ⟨(by first | rfl | (simp; done) | (simp; omega)), (Hp.front a3 1 _ rfl).kp⟩
theorem aik {fu : Nat} {s_0 : List (Str × Str × Bool)} {a3 : Str} (a5 : Option Addr) (a6 : Nat) (a7 : Nat) (a1 : Nat) {w : World} {r : Int} (hr : aea fu s_0 a3 = some r) (hG : Gl w) (b3 : a6 = s_0.length) (a8 : Rd w a5 (List.flatMap aaa s_0)) (c5 : a6 ≤ a7) (hM : Hp w (aaj [blk a1 [(str a3)] 9]) [blk a1 [(str a3)] 9] w) (hS : ∀ b ∈ aaj [blk a1 [(str a3)] 9], 9 ≤ b) (a9 : List.flatMap aaa s_0 ≠ [] → ∀ p, a5 = some p → p.block ∉ aaj [blk a1 [(str a3)] 9]) : CR Tryz.prog 216 [(Vs a5 a6 a7), (Value.func (.func 183) #[] #[(Vp (some ⟨a1, 0, none⟩))])] w fun v w' => v = (Vi .i64 r) ∧ Hp w (aaj [blk a1 [(str a3)] 9]) [blk a1 [(str a3)] 9] w' := by
  subst b3
  have hH : Hp w (aaj [blk a1 [(str a3)] 9]) [blk a1 [(str a3)] 9] w := hM
  refine enter (k := 19) Tryz.func216 rfl rfl (Nat.le_of_ble_eq_true rfl) ?_
  unfold aea at hr
  refine sr (wp 1 (nq (bi hr fun b4 b5 hr => cut1 hH b4 [4] (fun b6 => []) ?_ ?_)))
  refine sr (wp 3 (nq (ce (lpS (fun b0 a2 => aco fu s_0 a3 b0 a2) (0 : Int) hH b5 [0, 1, 4, 7, 8] (fun a2 => [(8, (Vi .i64 a2))]) (fun _ => rfl) ?_))))
  rintro b0 a2 c6 G a4 a0
  rw [aco.eq_2] at a0
  refine sr (wp 1 (nq (cs (cd a0 (fun b7 a0 => ?_) (fun b7 a0 => ?_)))))
  refine ck (qn (cs (ce (sr (wp 2 (nq (cs ?_)))))))
  refine cr (wp 3 (gi a0 fun b8 a0 => aht a5 s_0.length a7 46 3 .i64 a2 Tryz.underlying22 (by kernel_rfl) (by kernel_rfl) (by kernel_rfl) s_0 rfl b8 (a8.hpN a4 a9) aab (by decide) (gi a0 fun b9 a0 => ahm a5 aaa s_0 3 a2 aab (a8.hpN a4 a9) [(str ((el s_0 a2).1)), (str ((el s_0 a2).2.1)), (Vb ((el s_0 a2).2.2))] b9 (by kernel_rfl) (by kernel_rfl) (by kernel_rfl) (by kernel_rfl) (by decide) (bi a0 fun c7 c0 a0 => aad 183 #[(Vp (some ⟨a1, 0, none⟩))] [(Value.agg #[(str ((el s_0 a2).1)), (str ((el s_0 a2).2.1)), (Vb ((el s_0 a2).2.2))]), (Vp (some ⟨a1, 0, none⟩))] _ ent183 (by kernel_rfl) (by kernel_rfl) (K_L_address_holds_1 a1 c0 (hG.hp a4 hS) (a4.hand (L1 := [blk a1 [(str a3)] 9]) (L2 := [])) (a4.highs hG hS 1 rfl)) ?_))))
  rintro _ c1 ⟨rfl, b1⟩
  have b2 : Hp w (aaj [blk a1 [(str a3)] 9]) [blk a1 [(str a3)] 9] c1 := Hp.callK (L1 := [blk a1 [(str a3)] 9]) (L2 := []) a4 b1; clear b1
  refine nq (cb a0 (fun c2 a0 => ?_) (fun c2 a0 => ?_))
  refine sr (wp 2 (nq (ct (bt_ (st (acp (bt_ ?_)))))))
  refine acp ?_
  obtain rfl := oi a0
  obtain rfl := oi hr
  refine ana (Vi .i64 a2) rfl (by kernel_rfl) ?_
  exact ⟨(by first | rfl | (simp; done) | (simp; omega)), b2.kp⟩
  exact ck (bn (qn (cr (gi a0 fun c3 a0 => aac a2 (1 : Int) (by kernel_rfl) (by kernel_rfl) c3 (wp 1 (wl (ql (le' (a2 + (1 : Int)) b2.kp a0))))))))
  refine ach (acg (acq (aci (ql ?_))))
  obtain rfl := oi a0
  exact je1 rfl a4.kp
  rintro b6 c8 G c4 rfl
  refine sr (wp 1 (nq (ct ?_)))
  obtain rfl := oi hr
  refine ana (Vi .i64 (-1 : Int)) rfl (by kernel_rfl) ?_
  exact ⟨(by first | rfl | (simp; done) | (simp; omega)), c4.kp⟩
theorem ahp {fu : Nat} {s_0 : List (Str × Str × Bool)} {a1 : Str} (a2 : Option Addr) (a4 : Nat) (a3 : Nat) (a0 : Nat) {w : World} {r : Bool} (hr : adq fu s_0 a1 = some r) (hG : Gl w) (a8 : a4 = s_0.length) (a5 : Rd w a2 (List.flatMap aaa s_0)) (a9 : a4 ≤ a3) (hM : Hp w (aaj [blk a0 [(str a1)] 9]) [blk a0 [(str a1)] 9] w) (hS : ∀ b ∈ aaj [blk a0 [(str a1)] 9], 9 ≤ b) (a6 : List.flatMap aaa s_0 ≠ [] → ∀ p, a2 = some p → p.block ∉ aaj [blk a0 [(str a1)] 9]) : CR Tryz.prog 182 [(Vs a2 a4 a3), (Value.func (.func 183) #[] #[(Vp (some ⟨a0, 0, none⟩))])] w fun v w' => v = (Vb r) ∧ Hp w (aaj [blk a0 [(str a1)] 9]) [blk a0 [(str a1)] 9] w' := by
  subst a8
  have hH : Hp w (aaj [blk a0 [(str a1)] 9]) [blk a0 [(str a1)] 9] w := hM
  refine enter (k := 9) Tryz.func182 rfl rfl (Nat.le_of_ble_eq_true rfl) ?_
  unfold adq at hr
  refine sr (wp 1 (nq (sr (wp 2 (bi hr fun y1 b0 hr => aad 216 #[] [(Vs a2 s_0.length a3), (Value.func (.func 183) #[] #[(Vp (some ⟨a0, 0, none⟩))])] _ ent216 (by kernel_rfl) (by kernel_rfl) (aik a2 s_0.length a3 a0 b0 (hG.hp hH hS) rfl (a5.hpN hH a6) a9 (hH.hand (L1 := [blk a0 [(str a1)] 9]) (L2 := [])) (hH.highs hG hS 1 rfl) (hH.apartRd 1 a5 a6 rfl)) ?_)))))
  rintro _ w3 ⟨rfl, a7⟩
  have b1 : Hp w (aaj [blk a0 [(str a1)] 9]) [blk a0 [(str a1)] 9] w3 := Hp.callK (L1 := [blk a0 [(str a1)] 9]) (L2 := []) hH a7; clear a7
  refine wp 2 (nq (ct ?_))
  obtain rfl := oi hr
  refine ana (Vb (decide ((0 : Int) ≤ y1))) rfl (by kernel_rfl) ?_
  exact ⟨(by first | rfl | (simp; done) | (simp; omega)), b1.kp⟩
theorem alf {fu : Nat} {a2 : List (Str × Str × Bool)} {a0 : Str} (a3 : Option Addr) (a5 : Nat) (a4 : Nat) {w : World} {r : Bool} (hr : aiz fu a2 a0 = some r) (hG : Gl w) (a8 : a5 = a2.length) (a6 : Rd w a3 (List.flatMap aaa a2)) (a9 : a5 ≤ a4) : CR Tryz.prog 125 [(Vs a3 a5 a4), (str a0)] w fun v w' => v = (Vb r) ∧ Hp w [] [] w' := by
  subst a8
  have hH : Hp w [] [] w := Hp.refl w
  refine enter (k := 8) Tryz.func125 rfl rfl (Nat.le_of_ble_eq_true rfl) ?_
  unfold aiz at hr
  refine sr (adl hH [(str a0)] 9 (fun b => (Vp (some ⟨b, 0, none⟩))) rfl rfl (by kernel_rfl) fun b1 w2 a1 => wp 1 (nq (sr (wp 2 (bi hr fun y4 b0 hr => ?_)))))
  refine aad 182 #[] [(Vs a3 a2.length a4), (Value.func (.func 183) #[] #[(Vp (some ⟨b1, 0, none⟩))])] _ ent182 (by kernel_rfl) (by kernel_rfl) (ahp a3 a2.length a4 b1 b0 (hG.hp0 a1) rfl (a6.hp a1) a9 (a1.hand (L1 := [blk b1 [(str a0)] 9]) (L2 := [])) (a1.highs hG (fun _ h => absurd h (by simp)) 1 rfl) (a1.apartRd 1 a6 (fun _ _ _ h => absurd h (by simp)) rfl)) ?_
  rintro _ w6 ⟨rfl, a7⟩
  have b2 : Hp w [] [blk b1 [(str a0)] 9] w6 := Hp.callK (L1 := [blk b1 [(str a0)] 9]) (L2 := []) a1 a7; clear a7
  refine wp 1 (nq (ct ?_))
  obtain rfl := oi hr
  exact rv b2.kp
theorem K_L_address_room {fu : Nat} {a0 : List (Str × Str × Bool)} {a5 : Str} (a1 : Option Addr) (a2 : Nat) (a3 : Nat) {w : World} {r : UInt8} (hr : ali fu a0 a5 = some r) (hG : Gl w) (a6 : a2 = a0.length) (a7 : Rd w a1 (List.flatMap aaa a0)) (a8 : a2 ≤ a3) : CR Tryz.prog 115 [(Vs a1 a2 a3), (str a5)] w fun v w' => v = (bt r) ∧ Hp w [] [] w' := by
  subst a6
  have hH : Hp w [] [] w := Hp.refl w
  refine enter (k := 11) Tryz.func115 rfl rfl (Nat.le_of_ble_eq_true rfl) ?_
  unfold ali at hr
  refine sr (wp 1 (nq (cs (sr (wp 2 (bi hr fun y1 a9 hr => ?_))))))
  refine wc ent125 hH (alf a1 a0.length a3 a9 (hG.hp0 hH) rfl (a7.hp hH) a8) fun w3 a4 => nq (cb hr (fun h6 hr => ?_) (fun h6 hr => ?_))
  refine sr (wp 1 (nq (ct (st ?_))))
  obtain rfl := oi hr
  exact rv a4.kp
  refine ck (qn (cs (sr (wp 3 (nq (cd hr (fun h7 hr => ?_) (fun h7 hr => ?_)))))))
  refine sr (wp 1 (nq (ct (st ?_))))
  obtain rfl := oi hr
  exact rv a4.kp
  refine ck (qn (sr (wp 1 (nq (ct ?_)))))
  obtain rfl := oi hr
  exact rv a4.kp
end Go.Proofs
