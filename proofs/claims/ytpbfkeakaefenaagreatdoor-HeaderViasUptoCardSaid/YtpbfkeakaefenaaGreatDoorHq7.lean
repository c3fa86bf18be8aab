/-
  The law HeaderVias holds, second form: for every value and every Via of at most 1048576 values and letters the call returns true; no condition beyond the statement's own (part 7 of 8).
-/
import Derived.Test.YtpbfkeakaefenaaGreatDoorHq6
import Derived.Test.YtpbfkeakaefenaaGreatDoorProg
set_option linter.unusedVariables false
set_option linter.unusedSimpArgs false
set_option maxRecDepth 20000
set_option maxHeartbeats 1000000
namespace Go.Proofs
open Go.Wk Go.Px
open Go.Value renaming slice → Vs, int → Vi, bool → Vb, pointer → Vp
open Go.Value renaming agg → zan, tuple → zak
open Int renaming toNat → zac
open List renaming flatMap → zai, length_take → zah
open Nat renaming lt_succ_self → zad
open Tryz
theorem ent7 : Wk.Enters prog 7 := ⟨f7, _, func7, rfl, krf⟩
theorem ent9 : Wk.Enters prog 9 := ⟨f9, _, func9, rfl, krf⟩
theorem ent10 : Wk.Enters prog 10 := ⟨f10, _, func10, rfl, krf⟩
theorem ent11 : Wk.Enters prog 11 := ⟨f11, _, func11, rfl, krf⟩
theorem ent12 : Wk.Enters prog 12 := ⟨f12, _, func12, rfl, krf⟩
theorem ent51 : Wk.Enters prog 51 := ⟨f51, _, func51, rfl, krf⟩
theorem ent52 : Wk.Enters prog 52 := ⟨f52, _, func52, rfl, krf⟩
theorem ent53 : Wk.Enters prog 53 := ⟨f53, _, func53, rfl, krf⟩
theorem ent54 : Wk.Enters prog 54 := ⟨f54, _, func54, rfl, krf⟩
theorem ent55 : Wk.Enters prog 55 := ⟨f55, _, func55, rfl, krf⟩
theorem ent111 : Wk.Enters prog 111 := ⟨f111, _, func111, rfl, krf⟩
theorem ent112 : Wk.Enters prog 112 := ⟨f112, _, func112, rfl, krf⟩
theorem ent113 : Wk.Enters prog 113 := ⟨f113, _, func113, rfl, krf⟩
theorem K_L_ref02_PrintParams {fu : Nat} {a1 : List PQ} (b0 : Option Addr) (d2 : Nat) (b1 : Nat) {w : World} {r : (Str × UInt8)} (hr : ail fu a1 = some r) (hG : Gl w) (e5 : d2 = a1.length) (c5 : Rd w b0 (zai aaa a1)) (c6 : d2 ≤ b1) : CR prog 52 [(Vs b0 d2 b1)] w fun v w' => v = (zak #[(str r.1), (bt r.2)]) ∧ Hp w [] [] w' := by
 subst e5
 have hH := Hp.refl w
 refine enter (k := 91) func52 rfl rfl nbe ?_
 unfold ail at hr
 refine sr (wp 2 (nq (sr (wp 1 (nq ?_)))))
 refine bi hr fun e6 e7 hr => cut1 hH e6 [2, 3, 4] (fun e0 => [(4, (str e0))]) ?_ ?_
 refine sr (wp 1 (nq (ce (lpS (fun e1 ⟨a8, a0⟩ => acr fu a1 e1 a8 a0) (([] : Str), (0 : Int)) hH e7 [0, 2, 3, 4, 5] (fun ⟨a8, a0⟩ => [(4, (str a8)), (5, (Vi .i64 a0))]) (fun _ => rfl) ?_))))
 rintro e1 ⟨a8, a0⟩ i0 G c7 a4
 dsimp only at a4
 rw [acr.eq_2] at a4
 refine cs (sr (wp 4 (nq (cd a4 (fun e8 a4 => ?_) (fun e8 a4 => ?_)))))
 refine ck (qn (cs (ce (sr (wp 2 (gi a4 fun e9 a4 => ahl b0 a1.length b1 65 3 .i64 a0 underlying22 krf krf krf a1 rfl e9 (c5.hp c7) aab (by decide) (gi a4 fun f0 a4 => ?_)))))))
 refine ajh b0 aaa a1 3 a0 aab (c5.hp c7) (Zz0 a1 a0) f0 krf krf krf krf (by decide) (adr c7 (Zz6) 65 (fun b => (Vp (some ⟨b, 0, none⟩))) rfl rfl krf fun a2 i1 f1 => ahq f1 0 a2 0 (Zz6) (Zz0 a1 a0) 65 [blk a2 (Zz0 a1 a0) 65] rfl nbe krf krf rfl krf rfl fun i2 b4 => nq (cs (bi a4 fun f2 a5 a4 => age b4 [0, 2, 3, 4, 5, 6, 55] [(55, (Vb f2))] ?_ ?_)))
 refine bi a5 fun b5 b9 a5 => ?_
 rcases Bool.eq_false_or_eq_true (!b5) with b2 | b2
 replace a5 := cft b2 a5
 refine aeh 34 (fun j_ w_ w_' => aay (Zz12) (fun w' => w'.heap[a2]? = some (.cells (Zz0 a1 a0).toArray 65 (0, 0))) j_ w_ w_' ∧ True) (Zz13) (fun _ _ => ⟨aay.same, trivial⟩) krf krf b4 rfl (aam (ade (aak (ade (aam (aak (aam adb))))))) fun i3 d3 => rp 33 [0] (aal (Zz14) 1 20 (str ((el a1 a0).1)) (Zz12) (fun _ _ _ h => h.1) _ rfl rfl krf krf krf krf krf rfl (aba rfl (by intro w hS_; exact (aga a2 0 (Zz0 a1 a0) 65 (str ((el a1 a0).1)) hS_ rfl krf krf))) (by exact d3.blkAt 0 rfl) (ro 2 rfl (wc ent51 d3 (ahp b9 (hG.hp0 d3)) fun c2 a3 => wl (abu (by exact ⟨aay.out rfl, trivial⟩) (rp 30 [3] (rt 4 (Vb true) rfl rfl (aba rfl (by intro w hS_; exact Eq.trans (b := Result.ok (Next.value (.bool (!b5))) w) krf (congrArg (fun b => Result.ok (Next.value (.bool b)) w) b2))) (rp 25 [5, 6, 8, 9] ?_)))))))
 refine ro 7 rfl (wp 1 (wl (abu (by exact ⟨aay.same, trivial⟩) (rp 19 [10, 11, 12, 13, 14] (ro 15 rfl (wp 1 (wl (abu (by exact ⟨aay.same, trivial⟩) (rp 0 [16, 17, 18, 19, 20, 21, 22, 23, 24, 25, 26, 27, 28, 29, 30, 31, 32, 33] ?_)))))))))
 refine adn krf (wp 3 (wl (ql ?_)))
 obtain rfl := oi a5
 exact je a3.kp
 replace a5 := cff b2 a5
 refine bi a5 fun c0 c3 a5 => ?_
 by_cases b6 : c0 = ((el a1 a0).1)
 replace a5 := ift b6 a5
 refine bi a5 fun c4 c8 a5 => ?_
 rcases Bool.eq_false_or_eq_true (!c4) with b7 | b7
 replace a5 := cft b7 a5
 refine aeh 34 (fun j_ w_ w_' => aay (Zz12) (fun w' => w'.heap[a2]? = some (.cells (Zz0 a1 a0).toArray 65 (0, 0))) j_ w_ w_' ∧ aay (Zz18) (fun w' => w'.heap[a2]? = some (.cells (Zz0 a1 a0).toArray 65 (0, 0))) j_ w_ w_' ∧ aay (Zz19) (fun w' => w'.heap[a2]? = some (.cells (Zz0 a1 a0).toArray 65 (0, 0))) j_ w_ w_' ∧ aay (Zz28) (fun w' => w'.heap[a2]? = some (.cells (Zz0 a1 a0).toArray 65 (0, 0))) j_ w_ w_' ∧ True) (Zz13) (fun _ _ => ⟨aay.same, aay.same, aay.same, aay.same, trivial⟩) krf krf b4 rfl (aam (ade (aak (ade (aam (aak (aam adb))))))) fun i4 d4 => rp 33 [0] (aal (Zz14) 1 20 (str ((el a1 a0).1)) (Zz12) (fun _ _ _ h => h.1) _ rfl rfl krf krf krf krf krf rfl (aba rfl (by intro w hS_; exact (aga a2 0 (Zz0 a1 a0) 65 (str ((el a1 a0).1)) hS_ rfl krf krf))) (by exact d4.blkAt 0 rfl) (ro 2 rfl (wc ent51 d4 (ahp b9 (hG.hp0 d4)) fun c2 a3 => wl (abu (by exact ⟨aay.out rfl, aay.new (a3.blkAt 0 rfl), aay.new (a3.blkAt 0 rfl), aay.new (a3.blkAt 0 rfl), trivial⟩) (rp 30 [3] (rt 4 (Vb false) rfl rfl (aba rfl (by intro w hS_; exact Eq.trans (b := Result.ok (Next.value (.bool (!b5))) w) krf (congrArg (fun b => Result.ok (Next.value (.bool b)) w) b2))) (rp 28 [5] ?_)))))))
 refine aal (Zz16) 6 25 (str ((el a1 a0).1)) (Zz18) (fun _ _ _ h => h.2.1) _ rfl rfl krf krf krf krf krf rfl (aei 23 krf krf krf (by intro w hS_; exact (aga a2 0 (Zz0 a1 a0) 65 (str ((el a1 a0).1)) hS_ rfl krf krf))) (by exact a3.blkAt 0 rfl) (rp 26 [8] (aal (Zz17) 9 28 (str ((el a1 a0).1)) (Zz19) (fun _ _ _ h => h.2.2.1) _ rfl rfl krf krf krf krf krf rfl (aei 23 krf krf krf (by intro w hS_; exact (aga a2 0 (Zz0 a1 a0) 65 (str ((el a1 a0).1)) hS_ rfl krf krf))) (by exact a3.blkAt 0 rfl) (ro 7 rfl (gy 23 (wc ent98 a3 (afy c3 (hG.hp0 a3)) fun c9 a6 => wl (abu (by exact ⟨aay.out rfl, aay.out rfl, aay.new (a6.blkAt 0 rfl), aay.new (a6.blkAt 0 rfl), trivial⟩) (rp 22 [10, 11] (rt 12 (Vb false) rfl rfl (aba rfl (by intro w hS_; exact Eq.trans (b := Result.ok (Next.value (.bool (!decide (c0 = ((el a1 a0).1))))) w) krf (congrArg (fun b => Result.ok (Next.value (.bool b)) w) (by rw [decide_eq_true b6]; rfl)))) ?_))))))))
 refine rp 20 [13] (aal (Zz25) 14 33 (str ((el a1 a0).2.1)) (Zz28) (fun _ _ _ h => h.2.2.2.1) _ rfl rfl krf krf krf krf krf rfl (aei 31 krf krf krf (by intro w hS_; exact (aga a2 1 (Zz0 a1 a0) 65 (str ((el a1 a0).2.1)) hS_ rfl krf krf))) (by exact a6.blkAt 0 rfl) (ro 15 rfl (gy 31 (wc ent111 a6 (ann c8 (hG.hp0 a6)) fun d5 a7 => wl (abu (by exact ⟨aay.out rfl, aay.out rfl, aay.out rfl, aay.out rfl, trivial⟩) (rp 16 [16, 17] (rt 18 (Vb true) rfl rfl (aba rfl (by intro w hS_; exact Eq.trans (b := Result.ok (Next.value (.bool (!c4))) w) krf (congrArg (fun b => Result.ok (Next.value (.bool b)) w) b7))) (rp 0 [19, 20, 21, 22, 23, 24, 25, 26, 27, 28, 29, 30, 31, 32, 33] ?_))))))))
 refine adn krf (wp 3 (wl (ql ?_)))
 obtain rfl := oi a5
 exact je a7.kp
 replace a5 := cff b7 a5
 rcases Bool.eq_false_or_eq_true (!((el a1 a0).2.2)) with c1 | c1
 replace a5 := cft c1 a5
 by_cases d0 : ((el a1 a0).2.1) = ([] : Str)
 replace a5 := ift d0 a5
 refine gi a5 fun e2 a5 => aeh 34 (fun j_ w_ w_' => aay (Zz12) (fun w' => w'.heap[a2]? = some (.cells (Zz0 a1 a0).toArray 65 (0, 0))) j_ w_ w_' ∧ aay (Zz18) (fun w' => w'.heap[a2]? = some (.cells (Zz0 a1 a0).toArray 65 (0, 0))) j_ w_ w_' ∧ aay (Zz19) (fun w' => w'.heap[a2]? = some (.cells (Zz0 a1 a0).toArray 65 (0, 0))) j_ w_ w_' ∧ aay (Zz28) (fun w' => w'.heap[a2]? = some (.cells (Zz0 a1 a0).toArray 65 (0, 0))) j_ w_ w_' ∧ aay (Zz48) (fun w' => w'.heap[a2]? = some (.cells (Zz0 a1 a0).toArray 65 (0, 0))) j_ w_ w_' ∧ aay (Zz63) (fun w' => w'.heap[a2]? = some (.cells (Zz0 a1 a0).toArray 65 (0, 0))) j_ w_ w_' ∧ aay [34, 35, 36] (fun w' => w'.heap[a2]? = some (.cells (Zz0 a1 a0).toArray 65 (0, 0))) j_ w_ w_' ∧ True) (Zz13) (fun _ _ => ⟨aay.same, aay.same, aay.same, aay.same, aay.same, aay.same, aay.same, trivial⟩) krf krf b4 rfl (aam (ade (aak (ade (aam (aak (aam adb))))))) fun i5 d6 => rp 33 [0] (aal (Zz14) 1 20 (str ((el a1 a0).1)) (Zz12) (fun _ _ _ h => h.1) _ rfl rfl krf krf krf krf krf rfl (aba rfl (by intro w hS_; exact (aga a2 0 (Zz0 a1 a0) 65 (str ((el a1 a0).1)) hS_ rfl krf krf))) (by exact d6.blkAt 0 rfl) (ro 2 rfl (wc ent51 d6 (ahp b9 (hG.hp0 d6)) fun c2 a3 => wl (abu (by exact ⟨aay.out rfl, aay.new (a3.blkAt 0 rfl), aay.new (a3.blkAt 0 rfl), aay.new (a3.blkAt 0 rfl), aay.new (a3.blkAt 0 rfl), aay.new (a3.blkAt 0 rfl), aay.new (a3.blkAt 0 rfl), trivial⟩) (rp 30 [3] (rt 4 (Vb false) rfl rfl (aba rfl (by intro w hS_; exact Eq.trans (b := Result.ok (Next.value (.bool (!b5))) w) krf (congrArg (fun b => Result.ok (Next.value (.bool b)) w) b2))) ?_))))))
 refine rp 28 [5] (aal (Zz16) 6 25 (str ((el a1 a0).1)) (Zz18) (fun _ _ _ h => h.2.1) _ rfl rfl krf krf krf krf krf rfl (aei 23 krf krf krf (by intro w hS_; exact (aga a2 0 (Zz0 a1 a0) 65 (str ((el a1 a0).1)) hS_ rfl krf krf))) (by exact a3.blkAt 0 rfl) (rp 26 [8] (aal (Zz17) 9 28 (str ((el a1 a0).1)) (Zz19) (fun _ _ _ h => h.2.2.1) _ rfl rfl krf krf krf krf krf rfl (aei 23 krf krf krf (by intro w hS_; exact (aga a2 0 (Zz0 a1 a0) 65 (str ((el a1 a0).1)) hS_ rfl krf krf))) (by exact a3.blkAt 0 rfl) (ro 7 rfl (gy 23 (wc ent98 a3 (afy c3 (hG.hp0 a3)) fun c9 a6 => wl (abu (by exact ⟨aay.out rfl, aay.out rfl, aay.new (a6.blkAt 0 rfl), aay.new (a6.blkAt 0 rfl), aay.new (a6.blkAt 0 rfl), aay.new (a6.blkAt 0 rfl), aay.new (a6.blkAt 0 rfl), trivial⟩) (rp 22 [10, 11] ?_))))))))
 refine rt 12 (Vb false) rfl rfl (aba rfl (by intro w hS_; exact Eq.trans (b := Result.ok (Next.value (.bool (!decide (c0 = ((el a1 a0).1))))) w) krf (congrArg (fun b => Result.ok (Next.value (.bool b)) w) (by rw [decide_eq_true b6]; rfl)))) (rp 20 [13] (aal (Zz25) 14 33 (str ((el a1 a0).2.1)) (Zz28) (fun _ _ _ h => h.2.2.2.1) _ rfl rfl krf krf krf krf krf rfl (aei 31 krf krf krf (by intro w hS_; exact (aga a2 1 (Zz0 a1 a0) 65 (str ((el a1 a0).2.1)) hS_ rfl krf krf))) (by exact a6.blkAt 0 rfl) (ro 15 rfl (gy 31 (wc ent111 a6 (ann c8 (hG.hp0 a6)) fun d5 a7 => wl (abu (by exact ⟨aay.out rfl, aay.out rfl, aay.out rfl, aay.out rfl, aay.new (a7.blkAt 0 rfl), aay.new (a7.blkAt 0 rfl), aay.new (a7.blkAt 0 rfl), trivial⟩) (rp 16 [16, 17] (rt 18 (Vb false) rfl rfl (aba rfl (by intro w hS_; exact Eq.trans (b := Result.ok (Next.value (.bool (!c4))) w) krf (congrArg (fun b => Result.ok (Next.value (.bool b)) w) b7))) ?_))))))))
 refine rp 14 [19] (aal (Zz35) 20 39 (Vb ((el a1 a0).2.2)) (Zz48) (fun _ _ _ h => h.2.2.2.2.1) _ rfl rfl krf krf krf krf krf rfl (aei 37 krf krf krf (by intro w hS_; exact (aga a2 2 (Zz0 a1 a0) 65 (Vb ((el a1 a0).2.2)) hS_ rfl krf krf))) (by exact a7.blkAt 0 rfl) (rp 12 [21] (rt 22 (Vb true) rfl rfl (aei 37 krf krf krf (by intro w hS_; exact Eq.trans (b := Result.ok (Next.value (.bool (!((el a1 a0).2.2)))) w) krf (congrArg (fun b => Result.ok (Next.value (.bool b)) w) c1))) (rp 10 [23] (aal (Zz57) 24 43 (str ((el a1 a0).2.1)) (Zz63) (fun _ _ _ h => h.2.2.2.2.2.1) _ rfl rfl krf krf krf krf krf rfl (aei 41 krf krf krf (by intro w hS_; exact (aga a2 1 (Zz0 a1 a0) 65 (str ((el a1 a0).2.1)) hS_ rfl krf krf))) (by exact a7.blkAt 0 rfl) (rp 6 [25, 26, 27] (rt 28 (Vb false) rfl rfl (aba rfl (by intro w hS_; exact Eq.trans (b := Result.ok (Next.value (.bool (!decide (((el a1 a0).2.1) = ([] : Str))))) w) krf (congrArg (fun b => Result.ok (Next.value (.bool b)) w) (by rw [decide_eq_true d0]; rfl)))) (rp 3 [29, 30] (rt 31 (Vs b0 (zac a0) b1) rfl rfl (aei 47 krf krf krf (by intro w hS_; exact (x_slTo b0 a1.length b1 65 3 .i64 a0 underlying22 krf krf krf a1 rfl e2 c6))) ?_)))))))))
 refine rp 1 [32] (aal (Zz58) 33 52 (str ((el a1 a0).1)) [34, 35, 36] (fun _ _ _ h => h.2.2.2.2.2.2.1) _ rfl rfl krf krf krf krf krf rfl (aei 47 krf krf krf (by intro w hS_; exact (aga a2 0 (Zz0 a1 a0) 65 (str ((el a1 a0).1)) hS_ rfl krf krf))) (by exact a7.blkAt 0 rfl) (adn krf (gy 47 (bi a5 fun f3 f4 a5 => wc ent101 a7 (aqs b0 (zac a0) b1 f4 (hG.hp0 a7) (by first | rfl | (simp; done) | omega | (simp; omega) | (rw [zah]; omega)) (Rd.takeT aab (zac a0) (c5.hp a7)) (toNat_le e2 c6)) fun i6 f5 => gy 47 (afp f3 (0 : UInt8) krf krf (wp 1 (wl ?_)))))))
 refine ql ?_
 obtain rfl := oi a5
 exact je f5.kp
 replace a5 := ifn d0 a5
 refine aeh 34 (fun j_ w_ w_' => aay (Zz12) (fun w' => w'.heap[a2]? = some (.cells (Zz0 a1 a0).toArray 65 (0, 0))) j_ w_ w_' ∧ aay (Zz18) (fun w' => w'.heap[a2]? = some (.cells (Zz0 a1 a0).toArray 65 (0, 0))) j_ w_ w_' ∧ aay (Zz19) (fun w' => w'.heap[a2]? = some (.cells (Zz0 a1 a0).toArray 65 (0, 0))) j_ w_ w_' ∧ aay (Zz28) (fun w' => w'.heap[a2]? = some (.cells (Zz0 a1 a0).toArray 65 (0, 0))) j_ w_ w_' ∧ aay (Zz48) (fun w' => w'.heap[a2]? = some (.cells (Zz0 a1 a0).toArray 65 (0, 0))) j_ w_ w_' ∧ aay (Zz63) (fun w' => w'.heap[a2]? = some (.cells (Zz0 a1 a0).toArray 65 (0, 0))) j_ w_ w_' ∧ aay [34, 35, 36] (fun w' => w'.heap[a2]? = some (.cells (Zz0 a1 a0).toArray 65 (0, 0))) j_ w_ w_' ∧ True) (Zz13) (fun _ _ => ⟨aay.same, aay.same, aay.same, aay.same, aay.same, aay.same, aay.same, trivial⟩) krf krf b4 rfl (aam (ade (aak (ade (aam (aak (aam adb))))))) fun i7 d7 => rp 33 [0] (aal (Zz14) 1 20 (str ((el a1 a0).1)) (Zz12) (fun _ _ _ h => h.1) _ rfl rfl krf krf krf krf krf rfl (aba rfl (by intro w hS_; exact (aga a2 0 (Zz0 a1 a0) 65 (str ((el a1 a0).1)) hS_ rfl krf krf))) (by exact d7.blkAt 0 rfl) (ro 2 rfl (wc ent51 d7 (ahp b9 (hG.hp0 d7)) fun c2 a3 => wl (abu (by exact ⟨aay.out rfl, aay.new (a3.blkAt 0 rfl), aay.new (a3.blkAt 0 rfl), aay.new (a3.blkAt 0 rfl), aay.new (a3.blkAt 0 rfl), aay.new (a3.blkAt 0 rfl), aay.new (a3.blkAt 0 rfl), trivial⟩) (rp 30 [3] (rt 4 (Vb false) rfl rfl (aba rfl (by intro w hS_; exact Eq.trans (b := Result.ok (Next.value (.bool (!b5))) w) krf (congrArg (fun b => Result.ok (Next.value (.bool b)) w) b2))) (rp 28 [5] ?_)))))))
 refine aal (Zz16) 6 25 (str ((el a1 a0).1)) (Zz18) (fun _ _ _ h => h.2.1) _ rfl rfl krf krf krf krf krf rfl (aei 23 krf krf krf (by intro w hS_; exact (aga a2 0 (Zz0 a1 a0) 65 (str ((el a1 a0).1)) hS_ rfl krf krf))) (by exact a3.blkAt 0 rfl) (rp 26 [8] (aal (Zz17) 9 28 (str ((el a1 a0).1)) (Zz19) (fun _ _ _ h => h.2.2.1) _ rfl rfl krf krf krf krf krf rfl (aei 23 krf krf krf (by intro w hS_; exact (aga a2 0 (Zz0 a1 a0) 65 (str ((el a1 a0).1)) hS_ rfl krf krf))) (by exact a3.blkAt 0 rfl) (ro 7 rfl (gy 23 (wc ent98 a3 (afy c3 (hG.hp0 a3)) fun c9 a6 => wl (abu (by exact ⟨aay.out rfl, aay.out rfl, aay.new (a6.blkAt 0 rfl), aay.new (a6.blkAt 0 rfl), aay.new (a6.blkAt 0 rfl), aay.new (a6.blkAt 0 rfl), aay.new (a6.blkAt 0 rfl), trivial⟩) (rp 22 [10, 11] (rt 12 (Vb false) rfl rfl (aba rfl (by intro w hS_; exact Eq.trans (b := Result.ok (Next.value (.bool (!decide (c0 = ((el a1 a0).1))))) w) krf (congrArg (fun b => Result.ok (Next.value (.bool b)) w) (by rw [decide_eq_true b6]; rfl)))) ?_))))))))
 refine rp 20 [13] (aal (Zz25) 14 33 (str ((el a1 a0).2.1)) (Zz28) (fun _ _ _ h => h.2.2.2.1) _ rfl rfl krf krf krf krf krf rfl (aei 31 krf krf krf (by intro w hS_; exact (aga a2 1 (Zz0 a1 a0) 65 (str ((el a1 a0).2.1)) hS_ rfl krf krf))) (by exact a6.blkAt 0 rfl) (ro 15 rfl (gy 31 (wc ent111 a6 (ann c8 (hG.hp0 a6)) fun d5 a7 => wl (abu (by exact ⟨aay.out rfl, aay.out rfl, aay.out rfl, aay.out rfl, aay.new (a7.blkAt 0 rfl), aay.new (a7.blkAt 0 rfl), aay.new (a7.blkAt 0 rfl), trivial⟩) (rp 16 [16, 17] (rt 18 (Vb false) rfl rfl (aba rfl (by intro w hS_; exact Eq.trans (b := Result.ok (Next.value (.bool (!c4))) w) krf (congrArg (fun b => Result.ok (Next.value (.bool b)) w) b7))) (rp 14 [19] ?_))))))))
 refine aal (Zz35) 20 39 (Vb ((el a1 a0).2.2)) (Zz48) (fun _ _ _ h => h.2.2.2.2.1) _ rfl rfl krf krf krf krf krf rfl (aei 37 krf krf krf (by intro w hS_; exact (aga a2 2 (Zz0 a1 a0) 65 (Vb ((el a1 a0).2.2)) hS_ rfl krf krf))) (by exact a7.blkAt 0 rfl) (rp 12 [21] (rt 22 (Vb true) rfl rfl (aei 37 krf krf krf (by intro w hS_; exact Eq.trans (b := Result.ok (Next.value (.bool (!((el a1 a0).2.2)))) w) krf (congrArg (fun b => Result.ok (Next.value (.bool b)) w) c1))) (rp 10 [23] (aal (Zz57) 24 43 (str ((el a1 a0).2.1)) (Zz63) (fun _ _ _ h => h.2.2.2.2.2.1) _ rfl rfl krf krf krf krf krf rfl (aei 41 krf krf krf (by intro w hS_; exact (aga a2 1 (Zz0 a1 a0) 65 (str ((el a1 a0).2.1)) hS_ rfl krf krf))) (by exact a7.blkAt 0 rfl) (rp 6 [25, 26, 27] (rt 28 (Vb true) rfl rfl (aba rfl (by intro w hS_; exact Eq.trans (b := Result.ok (Next.value (.bool (!decide (((el a1 a0).2.1) = ([] : Str))))) w) krf (congrArg (fun b => Result.ok (Next.value (.bool b)) w) (by rw [decide_eq_false d0]; rfl)))) (rp 0 [29, 30, 31, 32, 33] (adn krf (wp 3 ?_)))))))))
 refine wl (ql ?_)
 obtain rfl := oi a5
 exact je a7.kp
 replace a5 := cff c1 a5
 refine gi a5 fun e3 a5 => aeh 34 (fun j_ w_ w_' => aay (Zz12) (fun w' => w'.heap[a2]? = some (.cells (Zz0 a1 a0).toArray 65 (0, 0))) j_ w_ w_' ∧ aay (Zz18) (fun w' => w'.heap[a2]? = some (.cells (Zz0 a1 a0).toArray 65 (0, 0))) j_ w_ w_' ∧ aay (Zz19) (fun w' => w'.heap[a2]? = some (.cells (Zz0 a1 a0).toArray 65 (0, 0))) j_ w_ w_' ∧ aay (Zz28) (fun w' => w'.heap[a2]? = some (.cells (Zz0 a1 a0).toArray 65 (0, 0))) j_ w_ w_' ∧ aay (Zz48) (fun w' => w'.heap[a2]? = some (.cells (Zz0 a1 a0).toArray 65 (0, 0))) j_ w_ w_' ∧ aay (Zz63) (fun w' => w'.heap[a2]? = some (.cells (Zz0 a1 a0).toArray 65 (0, 0))) j_ w_ w_' ∧ aay [34, 35, 36] (fun w' => w'.heap[a2]? = some (.cells (Zz0 a1 a0).toArray 65 (0, 0))) j_ w_ w_' ∧ True) (Zz13) (fun _ _ => ⟨aay.same, aay.same, aay.same, aay.same, aay.same, aay.same, aay.same, trivial⟩) krf krf b4 rfl (aam (ade (aak (ade (aam (aak (aam adb))))))) fun i9 d8 => rp 33 [0] (aal (Zz14) 1 20 (str ((el a1 a0).1)) (Zz12) (fun _ _ _ h => h.1) _ rfl rfl krf krf krf krf krf rfl (aba rfl (by intro w hS_; exact (aga a2 0 (Zz0 a1 a0) 65 (str ((el a1 a0).1)) hS_ rfl krf krf))) (by exact d8.blkAt 0 rfl) (ro 2 rfl (wc ent51 d8 (ahp b9 (hG.hp0 d8)) fun c2 a3 => wl (abu (by exact ⟨aay.out rfl, aay.new (a3.blkAt 0 rfl), aay.new (a3.blkAt 0 rfl), aay.new (a3.blkAt 0 rfl), aay.new (a3.blkAt 0 rfl), aay.new (a3.blkAt 0 rfl), aay.new (a3.blkAt 0 rfl), trivial⟩) (rp 30 [3] (rt 4 (Vb false) rfl rfl (aba rfl (by intro w hS_; exact Eq.trans (b := Result.ok (Next.value (.bool (!b5))) w) krf (congrArg (fun b => Result.ok (Next.value (.bool b)) w) b2))) ?_))))))
 refine rp 28 [5] (aal (Zz16) 6 25 (str ((el a1 a0).1)) (Zz18) (fun _ _ _ h => h.2.1) _ rfl rfl krf krf krf krf krf rfl (aei 23 krf krf krf (by intro w hS_; exact (aga a2 0 (Zz0 a1 a0) 65 (str ((el a1 a0).1)) hS_ rfl krf krf))) (by exact a3.blkAt 0 rfl) (rp 26 [8] (aal (Zz17) 9 28 (str ((el a1 a0).1)) (Zz19) (fun _ _ _ h => h.2.2.1) _ rfl rfl krf krf krf krf krf rfl (aei 23 krf krf krf (by intro w hS_; exact (aga a2 0 (Zz0 a1 a0) 65 (str ((el a1 a0).1)) hS_ rfl krf krf))) (by exact a3.blkAt 0 rfl) (ro 7 rfl (gy 23 (wc ent98 a3 (afy c3 (hG.hp0 a3)) fun c9 a6 => wl (abu (by exact ⟨aay.out rfl, aay.out rfl, aay.new (a6.blkAt 0 rfl), aay.new (a6.blkAt 0 rfl), aay.new (a6.blkAt 0 rfl), aay.new (a6.blkAt 0 rfl), aay.new (a6.blkAt 0 rfl), trivial⟩) (rp 22 [10, 11] ?_))))))))
 refine rt 12 (Vb false) rfl rfl (aba rfl (by intro w hS_; exact Eq.trans (b := Result.ok (Next.value (.bool (!decide (c0 = ((el a1 a0).1))))) w) krf (congrArg (fun b => Result.ok (Next.value (.bool b)) w) (by rw [decide_eq_true b6]; rfl)))) (rp 20 [13] (aal (Zz25) 14 33 (str ((el a1 a0).2.1)) (Zz28) (fun _ _ _ h => h.2.2.2.1) _ rfl rfl krf krf krf krf krf rfl (aei 31 krf krf krf (by intro w hS_; exact (aga a2 1 (Zz0 a1 a0) 65 (str ((el a1 a0).2.1)) hS_ rfl krf krf))) (by exact a6.blkAt 0 rfl) (ro 15 rfl (gy 31 (wc ent111 a6 (ann c8 (hG.hp0 a6)) fun d5 a7 => wl (abu (by exact ⟨aay.out rfl, aay.out rfl, aay.out rfl, aay.out rfl, aay.new (a7.blkAt 0 rfl), aay.new (a7.blkAt 0 rfl), aay.new (a7.blkAt 0 rfl), trivial⟩) (rp 16 [16, 17] (rt 18 (Vb false) rfl rfl (aba rfl (by intro w hS_; exact Eq.trans (b := Result.ok (Next.value (.bool (!c4))) w) krf (congrArg (fun b => Result.ok (Next.value (.bool b)) w) b7))) ?_))))))))
 refine rp 14 [19] (aal (Zz35) 20 39 (Vb ((el a1 a0).2.2)) (Zz48) (fun _ _ _ h => h.2.2.2.2.1) _ rfl rfl krf krf krf krf krf rfl (aei 37 krf krf krf (by intro w hS_; exact (aga a2 2 (Zz0 a1 a0) 65 (Vb ((el a1 a0).2.2)) hS_ rfl krf krf))) (by exact a7.blkAt 0 rfl) (rp 12 [21] (rt 22 (Vb false) rfl rfl (aei 37 krf krf krf (by intro w hS_; exact Eq.trans (b := Result.ok (Next.value (.bool (!((el a1 a0).2.2)))) w) krf (congrArg (fun b => Result.ok (Next.value (.bool b)) w) c1))) (rp 3 [23, 24, 25, 26, 27, 28, 29, 30] (rt 31 (Vs b0 (zac a0) b1) rfl rfl (aei 47 krf krf krf (by intro w hS_; exact (x_slTo b0 a1.length b1 65 3 .i64 a0 underlying22 krf krf krf a1 rfl e3 c6))) (rp 1 [32] (aal (Zz58) 33 52 (str ((el a1 a0).1)) [34, 35, 36] (fun _ _ _ h => h.2.2.2.2.2.2.1) _ rfl rfl krf krf krf krf krf rfl (aei 47 krf krf krf (by intro w hS_; exact (aga a2 0 (Zz0 a1 a0) 65 (str ((el a1 a0).1)) hS_ rfl krf krf))) (by exact a7.blkAt 0 rfl) (adn krf (gy 47 ?_)))))))))
 refine bi a5 fun f6 f7 a5 => wc ent101 a7 (aqs b0 (zac a0) b1 f7 (hG.hp0 a7) (by first | rfl | (simp; done) | omega | (simp; omega) | (rw [zah]; omega)) (Rd.takeT aab (zac a0) (c5.hp a7)) (toNat_le e3 c6)) fun j0 f8 => gy 47 (afp f6 (0 : UInt8) krf krf (wp 1 (wl (ql ?_))))
 obtain rfl := oi a5
 exact je f8.kp
 replace a5 := ifn b6 a5
 refine aeh 34 (fun j_ w_ w_' => aay (Zz12) (fun w' => w'.heap[a2]? = some (.cells (Zz0 a1 a0).toArray 65 (0, 0))) j_ w_ w_' ∧ aay (Zz18) (fun w' => w'.heap[a2]? = some (.cells (Zz0 a1 a0).toArray 65 (0, 0))) j_ w_ w_' ∧ aay (Zz19) (fun w' => w'.heap[a2]? = some (.cells (Zz0 a1 a0).toArray 65 (0, 0))) j_ w_ w_' ∧ aay (Zz28) (fun w' => w'.heap[a2]? = some (.cells (Zz0 a1 a0).toArray 65 (0, 0))) j_ w_ w_' ∧ aay (Zz48) (fun w' => w'.heap[a2]? = some (.cells (Zz0 a1 a0).toArray 65 (0, 0))) j_ w_ w_' ∧ aay (Zz63) (fun w' => w'.heap[a2]? = some (.cells (Zz0 a1 a0).toArray 65 (0, 0))) j_ w_ w_' ∧ aay [34, 35, 36] (fun w' => w'.heap[a2]? = some (.cells (Zz0 a1 a0).toArray 65 (0, 0))) j_ w_ w_' ∧ True) (Zz13) (fun _ _ => ⟨aay.same, aay.same, aay.same, aay.same, aay.same, aay.same, aay.same, trivial⟩) krf krf b4 rfl (aam (ade (aak (ade (aam (aak (aam adb))))))) fun j1 d9 => rp 33 [0] (aal (Zz14) 1 20 (str ((el a1 a0).1)) (Zz12) (fun _ _ _ h => h.1) _ rfl rfl krf krf krf krf krf rfl (aba rfl (by intro w hS_; exact (aga a2 0 (Zz0 a1 a0) 65 (str ((el a1 a0).1)) hS_ rfl krf krf))) (by exact d9.blkAt 0 rfl) (ro 2 rfl (wc ent51 d9 (ahp b9 (hG.hp0 d9)) fun c2 a3 => wl (abu (by exact ⟨aay.out rfl, aay.new (a3.blkAt 0 rfl), aay.new (a3.blkAt 0 rfl), aay.new (a3.blkAt 0 rfl), aay.new (a3.blkAt 0 rfl), aay.new (a3.blkAt 0 rfl), aay.new (a3.blkAt 0 rfl), trivial⟩) (rp 30 [3] (rt 4 (Vb false) rfl rfl (aba rfl (by intro w hS_; exact Eq.trans (b := Result.ok (Next.value (.bool (!b5))) w) krf (congrArg (fun b => Result.ok (Next.value (.bool b)) w) b2))) (rp 28 [5] ?_)))))))
 refine aal (Zz16) 6 25 (str ((el a1 a0).1)) (Zz18) (fun _ _ _ h => h.2.1) _ rfl rfl krf krf krf krf krf rfl (aei 23 krf krf krf (by intro w hS_; exact (aga a2 0 (Zz0 a1 a0) 65 (str ((el a1 a0).1)) hS_ rfl krf krf))) (by exact a3.blkAt 0 rfl) (rp 26 [8] (aal (Zz17) 9 28 (str ((el a1 a0).1)) (Zz19) (fun _ _ _ h => h.2.2.1) _ rfl rfl krf krf krf krf krf rfl (aei 23 krf krf krf (by intro w hS_; exact (aga a2 0 (Zz0 a1 a0) 65 (str ((el a1 a0).1)) hS_ rfl krf krf))) (by exact a3.blkAt 0 rfl) (ro 7 rfl (gy 23 (wc ent98 a3 (afy c3 (hG.hp0 a3)) fun c9 a6 => wl (abu (by exact ⟨aay.out rfl, aay.out rfl, aay.new (a6.blkAt 0 rfl), aay.new (a6.blkAt 0 rfl), aay.new (a6.blkAt 0 rfl), aay.new (a6.blkAt 0 rfl), aay.new (a6.blkAt 0 rfl), trivial⟩) (rp 22 [10, 11] (rt 12 (Vb true) rfl rfl (aba rfl (by intro w hS_; exact Eq.trans (b := Result.ok (Next.value (.bool (!decide (c0 = ((el a1 a0).1))))) w) krf (congrArg (fun b => Result.ok (Next.value (.bool b)) w) (by rw [decide_eq_false b6]; rfl)))) ?_))))))))
 refine rp 19 [13, 14] (ro 15 rfl (wp 1 (wl (abu (by exact ⟨aay.same, aay.same, aay.same, aay.same, aay.same, aay.same, aay.same, trivial⟩) (rp 0 [16, 17, 18, 19, 20, 21, 22, 23, 24, 25, 26, 27, 28, 29, 30, 31, 32, 33] (adn krf (wp 3 (wl (ql ?_)))))))))
 obtain rfl := oi a5
 exact je a6.kp
 intro j2 G b3
 refine cb a4 (fun f9 a4 => ?_) (fun f9 a4 => ?_)
 refine sr (wp 2 (nq (ct (st (bt_ (st (adg ?_)))))))
 refine bt_ (adg ?_)
 obtain rfl := oi a4
 obtain rfl := oi hr
 exact rv b3.kp
 refine ck (qn (sr (wp 1 (gi a4 fun g0 a4 => adf a8 ([59] : Str) krf krf g0 (wp 1 (abs b3 0 a2 0 (Zz0 a1 a0) 65 (str ((el a1 a0).1)) rfl rfl krf krf (gi a4 fun g1 a4 => ?_)))))))
 refine adf (a8 ++ ([59] : Str)) ((el a1 a0).1) krf krf g1 (wp 1 (nq (bi a4 fun g2 a9 a4 => age b3 [0, 2, 3, 4, 5, 6, 72] [(72, (Vb g2))] ?_ ?_)))
 refine cr (wp 1 (abs b3 0 a2 2 (Zz0 a1 a0) 65 (Vb ((el a1 a0).2.2)) rfl rfl krf krf (wb a9 (fun g3 a9 => ?_) (fun g3 a9 => ?_))))
 refine wp 1 (gy 63 (abs b3 0 a2 1 (Zz0 a1 a0) 65 (str ((el a1 a0).2.1)) rfl rfl krf krf (gy 63 (bi a9 fun j3 g4 a9 => wc ent51 b3 (ahp g4 (hG.hp0 b3)) fun j4 d1 => gy 63 (wb a9 (fun g5 a9 => ?_) (fun g5 a9 => ?_))))))
 refine wp 5 (wl (ql ?_))
 obtain rfl := oi a9
 exact je d1.kp
 refine wp 1 (gy 67 (abs d1 0 a2 1 (Zz0 a1 a0) 65 (str ((el a1 a0).2.1)) rfl rfl krf krf (gy 67 (bi a9 fun j5 g6 a9 => wc ent112 d1 (K_L_ref02_Bracketed g6 (hG.hp0 d1)) fun j6 g7 => wp 2 (wl (ql ?_))))))
 obtain rfl := oi a9
 exact je g7.kp
 refine wp 9 (wl (ql ?_))
 obtain rfl := oi a9
 exact je b3.kp
 intro j7 G b8
 refine cb a4 (fun g8 a4 => ?_) (fun g8 a4 => ?_)
 refine cr (wp 1 (gi a4 fun g9 a4 => adf ((a8 ++ ([59] : Str)) ++ ((el a1 a0).1)) ([61] : Str) krf krf g9 (wp 1 (abs b8 0 a2 1 (Zz0 a1 a0) 65 (str ((el a1 a0).2.1)) rfl rfl krf krf (gi a4 fun h0 a4 => adf (((a8 ++ ([59] : Str)) ++ ((el a1 a0).1)) ++ ([61] : Str)) ((el a1 a0).2.1) krf krf h0 (wp 1 (wl ?_)))))))
 exact bn (qn (cr (wp 1 (gi a4 fun h1 a4 => aae a0 (1 : Int) krf krf h1 (wp 1 (wl (ql (le' ((((a8 ++ ([59] : Str)) ++ ((el a1 a0).1)) ++ ([61] : Str)) ++ ((el a1 a0).2.1), a0 + (1 : Int)) b8.kp a4))))))))
 refine sr (wp 1 (abs b8 0 a2 2 (Zz0 a1 a0) 65 (Vb ((el a1 a0).2.2)) rfl rfl krf krf (nq (cb a4 (fun h2 a4 => ?_) (fun h2 a4 => ?_)))))
 refine sr (wp 1 (abs b8 0 a2 1 (Zz0 a1 a0) 65 (str ((el a1 a0).2.1)) rfl rfl krf krf (bi a4 fun e4 h3 a4 => wc ent113 b8 (K_L_ref01_Quote h3 (hG.hp0 b8)) fun j8 h4 => wp 5 (nq (cr ?_)))))
 refine wp 1 (gi a4 fun h5 a4 => adf ((a8 ++ ([59] : Str)) ++ ((el a1 a0).1)) ([61] : Str) krf krf h5 (wp 1 (gi a4 fun h6 a4 => adf (((a8 ++ ([59] : Str)) ++ ((el a1 a0).1)) ++ ([61] : Str)) e4.1 krf krf h6 (wp 1 (wl (bn (qn ?_)))))))
 exact cr (wp 1 (gi a4 fun h7 a4 => aae a0 (1 : Int) krf krf h7 (wp 1 (wl (ql (le' ((((a8 ++ ([59] : Str)) ++ ((el a1 a0).1)) ++ ([61] : Str)) ++ e4.1, a0 + (1 : Int)) h4.kp a4))))))
 exact ck (bn (qn (cr (wp 1 (gi a4 fun h8 a4 => aae a0 (1 : Int) krf krf h8 (wp 1 (wl (ql (le' ((a8 ++ ([59] : Str)) ++ ((el a1 a0).1), a0 + (1 : Int)) b8.kp a4)))))))))
 refine abq (abp (aby (abr (ql ?_))))
 obtain rfl := oi a4
 exact je1 rfl c7.kp
 rintro e0 j9 G h9 rfl
 refine sr (wp 3 (nq (ct ?_)))
 obtain rfl := oi hr
 exact rv h9.kp
theorem K_L_ref03_Decimal : ∀ {fu : Nat} {a0 : Int} {w : World} {r : Str} (hr : aho fu a0 = some r) (hG : Gl w), CR prog 54 [(Vi .i64 a0)] w fun v w' => v = (str r) ∧ Hp w [] [] w' := by
 intro fu
 induction fu with
 | zero =>
  intro a0 w r hr hG
  exact nzz hr
 | succ fu ih =>
 intro a0 w r hr hG
 have hH := Hp.refl w
 refine enter (k := 19) func54 rfl rfl nbe ?_
 rw [aho.eq_2] at hr
 refine sr (wp 1 (nq (cs (sr (wp 2 (wl ?_))))))
 refine qn (cd hr (fun h1 hr => ?_) (fun h1 hr => ?_))
 refine sr (wp 2 (gi hr fun g2 hr => aae a0 (1 : Int) krf krf g2 (gi hr fun g3 hr => alo ((Zz90) : Str) .i64 .i64 a0 (a0 + (1 : Int)) underlying9 krf krf krf g3 (wp 1 (nq ?_)))))
 refine ct (st ?_)
 obtain rfl := oi hr
 exact rv hH.kp
 refine ck (qn (cs (gi hr fun g4 hr => bi hr fun y5 a2 hr => gi hr fun a3 hr => gi hr fun a4 hr => gi hr fun a5 hr => gi hr fun a6 hr => cdr 9 hH (ade adb) fun a9 a1 => ?_)))
 refine rp 8 [0] (rt 1 (Vi .i64 (a0 / (10 : Int))) rfl rfl (aba rfl (by intro w hS_; exact (x_quoT a0 (10 : Int) krf krf g4))) (rp 6 [3] (rt 4 (Vi .i64 (a0 % (10 : Int))) rfl rfl (aba rfl (by intro w hS_; exact (x_remT a0 (10 : Int) krf krf a3))) (rp 4 [5] (rt 6 (Vi .i64 (a0 % (10 : Int))) rfl rfl (aba rfl (by intro w hS_; exact (x_remT a0 (10 : Int) krf krf a4))) (rt 7 (Vi .i64 ((a0 % (10 : Int)) + (1 : Int))) rfl rfl (aba rfl (by intro w hS_; exact (aln (a0 % (10 : Int)) (1 : Int) krf krf a5))) (rt 8 (str (sub ((Zz90) : Str) (a0 % (10 : Int)) ((a0 % (10 : Int)) + (1 : Int)))) rfl rfl (aba rfl (by intro w hS_; exact (x_slice ((Zz90) : Str) .i64 .i64 (a0 % (10 : Int)) ((a0 % (10 : Int)) + (1 : Int)) underlying9 krf krf krf a6))) (ro 2 rfl (wc ent54 a1 (ih a2 (hG.hp0 a1)) fun w7 a7 => ?_)))))))))
 refine wl (abu (by exact trivial) (adn krf (gi hr fun a8 hr => adf y5 (sub ((Zz90) : Str) (a0 % (10 : Int)) ((a0 % (10 : Int)) + (1 : Int))) krf krf a8 (wp 1 (nq (ct ?_))))))
 obtain rfl := oi hr
 exact rv a7.kp
theorem K_L_ref03_PrintVia {fu : Nat} {a0 : (Str × Str × Int × Str × (List PQ))} (a2 : Option Addr) (d1 : Nat) (a3 : Nat) {w : World} {r : (Str × UInt8)} (hr : akr fu a0 = some r) (hG : Gl w) (f3 : d1 = a0.2.2.2.2.length) (c5 : Rd w a2 (zai aaa a0.2.2.2.2)) (j3 : d1 ≤ a3) : CR prog 11 [(zan #[(str a0.1), (str a0.2.1), (Vi .i64 a0.2.2.1), (str a0.2.2.2.1), (Vs a2 d1 a3)])] w fun v w' => v = (zak #[(str r.1), (bt r.2)]) ∧ Hp w [] [] w' := by
 subst f3
 have hH := Hp.refl w
 refine enter (k := 93) func11 rfl rfl nbe ?_
 unfold akr at hr
 refine sr (adr hH (Zz7 a0.1 a0.2.1 a0.2.2.1 a0.2.2.2.1 a2 a0.2.2.2.2.length a3) 24 (fun b => (Vp (some ⟨b, 0, none⟩))) rfl rfl krf fun b1 w2 d2 => wp 2 (nq (sr (wp 1 (abs d2 0 b1 1 (Zz7 a0.1 a0.2.1 a0.2.2.1 a0.2.2.2.1 a2 a0.2.2.2.2.length a3) 24 (str a0.2.1) rfl rfl krf krf ?_)))))
 refine bi hr fun y4 f4 hr => wc ent43 d2 (aom f4 (hG.hp0 d2)) fun w6 c6 => wp 5 (nq (cs (bi hr fun f5 a5 hr => age c6 [1, 2, 3, 4, 34] [(34, (Vb f5))] ?_ ?_)))
 refine cr (wp 1 (abs c6 0 b1 0 (Zz7 a0.1 a0.2.1 a0.2.2.1 a0.2.2.2.1 a2 a0.2.2.2.2.length a3) 24 (str a0.1) rfl rfl krf krf (bi a5 fun j4 f6 a5 => wc ent51 c6 (ahp f6 (hG.hp0 c6)) fun j5 b9 => wp 1 (wb a5 (fun f7 a5 => ?_) (fun f7 a5 => ?_)))))
 refine wp 13 (wl (ql ?_))
 obtain rfl := oi a5
 exact je b9.kp
 refine wp 3 (wb a5 (fun f8 a5 => ?_) (fun f8 a5 => ?_))
 refine wp 9 (wl (ql ?_))
 obtain rfl := oi a5
 exact je b9.kp
 refine wp 1 (gy 25 (abs b9 0 b1 2 (Zz7 a0.1 a0.2.1 a0.2.2.1 a0.2.2.2.1 a2 a0.2.2.2.2.length a3) 24 (Vi .i64 a0.2.2.1) rfl rfl krf krf (wp 2 (wd a5 (fun f9 a5 => ?_) (fun f9 a5 => ?_)))))
 refine wp 4 (wl (ql ?_))
 obtain rfl := oi a5
 exact je b9.kp
 refine wp 1 (gy 30 (abs b9 0 b1 2 (Zz7 a0.1 a0.2.1 a0.2.2.1 a0.2.2.2.1 a2 a0.2.2.2.2.length a3) 24 (Vi .i64 a0.2.2.1) rfl rfl krf krf (wp 2 (wl (ql ?_)))))
 obtain rfl := oi a5
 exact je b9.kp
 intro j6 G d8
 refine cb hr (fun g0 hr => ?_) (fun g0 hr => ?_)
 refine sr (wp 2 (nq (ct (st ?_))))
 obtain rfl := oi hr
 exact rv d8.kp
 refine ck (qn (sr (wp 1 (nq (bi hr fun d9 g1 hr => cut (σ := (List PQ) × (Option Nat) × (Option Addr) × Nat) [1, 2, 3, 4, 6] (fun ⟨a8, c2, c0, c1⟩ => [(6, (Vs c0 a8.length c1))]) (fun ⟨a8, c2, c0, c1⟩ w' => Hp w [] (Zz95 b1 a0.1 a0.2.1 a0.2.2.1 a0.2.2.2.1 a2 a0.2.2.2.2.length a3 c2 c0 c1 a8) w' ∧ a8 = d9) ?_ ?_)))))
 refine sr (wp 1 (nq (ce (lpG (σ := Nat × (List PQ) × Int × (Option Nat) × (Option Addr) × Nat) [1, 2, 3, 4, 6, 7] (fun ⟨b5, a6, a1, b6, b0, b2⟩ => [(6, (Vs b0 a6.length b2)), (7, (Vi .i64 a1))]) (fun ⟨b5, a6, a1, b6, b0, b2⟩ w' => Hp w [] (Zz95 b1 a0.1 a0.2.1 a0.2.2.1 a0.2.2.2.1 a2 a0.2.2.2.2.length a3 b6 b0 b2 a6) w' ∧ aed fu a0 b5 a6 a1 = some d9) (fun ⟨b5, a6, a1, b6, b0, b2⟩ => b5) (fu, ([] : List PQ), (0 : Int), none, none, 0) (by exact ⟨(Hp.front (Hp.nilrw d8 aaa 65 3 none) 1 _ rfl).kp, g1⟩) ?_ (mc krf (mc krf (mc krf (mc krf (mc (Eq.trans (b := (Vs none 0 0)) krf (aaj lsy)) (mc krf rfl))))))))))
 rintro ⟨_ | b5, a6, a1, b6, b0, b2⟩ j7 G ⟨a7, a4⟩
 · exact nzz a4
 rw [aed.eq_2] at a4
 refine cs (sr (wp 2 (abs a7 0 b1 4 (Zz7 a0.1 a0.2.1 a0.2.2.1 a0.2.2.2.1 a2 a0.2.2.2.2.length a3) 24 (Vs a2 a0.2.2.2.2.length a3) rfl rfl krf krf (wp 2 (nq (cd a4 (fun g2 a4 => ?_) (fun g2 a4 => ?_)))))))
 refine ck (qn (cs (ce (sr (wp 1 (abs a7 0 b1 4 (Zz7 a0.1 a0.2.1 a0.2.2.1 a0.2.2.2.1 a2 a0.2.2.2.2.length a3) 24 (Vs a2 a0.2.2.2.2.length a3) rfl rfl krf krf (wp 1 (gi a4 fun g3 a4 => ?_))))))))
 refine ahl a2 a0.2.2.2.2.length a3 65 3 .i64 a1 underlying22 krf krf krf a0.2.2.2.2 rfl g3 (c5.hp a7) aab (by decide) (w_fldE a2 ((a1).toNat * 3) 0 krf krf (gi a4 fun g4 a4 => w_ldF a2 aaa a0.2.2.2.2 3 a1 0 aab (c5.hp a7) (str ((el a0.2.2.2.2 a1).1)) g4 (by decide) krf krf krf (wp 1 (nq (cn a4 (fun g5 a4 => ?_) (fun g5 a4 => ?_))))))
 refine cr (wp 2 (abs a7 0 b1 4 (Zz7 a0.1 a0.2.1 a0.2.2.1 a0.2.2.2.1 a2 a0.2.2.2.2.length a3) 24 (Vs a2 a0.2.2.2.2.length a3) rfl rfl krf krf (wp 1 (gi a4 fun g6 a4 => ahl a2 a0.2.2.2.2.length a3 65 3 .i64 a1 underlying22 krf krf krf a0.2.2.2.2 rfl g6 (c5.hp a7) aab (by decide) (gi a4 fun g7 a4 => ajh a2 aaa a0.2.2.2.2 3 a1 aab (c5.hp a7) (Zz0 a0.2.2.2.2 a1) g7 krf krf krf krf (by decide) (adr a7 (Zz0 a0.2.2.2.2 a1) 65 (fun b => (Vs (some ⟨b, 0, none⟩) 1 1)) rfl rfl krf fun d3 j8 e0 => gi a4 fun g8 a4 => ?_))))))
 refine adm e0 2 b6 b0 (some ⟨d3, 0, none⟩) b2 1 65 3 40 a6 ([((el a0.2.2.2.2 a1).1, (el a0.2.2.2.2 a1).2.1, ((el a0.2.2.2.2 a1).2.2))] : List PQ) aab rfl underlying22 (by unfold TI; kernel_rfl) (by decide) (by decide) krf (Eq.trans (b := (Vs (some ⟨d3, 0, none⟩) 1 1)) krf (aaj (by first | rfl | (simp; done) | omega | (simp; omega) | (rw [zah]; omega)))) (e0.rdblk 0 rfl) g8 fun e1 e2 e3 g9 d4 => ?_
 replace d4 : Hp w [] [blk d3 (Zz0 a0.2.2.2.2 a1) 65, blk b1 (Zz7 a0.1 a0.2.1 a0.2.2.1 a0.2.2.2.1 a2 a0.2.2.2.2.length a3) 24, rwt aaa 65 3 e1 e2 e3 (a6 ++ ([((el a0.2.2.2.2 a1).1, (el a0.2.2.2.2 a1).2.1, ((el a0.2.2.2.2 a1).2.2))] : List PQ))] g9 := d4
 refine wp 1 (wl (bn (qn (cr (wp 1 (gi a4 fun h0 a4 => aae a1 (1 : Int) krf krf h0 (wp 1 (wl ?_))))))))
 refine ql ?_
 exact ⟨(b5, a6 ++ ([((el a0.2.2.2.2 a1).1, (el a0.2.2.2.2 a1).2.1, ((el a0.2.2.2.2 a1).2.2))] : List PQ), a1 + (1 : Int), e1, e2, e3), _, rfl, by kernel_rfl, ⟨(Hp.front (Hp.front d4 2 _ rfl) 2 _ rfl).kp, a4⟩, zad _⟩
 refine ck (bn (qn (cr (wp 1 (gi a4 fun h1 a4 => aae a1 (1 : Int) krf krf h1 (wp 1 (wl (ql ?_))))))))
 exact ⟨(b5, a6, a1 + (1 : Int), b6, b0, b2), _, rfl, by kernel_rfl, ⟨(Hp.front (Hp.front a7 1 _ rfl) 1 _ rfl).kp, a4⟩, zad _⟩
 refine abq (abp (aby (abr (ql ?_))))
 obtain rfl := oi a4
 exact ⟨(a6, b6, b0, b2), _, rfl, by kernel_rfl, (Hp.front (Hp.front a7 1 _ rfl) 1 _ rfl).kp, rfl⟩
 rintro ⟨a8, c2, c0, c1⟩ j9 G ⟨c7, rfl⟩
 refine bi hr fun h2 b7 hr => cut (σ := (List PQ) × (Option Nat) × (Option Addr) × Nat) [1, 2, 3, 4, 6] (fun ⟨a9, c3, b3, b4⟩ => [(6, (Vs b3 a9.length b4))]) (fun ⟨a9, c3, b3, b4⟩ w' => Hp w [] (Zz95 b1 a0.1 a0.2.1 a0.2.2.1 a0.2.2.2.1 a2 a0.2.2.2.2.length a3 c3 b3 b4 a9) w' ∧ a9 = h2) ?_ ?_
 refine sr (wp 1 (abs c7 0 b1 3 (Zz7 a0.1 a0.2.1 a0.2.2.1 a0.2.2.2.1 a2 a0.2.2.2.2.length a3) 24 (str a0.2.2.2.1) rfl rfl krf krf (wp 1 (nq (cn b7 (fun h3 b7 => ?_) (fun h3 b7 => ?_))))))
 refine cr (wp 2 (abs c7 0 b1 3 (Zz7 a0.1 a0.2.1 a0.2.2.1 a0.2.2.2.1 a2 a0.2.2.2.2.length a3) 24 (str a0.2.2.2.1) rfl rfl krf krf (wp 1 (adr c7 [(str ((Zz68) : Str)), (str a0.2.2.2.1), (Vb true)] 65 (fun b => (Vs (some ⟨b, 0, none⟩) 1 1)) rfl rfl krf fun d5 k0 e4 => gi b7 fun h4 b7 => adm e4 2 c2 c0 (some ⟨d5, 0, none⟩) c1 1 65 3 40 a8 ([(((Zz68) : Str), a0.2.2.2.1, true)] : List PQ) aab rfl underlying22 (by unfold TI; kernel_rfl) (by decide) (by decide) krf (Eq.trans (b := (Vs (some ⟨d5, 0, none⟩) 1 1)) krf (aaj (by first | rfl | (simp; done) | omega | (simp; omega) | (rw [zah]; omega)))) (e4.rdblk 0 rfl) h4 fun e5 e6 e7 h5 d6 => ?_))))
 replace d6 : Hp w [] [blk d5 [(str ((Zz68) : Str)), (str a0.2.2.2.1), (Vb true)] 65, blk b1 (Zz7 a0.1 a0.2.1 a0.2.2.1 a0.2.2.2.1 a2 a0.2.2.2.2.length a3) 24, rwt aaa 65 3 e5 e6 e7 (a8 ++ ([(((Zz68) : Str), a0.2.2.2.1, true)] : List PQ))] h5 := d6
 refine wp 1 (wl (ql ?_))
 obtain rfl := oi b7
 exact ⟨(a8 ++ ([(((Zz68) : Str), a0.2.2.2.1, true)] : List PQ), e5, e6, e7), _, rfl, by kernel_rfl, (Hp.front (Hp.front d6 2 _ rfl) 2 _ rfl).kp, rfl⟩
 refine ck (ql ?_)
 obtain rfl := oi b7
 exact ⟨(a8, c2, c0, c1), _, rfl, by kernel_rfl, (Hp.front (Hp.front c7 1 _ rfl) 1 _ rfl).kp, rfl⟩
 rintro ⟨a9, c3, b3, b4⟩ k1 G ⟨c8, rfl⟩
 refine sr (wp 1 (bi hr fun e8 h6 hr => aat 53 #[] [(Vs b3 a9.length b4)] _ ent53 krf krf (K_L_ref02_Sorted b3 a9.length b4 h6 (hG.hp0 c8) rfl (c8.rdrw 1 rfl) (c8.rwcap 1 rfl)) ?_))
 rintro _ h7 ⟨h8, e9, f0, rfl, f1⟩
 have c9 : Hp w [] [rwt aaa 65 3 h8 e9 f0 e8, blk b1 (Zz7 a0.1 a0.2.1 a0.2.2.1 a0.2.2.2.1 a2 a0.2.2.2.2.length a3) 24, rwt aaa 65 3 c3 b3 b4 a9] h7 := Hp.callK (L1 := []) (L2 := (Zz95 b1 a0.1 a0.2.1 a0.2.2.1 a0.2.2.2.1 a2 a0.2.2.2.2.length a3 c3 b3 b4 a9)) c8 f1; clear f1
 refine bi hr fun d7 h9 hr => wc ent52 c9 (K_L_ref02_PrintParams e9 e8.length f0 h9 (hG.hp0 c9) rfl (c9.rdrw 0 rfl) (c9.rwcap 0 rfl)) fun k2 d0 => wp 5 (nq (cs (sr (wp 1 (afp d7.2 (0 : UInt8) krf krf ?_)))))
 refine nq (cn hr (fun i0 hr => ?_) (fun i0 hr => ?_))
 refine sr (wp 2 (nq (ct (st ?_))))
 obtain rfl := oi hr
 exact rv d0.kp
 refine ck (qn (sr (wp 1 (abs d0 1 b1 0 (Zz7 a0.1 a0.2.1 a0.2.2.1 a0.2.2.2.1 a2 a0.2.2.2.2.length a3) 24 (str a0.1) rfl rfl krf krf (bi hr fun b8 i1 hr => wc ent41 d0 (apz i1 (hG.hp0 d0)) fun k3 c4 => gi hr fun i2 hr => adf ((Zz56) : Str) b8 krf krf i2 ?_)))))
 refine gi hr fun i3 hr => adf (((Zz56) : Str) ++ b8) ([32] : Str) krf krf i3 (wp 1 (gi hr fun i4 hr => adf ((((Zz56) : Str) ++ b8) ++ ([32] : Str)) y4.1 krf krf i4 (wp 1 (nq (cs (cs ?_))))))
 refine cr (wp 1 (abs c4 1 b1 2 (Zz7 a0.1 a0.2.1 a0.2.2.1 a0.2.2.2.1 a2 a0.2.2.2.2.length a3) 24 (Vi .i64 a0.2.2.1) rfl rfl krf krf (wp 1 (nq (cd hr (fun i5 hr => ?_) (fun i5 hr => ?_))))))
 refine cr (wp 1 (gi hr fun i6 hr => adf (((((Zz56) : Str) ++ b8) ++ ([32] : Str)) ++ y4.1) ([58] : Str) krf krf i6 (wp 1 (abs c4 1 b1 2 (Zz7 a0.1 a0.2.1 a0.2.2.1 a0.2.2.2.1 a2 a0.2.2.2.2.length a3) 24 (Vi .i64 a0.2.2.1) rfl rfl krf krf (bi hr fun f2 i7 hr => wc ent54 c4 (K_L_ref03_Decimal i7 (hG.hp0 c4)) fun k4 i9 => gi hr fun j0 hr => adf ((((((Zz56) : Str) ++ b8) ++ ([32] : Str)) ++ y4.1) ++ ([58] : Str)) f2 krf krf j0 ?_)))))
 refine wp 1 (nq (sr (wp 2 (gi hr fun j1 hr => adf (((((((Zz56) : Str) ++ b8) ++ ([32] : Str)) ++ y4.1) ++ ([58] : Str)) ++ f2) d7.1 krf krf j1 (wp 2 (wl ?_))))))
 refine qn (ct ?_)
 obtain rfl := oi hr
 exact rv i9.kp
 refine ck (qn (sr (wp 2 (gi hr fun j2 hr => adf (((((Zz56) : Str) ++ b8) ++ ([32] : Str)) ++ y4.1) d7.1 krf krf j2 (wp 2 (nq ?_))))))
 refine ct ?_
 obtain rfl := oi hr
 exact rv c4.kp
theorem K_L_ref02_SameParams {fu : Nat} {a1 : List PQ} {a2 : List PQ} (a4 : Option Addr) (a7 : Nat) (a8 : Nat) (a5 : Option Addr) (a9 : Nat) (b0 : Nat) {w : World} {r : Bool} (hr : aiy fu a1 a2 = some r) (hG : Gl w) (b5 : a7 = a1.length) (b1 : Rd w a4 (zai aaa a1)) (c8 : a7 ≤ a8) (b6 : a9 = a2.length) (b2 : Rd w a5 (zai aaa a2)) (c9 : a9 ≤ b0) : CR prog 55 [(Vs a4 a7 a8), (Vs a5 a9 b0)] w fun v w' => v = (Vb r) ∧ Hp w [] [] w' := by
 subst b5
 subst b6
 have hH := Hp.refl w
 refine enter (k := 26) func55 rfl rfl nbe ?_
 unfold aiy at hr
 refine sr (wp 1 (nq (cs (sr (wp 5 (wl ?_))))))
 refine qn (cn hr (fun h1 hr => ?_) (fun h1 hr => ?_))
 refine sr (wp 1 (nq (ct (st ?_))))
 obtain rfl := oi hr
 exact rv hH.kp
 refine ck (qn (bi hr fun b7 b8 hr => cut1 hH b7 [4] (fun b9 => []) ?_ ?_))
 refine sr (wp 1 (nq (ce (lpS (fun b3 a0 => aec fu a1 a2 b3 a0) (0 : Int) hH b8 [0, 1, 4, 5] (fun a0 => [(5, (Vi .i64 a0))]) (fun _ => rfl) ?_))))
 rintro b3 a0 d0 G b4 a3
 rw [aec.eq_2] at a3
 refine cs (sr (wp 4 (nq (cd a3 (fun c0 a3 => ?_) (fun c0 a3 => ?_)))))
 refine ck (qn (cs (ce (cs (gi a3 fun c1 a3 => gi a3 fun c2 a3 => gi a3 fun c3 a3 => gi a3 fun c4 a3 => aeh 8 (fun j_ w_ w_' => aay [3, 8] (fun w' => Rd w' a4 (zai aaa a1)) j_ w_ w_' ∧ aay [8] (fun w' => Rd w' a4 (zai aaa a1)) j_ w_ w_' ∧ aay [7, 8] (fun w' => Rd w' a5 (zai aaa a2)) j_ w_ w_' ∧ aay [8] (fun w' => Rd w' a5 (zai aaa a2)) j_ w_ w_' ∧ True) [false, false, false, false, false, false, false, false, false] (fun _ _ => ⟨aay.same, aay.same, aay.same, aay.same, trivial⟩) krf krf b4 rfl (ade (aak (ade (aam (aak (aam adb)))))) fun d1 a6 => ?_)))))
 refine rp 6 [0, 1] (aal [true, true, true, false, false, false, false, false, false] 2 19 (Vp (some (ea a4 (a0.toNat * 3)))) [3, 8] (fun _ _ _ h => h.1) _ rfl rfl krf krf krf krf krf rfl (aba rfl (by intro w hS_; exact (aqn a4 a1.length a8 65 3 .i64 a0 underlying22 krf krf krf a1 rfl c1 hS_ aab (by decide)))) (by exact (b1.hp a6)) (aal [true, true, true, true, false, false, false, false, false] 3 20 (zan #[(str ((el a1 a0).1)), (str ((el a1 a0).2.1)), (Vb ((el a1 a0).2.2))]) [8] (fun _ _ _ h => h.2.1) _ rfl rfl krf krf krf krf krf rfl (aba rfl (by intro w hS_; exact (arf a4 aaa a1 3 a0 aab hS_ (Zz0 a1 a0) c2 krf krf krf krf (by decide)))) (by exact (b1.hp a6)) (rp 2 [4, 5] (aal [true, true, true, true, true, true, true, false, false] 6 23 (Vp (some (ea a5 (a0.toNat * 3)))) [7, 8] (fun _ _ _ h => h.2.2.1) _ rfl rfl krf krf krf krf krf rfl (aba rfl (by intro w hS_; exact (aqn a5 a2.length b0 65 3 .i64 a0 underlying22 krf krf krf a2 rfl c3 hS_ aab (by decide)))) (by exact (b2.hp a6)) (aal [true, true, true, true, true, true, true, true, false] 7 24 (zan #[(str ((el a2 a0).1)), (str ((el a2 a0).2.1)), (Vb ((el a2 a0).2.2))]) [8] (fun _ _ _ h => h.2.2.2.1) _ rfl rfl krf krf krf krf krf rfl (aba rfl (by intro w hS_; exact (arf a5 aaa a2 3 a0 aab hS_ (Zz0 a2 a0) c4 krf krf krf krf (by decide)))) (by exact (b2.hp a6)) (adn krf (w_aggneq (Zz0 a1 a0) (Zz0 a2 a0) [(decide (((el a1 a0).1) = ((el a2 a0).1))), (decide (((el a1 a0).2.1) = ((el a2 a0).2.1))), (((el a1 a0).2.2) == ((el a2 a0).2.2))] (decide (((el a1 a0).1, (el a1 a0).2.1, ((el a1 a0).2.2)) = ((el a2 a0).1, (el a2 a0).2.1, ((el a2 a0).2.2)))) underlying65 krf krf krf krf ⟨by decide, ⟨_, _, by kernel_rfl, by kernel_rfl, (fun d => eqi_str d ((el a1 a0).1) ((el a2 a0).1) underlying9)⟩, ⟨by decide, ⟨_, _, by kernel_rfl, by kernel_rfl, (fun d => eqi_str d ((el a1 a0).2.1) ((el a2 a0).2.1) underlying9)⟩, ⟨by decide, ⟨_, _, by kernel_rfl, by kernel_rfl, (fun d => run_equalIn_bool' _ d _ _ _ underlying4)⟩, trivial⟩⟩⟩ (by rw [Bool.eq_iff_iff]; simp [Prod.ext_iff, and_assoc]) (nq (cn a3 (fun c5 a3 => ?_) (fun c5 a3 => ?_))))))))))
 refine sr (wp 1 (nq (ct (bt_ (st (adg (bt_ ?_)))))))
 refine adg ?_
 obtain rfl := oi a3
 obtain rfl := oi hr
 exact rv a6.kp
 exact ck (bn (qn (cr (wp 1 (gi a3 fun c6 a3 => aae a0 (1 : Int) krf krf c6 (wp 1 (wl (ql (le' (a0 + (1 : Int)) a6.kp a3)))))))))
 refine abq (abp (aby (abr (ql ?_))))
 obtain rfl := oi a3
 exact je1 rfl b4.kp
 rintro b9 d2 G c7 rfl
 refine sr (wp 1 (nq (ct ?_)))
 obtain rfl := oi hr
 exact rv c7.kp
theorem K_L_ref03_SameVia {fu : Nat} {a0 : (Str × Str × Int × Str × (List PQ))} {a1 : (Str × Str × Int × Str × (List PQ))} (a4 : Option Addr) (a9 : Nat) (a5 : Nat) (a6 : Option Addr) (b0 : Nat) (a7 : Nat) {w : World} {r : Bool} (hr : anf fu a0 a1 = some r) (hG : Gl w) (b2 : a9 = a0.2.2.2.2.length) (b3 : Rd w a4 (zai aaa a0.2.2.2.2)) (b5 : a9 ≤ a5) (b6 : b0 = a1.2.2.2.2.length) (b7 : Rd w a6 (zai aaa a1.2.2.2.2)) (b8 : b0 ≤ a7) : CR prog 12 [(zan #[(str a0.1), (str a0.2.1), (Vi .i64 a0.2.2.1), (str a0.2.2.2.1), (Vs a4 a9 a5)]), (zan #[(str a1.1), (str a1.2.1), (Vi .i64 a1.2.2.1), (str a1.2.2.2.1), (Vs a6 b0 a7)])] w fun v w' => v = (Vb r) ∧ Hp w [] [] w' := by
 subst b2
 subst b6
 have hH := Hp.refl w
 refine enter (k := 38) func12 rfl rfl nbe ?_
 unfold anf at hr
 refine sr (adr hH (Zz7 a0.1 a0.2.1 a0.2.2.1 a0.2.2.2.1 a4 a0.2.2.2.2.length a5) 24 (fun b => (Vp (some ⟨b, 0, none⟩))) rfl rfl krf fun b1 w2 b9 => adr b9 (Zz7 a1.1 a1.2.1 a1.2.2.1 a1.2.2.2.1 a6 a1.2.2.2.2.length a7) 24 (fun b => (Vp (some ⟨b, 0, none⟩))) rfl rfl krf fun b4 w5 a3 => wp 1 (nq (bi hr fun c0 a2 hr => cut (σ := Bool) [4] (fun a8 => [(4, (Vb a8))]) (fun a8 w' => Hp w [] [] w' ∧ a8 = c0) ?_ ?_)))
 refine cr (wp 1 (abs a3 1 b1 0 (Zz7 a0.1 a0.2.1 a0.2.2.1 a0.2.2.2.1 a4 a0.2.2.2.2.length a5) 24 (str a0.1) rfl rfl krf krf (wp 1 (abs a3 0 b4 0 (Zz7 a1.1 a1.2.1 a1.2.2.1 a1.2.2.2.1 a6 a1.2.2.2.2.length a7) 24 (str a1.1) rfl rfl krf krf (wp 1 (wd a2 (fun c1 a2 => ?_) (fun c1 a2 => ?_)))))))
 refine wp 1 (gy 10 (abs a3 1 b1 1 (Zz7 a0.1 a0.2.1 a0.2.2.1 a0.2.2.2.1 a4 a0.2.2.2.2.length a5) 24 (str a0.2.1) rfl rfl krf krf (wp 1 (gy 10 (abs a3 0 b4 1 (Zz7 a1.1 a1.2.1 a1.2.2.1 a1.2.2.2.1 a6 a1.2.2.2.2.length a7) 24 (str a1.2.1) rfl rfl krf krf (wp 2 (wd a2 (fun c2 a2 => ?_) (fun c2 a2 => ?_))))))))
 refine wp 1 (gy 17 (abs a3 1 b1 2 (Zz7 a0.1 a0.2.1 a0.2.2.1 a0.2.2.2.1 a4 a0.2.2.2.2.length a5) 24 (Vi .i64 a0.2.2.1) rfl rfl krf krf (wp 1 (gy 17 (abs a3 0 b4 2 (Zz7 a1.1 a1.2.1 a1.2.2.1 a1.2.2.2.1 a6 a1.2.2.2.2.length a7) 24 (Vi .i64 a1.2.2.1) rfl rfl krf krf (wp 2 (wd a2 (fun c3 a2 => ?_) (fun c3 a2 => ?_))))))))
 refine wp 1 (gy 24 (abs a3 1 b1 3 (Zz7 a0.1 a0.2.1 a0.2.2.1 a0.2.2.2.1 a4 a0.2.2.2.2.length a5) 24 (str a0.2.2.2.1) rfl rfl krf krf (wp 1 (gy 24 (abs a3 0 b4 3 (Zz7 a1.1 a1.2.1 a1.2.2.1 a1.2.2.2.1 a6 a1.2.2.2.2.length a7) 24 (str a1.2.2.2.1) rfl rfl krf krf (wp 2 (wd a2 (fun c4 a2 => ?_) (fun c4 a2 => ?_))))))))
 refine wp 1 (gy 31 (abs a3 1 b1 4 (Zz7 a0.1 a0.2.1 a0.2.2.1 a0.2.2.2.1 a4 a0.2.2.2.2.length a5) 24 (Vs a4 a0.2.2.2.2.length a5) rfl rfl krf krf (wp 1 (gy 31 (abs a3 0 b4 4 (Zz7 a1.1 a1.2.1 a1.2.2.1 a1.2.2.2.1 a6 a1.2.2.2.2.length a7) 24 (Vs a6 a1.2.2.2.2.length a7) rfl rfl krf krf (gy 31 (bi a2 fun c5 c6 a2 => wc ent55 a3 (K_L_ref02_SameParams a4 a0.2.2.2.2.length a5 a6 a1.2.2.2.2.length a7 c6 (hG.hp0 a3) rfl (b3.hp a3) b5 rfl (b7.hp a3) b8) fun c9 c7 => wp 2 ?_)))))))
 refine wl (ql ?_)
 obtain rfl := oi a2
 exact ⟨c5, _, rfl, by kernel_rfl, c7.kp, rfl⟩
 refine wp 7 (wl (ql ?_))
 obtain rfl := oi a2
 exact ⟨false, _, rfl, by kernel_rfl, a3.kp, rfl⟩
 refine wp 14 (wl (ql ?_))
 obtain rfl := oi a2
 exact ⟨false, _, rfl, by kernel_rfl, a3.kp, rfl⟩
 refine wp 21 (wl (ql ?_))
 obtain rfl := oi a2
 exact ⟨false, _, rfl, by kernel_rfl, a3.kp, rfl⟩
 refine wp 28 (wl (ql ?_))
 obtain rfl := oi a2
 exact ⟨false, _, rfl, by kernel_rfl, a3.kp, rfl⟩
 rintro a8 d0 G ⟨c8, rfl⟩
 refine ct ?_
 obtain rfl := oi hr
 exact rv c8.kp
theorem K_L_law03_HeaderVias {fu : Nat} {b6 : Str} {a0 : (Str × Str × Int × Str × (List PQ))} (a4 : Option Addr) (c0 : Nat) (a5 : Nat) {w : World} {r : Bool} (hr : alg fu b6 a0 = some r) (hG : Gl w) (c8 : c0 = a0.2.2.2.2.length) (c2 : Rd w a4 (zai aaa a0.2.2.2.2)) (c3 : c0 ≤ a5) : CR prog 3 [(str b6), (zan #[(str a0.1), (str a0.2.1), (Vi .i64 a0.2.2.1), (str a0.2.2.2.1), (Vs a4 c0 a5)])] w fun v w' => v = (Vb r) ∧ Hp w [] [] w' := by
 subst c8
 have hH := Hp.refl w
 refine enter (k := 59) func3 rfl rfl nbe ?_
 unfold alg at hr
 refine sr (adr hH (Zz7 a0.1 a0.2.1 a0.2.2.1 a0.2.2.2.1 a4 a0.2.2.2.2.length a5) 24 (fun b => (Vp (some ⟨b, 0, none⟩))) rfl rfl krf fun b1 w2 b4 => wp 1 (nq (cs (sr (wp 1 ?_)))))
 refine abs b4 0 b1 4 (Zz7 a0.1 a0.2.1 a0.2.2.1 a0.2.2.2.1 a4 a0.2.2.2.2.length a5) 24 (Vs a4 a0.2.2.2.2.length a5) rfl rfl krf krf (wp 2 (nq (cd hr (fun h4 hr => ?_) (fun h4 hr => ?_))))
 refine sr (bi hr fun y5 c9 hr => wc ent7 b4 (K_L_law03_awake c9 (hG.hp0 b4)) fun w7 d0 => wp 1 (nq (ct (st ?_))))
 obtain rfl := oi hr
 exact rv d0.kp
 refine ck (qn (sr (wp 1 (bi hr fun a1 d1 hr => aat 8 #[] [(str b6)] _ ent8 krf krf (K_L_header_Via d1 (hG.hp0 b4)) ?_))))
 rintro _ d2 ⟨b5, a6, a7, rfl, c4⟩
 have d3 : Hp w [] [rwt aaa 65 3 b5 a6 a7 a1.1.2.2.2.2, blk b1 (Zz7 a0.1 a0.2.1 a0.2.2.1 a0.2.2.2.1 a4 a0.2.2.2.2.length a5) 24] d2 := Hp.callK (L1 := []) (L2 := [blk b1 (Zz7 a0.1 a0.2.1 a0.2.2.1 a0.2.2.2.1 a4 a0.2.2.2.2.length a5) 24]) b4 c4; clear c4
 refine wp 3 (adr d3 (Zz4) 24 (fun b => (Vp (some ⟨b, 0, none⟩))) rfl rfl krf fun b2 f3 d4 => ahq d4 0 b2 0 (Zz4) (Zz7 a1.1.1 a1.1.2.1 a1.1.2.2.1 a1.1.2.2.2.1 a6 a1.1.2.2.2.2.length a7) 24 [blk b2 (Zz7 a1.1.1 a1.1.2.1 a1.1.2.2.1 a1.1.2.2.2.1 a6 a1.1.2.2.2.2.length a7) 24, rwt aaa 65 3 b5 a6 a7 a1.1.2.2.2.2, blk b1 (Zz7 a0.1 a0.2.1 a0.2.2.1 a0.2.2.2.1 a4 a0.2.2.2.2.length a5) 24] rfl nbe krf krf rfl krf rfl fun f4 c5 => wp 1 (nq (sr (wp 1 (bi hr fun a2 d5 hr => ?_)))))
 refine aat 9 #[] [(str b6)] _ ent9 krf krf (K_L_ref03_Via d5 (hG.hp0 c5)) ?_
 rintro _ d6 ⟨c6, a9, b0, rfl, c7⟩
 have d7 : Hp w [] [rwt aaa 65 3 c6 a9 b0 a2.1.2.2.2.2, blk b2 (Zz7 a1.1.1 a1.1.2.1 a1.1.2.2.1 a1.1.2.2.2.1 a6 a1.1.2.2.2.2.length a7) 24, rwt aaa 65 3 b5 a6 a7 a1.1.2.2.2.2, blk b1 (Zz7 a0.1 a0.2.1 a0.2.2.1 a0.2.2.2.1 a4 a0.2.2.2.2.length a5) 24] d6 := Hp.callK (L1 := []) (L2 := [blk b2 (Zz7 a1.1.1 a1.1.2.1 a1.1.2.2.1 a1.1.2.2.2.1 a6 a1.1.2.2.2.2.length a7) 24, rwt aaa 65 3 b5 a6 a7 a1.1.2.2.2.2, blk b1 (Zz7 a0.1 a0.2.1 a0.2.2.1 a0.2.2.2.1 a4 a0.2.2.2.2.length a5) 24]) c5 c7; clear c7
 refine wp 3 (adr d7 (Zz4) 24 (fun b => (Vp (some ⟨b, 0, none⟩))) rfl rfl krf fun c1 f5 d8 => ahq d8 0 c1 0 (Zz4) (Zz7 a2.1.1 a2.1.2.1 a2.1.2.2.1 a2.1.2.2.2.1 a9 a2.1.2.2.2.2.length b0) 24 [blk c1 (Zz7 a2.1.1 a2.1.2.1 a2.1.2.2.1 a2.1.2.2.2.1 a9 a2.1.2.2.2.2.length b0) 24, rwt aaa 65 3 c6 a9 b0 a2.1.2.2.2.2, blk b2 (Zz7 a1.1.1 a1.1.2.1 a1.1.2.2.1 a1.1.2.2.2.1 a6 a1.1.2.2.2.2.length a7) 24, rwt aaa 65 3 b5 a6 a7 a1.1.2.2.2.2, blk b1 (Zz7 a0.1 a0.2.1 a0.2.2.1 a0.2.2.2.1 a4 a0.2.2.2.2.length a5) 24] rfl nbe krf krf rfl krf rfl fun f6 b7 => wp 1 (nq (sr (ant b7 4 b1 0 5 (Zz7 a0.1 a0.2.1 a0.2.2.1 a0.2.2.2.1 a4 a0.2.2.2.2.length a5) (Zz7 a0.1 a0.2.1 a0.2.2.1 a0.2.2.2.1 a4 a0.2.2.2.2.length a5) 24 rfl rfl rfl krf krf krf (bi hr fun d9 e0 hr => ?_)))))
 refine wc ent10 b7 (K_L_header_PrintVia a4 a0.2.2.2.2.length a5 e0 (hG.hp0 b7) rfl (c2.hp b7) c3) fun f7 b8 => wp 5 (nq (sr (ant b8 4 b1 0 5 (Zz7 a0.1 a0.2.1 a0.2.2.1 a0.2.2.2.1 a4 a0.2.2.2.2.length a5) (Zz7 a0.1 a0.2.1 a0.2.2.1 a0.2.2.2.1 a4 a0.2.2.2.2.length a5) 24 rfl rfl rfl krf krf krf (bi hr fun e1 e2 hr => wc ent11 b8 (K_L_ref03_PrintVia a4 a0.2.2.2.2.length a5 e2 (hG.hp0 b8) rfl (c2.hp b8) c3) fun f8 a8 => wp 5 ?_))))
 refine nq (bi hr fun e3 a3 hr => cut (σ := Bool) [4] (fun b9 => [(4, (Vb b9))]) (fun b9 w' => Hp w [] [] w' ∧ b9 = e3) ?_ ?_)
 refine cr (ant a8 2 b2 0 5 (Zz7 a1.1.1 a1.1.2.1 a1.1.2.2.1 a1.1.2.2.2.1 a6 a1.1.2.2.2.2.length a7) (Zz7 a1.1.1 a1.1.2.1 a1.1.2.2.1 a1.1.2.2.2.1 a6 a1.1.2.2.2.2.length a7) 24 rfl rfl rfl krf krf krf (ant a8 0 c1 0 5 (Zz7 a2.1.1 a2.1.2.1 a2.1.2.2.1 a2.1.2.2.2.1 a9 a2.1.2.2.2.2.length b0) (Zz7 a2.1.1 a2.1.2.1 a2.1.2.2.1 a2.1.2.2.2.1 a9 a2.1.2.2.2.2.length b0) 24 rfl rfl rfl krf krf krf (bi a3 fun f9 e4 a3 => wc ent12 a8 (K_L_ref03_SameVia a6 a1.1.2.2.2.2.length a7 a9 a2.1.2.2.2.2.length b0 e4 (hG.hp0 a8) rfl (a8.rdrw 3 rfl) (a8.rwcap 3 rfl) rfl (a8.rdrw 1 rfl) (a8.rwcap 1 rfl)) fun g0 b3 => wb a3 (fun e5 a3 => ?_) (fun e5 a3 => ?_))))
 refine wp 2 (gy 41 (acx a1.2 a2.2 krf krf (wp 1 (wd a3 (fun e6 a3 => ?_) (fun e6 a3 => ?_)))))
 refine wp 4 (wd a3 (fun e7 a3 => ?_) (fun e7 a3 => ?_))
 refine wp 2 (gy 51 (acx d9.2 e1.2 krf krf (wp 1 (wd a3 (fun e8 a3 => ?_) (fun e8 a3 => ?_)))))
 refine gy 56 (bi a3 fun e9 f0 a3 => wc ent7 b3 (K_L_law03_awake f0 (hG.hp0 b3)) fun g1 f1 => wp 2 (wl (ql ?_)))
 obtain rfl := oi a3
 exact ⟨e9, _, rfl, by kernel_rfl, f1.kp, rfl⟩
 refine wp 3 (wl (ql ?_))
 obtain rfl := oi a3
 exact ⟨false, _, rfl, by kernel_rfl, b3.kp, rfl⟩
 refine wp 8 (wl (ql ?_))
 obtain rfl := oi a3
 exact ⟨false, _, rfl, by kernel_rfl, b3.kp, rfl⟩
 refine wp 13 (wl (ql ?_))
 obtain rfl := oi a3
 exact ⟨false, _, rfl, by kernel_rfl, b3.kp, rfl⟩
 refine wp 18 (wl (ql ?_))
 obtain rfl := oi a3
 exact ⟨false, _, rfl, by kernel_rfl, b3.kp, rfl⟩
 rintro b9 g2 G ⟨f2, rfl⟩
 refine ct ?_
 obtain rfl := oi hr
 exact rv f2.kp
end Go.Proofs
