/-
  The law HeaderVias holds, second form: for every value and every Via of at most 1048576 values and letters the call returns true; no condition beyond the statement's own (part 5 of 8).
-/
import Derived.Test.YtpbfkeakaefenaaGreatDoorHq4
import Derived.Test.YtpbfkeakaefenaaGreatDoorProg
set_option linter.unusedVariables false
set_option linter.unusedSimpArgs false
set_option maxRecDepth 20000
set_option maxHeartbeats 1000000
namespace Go.Proofs
open Go.Wk Go.Px
open Go.Value renaming slice → Vs, int → Vi, bool → Vb, pointer → Vp
open Go.IntKind renaming wrap → zaa
open Go.Value renaming agg → zan, func → zap, tuple → zak
open Int renaming toNat → zac
open List renaming flatMap → zai, length_take → zah, set → zal
open Nat renaming lt_succ_self → zad
open Tryz
theorem ent109 : Wk.Enters prog 109 := ⟨f109, _, func109, rfl, krf⟩
theorem ent137 : Wk.Enters prog 137 := ⟨f137, _, func137, rfl, krf⟩
theorem ent168 : Wk.Enters prog 168 := ⟨f168, _, func168, rfl, krf⟩
theorem ent183 : Wk.Enters prog 183 := ⟨f183, _, func183, rfl, krf⟩
theorem ent219 : Wk.Enters prog 219 := ⟨f219, _, func219, rfl, krf⟩
theorem ent220 : Wk.Enters prog 220 := ⟨f220, _, func220, rfl, krf⟩
theorem ent242 : Wk.Enters prog 242 := ⟨f242, _, func242, rfl, krf⟩
theorem ent253 : Wk.Enters prog 253 := ⟨f253, _, func253, rfl, krf⟩
theorem anv {fu : Nat} {a1 : Str} {a2 : Str} {w : World} {r : Int} (hr : aia fu a1 a2 = some r) (hG : Gl w) : CR prog 109 [(str a1), (str a2)] w fun v w' => v = (Vi .i64 r) ∧ Hp w [] [] w' := by
 have hH := Hp.refl w
 refine enter (k := 20) func109 rfl rfl nbe ?_
 unfold aia at hr
 refine sr (wp 1 (nq (sr (wp 1 (bi hr fun y1 a4 hr => wc ent168 hH (apg a4 (hG.hp0 hH)) fun w3 a3 => ?_)))))
 refine wp 1 (nq (sr (wp 1 (bi hr fun y6 a5 hr => wc ent168 a3 (apg a5 (hG.hp0 a3)) fun w8 a0 => wp 1 (wl ?_)))))
 refine qn (cs (sr (wp 1 (nq (cb hr (fun a6 hr => ?_) (fun a6 hr => ?_))))))
 refine cs (sr (wp 1 (nq (cb hr (fun a7 hr => ?_) (fun a7 hr => ?_)))))
 refine sr (wp 1 (nq (ct (st (st ?_)))))
 obtain rfl := oi hr
 exact rv a0.kp
 refine ck (qn (sr (wp 1 (nq (ct (st ?_))))))
 obtain rfl := oi hr
 exact rv a0.kp
 refine ck (qn (cs (sr (wp 1 (nq (cb hr (fun a8 hr => ?_) (fun a8 hr => ?_)))))))
 refine sr (wp 1 (nq (ct (st ?_))))
 obtain rfl := oi hr
 exact rv a0.kp
 refine ck (qn (cs (sr (wp 3 (nq (cb hr (fun a9 hr => ?_) (fun a9 hr => ?_)))))))
 refine sr (wp 1 (nq (ct (st ?_))))
 obtain rfl := oi hr
 exact rv a0.kp
 refine ck (qn (cs (sr (wp 3 (nq (cb hr (fun b0 hr => ?_) (fun b0 hr => ?_)))))))
 refine sr (wp 1 (nq (ct (st ?_))))
 obtain rfl := oi hr
 exact rv a0.kp
 refine ck (qn (sr (wp 1 (nq (ct ?_)))))
 obtain rfl := oi hr
 exact rv a0.kp
theorem ajt {fu : Nat} {a0 : PQ} {a1 : PQ} {w : World} {r : Int} (hr : aht fu a0 a1 = some r) (hG : Gl w) : CR prog 137 [(zan #[(str a0.1), (str a0.2.1), (Vb a0.2.2)]), (zan #[(str a1.1), (str a1.2.1), (Vb a1.2.2)])] w fun v w' => v = (Vi .i64 r) ∧ Hp w [] [] w' := by
 have hH := Hp.refl w
 refine enter (k := 10) func137 rfl rfl nbe ?_
 unfold aht at hr
 refine sr (adr hH (Zz42 a0.1 a0.2.1 a0.2.2) 65 (fun b => (Vp (some ⟨b, 0, none⟩))) rfl rfl krf fun b1 w2 a3 => adr a3 (Zz42 a1.1 a1.2.1 a1.2.2) 65 (fun b => (Vp (some ⟨b, 0, none⟩))) rfl rfl krf fun b4 w5 a2 => wp 1 (nq (sr (wp 1 ?_))))
 refine abs a2 1 b1 0 (Zz42 a0.1 a0.2.1 a0.2.2) 65 (str a0.1) rfl rfl krf krf (wp 1 (abs a2 0 b4 0 (Zz42 a1.1 a1.2.1 a1.2.2) 65 (str a1.1) rfl rfl krf krf (bi hr fun y7 a4 hr => wc ent109 a2 (anv a4 (hG.hp0 a2)) fun w9 a5 => wp 1 (nq (ct ?_)))))
 obtain rfl := oi hr
 exact rv a5.kp
theorem aev {fu : Nat} {a6 : List PQ} {b0 : Int} {c0 : Int} (a5 : Option Nat) (a2 : Option Addr) (a3 : Nat) {w : World} {r : List PQ} (hr : acm fu a6 b0 c0 = some r) (hG : Gl w) (hM : Hp w (abh [rwt aaa 65 3 a5 a2 a3 a6]) [rwt aaa 65 3 a5 a2 a3 a6] w) (hS : ∀ b ∈ abh [rwt aaa 65 3 a5 a2 a3 a6], 9 ≤ b) : CR prog 219 [(Vs a2 a6.length a3), (Vi .i64 b0), (Vi .i64 c0), (zap (.func 137) #[] #[])] w fun v w' => v = (zak #[]) ∧ r.length = a6.length ∧ Hp w (abh [rwt aaa 65 3 a5 a2 a3 a6]) [rwt aaa 65 3 a5 a2 a3 r] w' := by
 have hH : Hp w (abh (Zz10 a5 a2 a3 a6)) (Zz10 a5 a2 a3 a6) w := hM
 refine enter (k := 53) func219 rfl rfl nbe ?_
 unfold acm at hr
 refine sr (wp 1 (gi hr fun g1 hr => aae b0 (1 : Int) krf krf g1 (wp 1 (nq (ce (lpG (σ := Nat × (List PQ) × Int) [0, 1, 2, 3, 8] (fun ⟨b5, a9, b2⟩ => [(0, (Vs a2 a9.length a3)), (8, (Vi .i64 b2))]) (fun ⟨b5, a9, b2⟩ w' => Hp w (abh (Zz10 a5 a2 a3 a6)) (Zz10 a5 a2 a3 a9) w' ∧ a9.length = a6.length ∧ acd fu b0 c0 b5 a9 b2 = some r) (fun ⟨b5, a9, b2⟩ => b5) (fu, a6, b0 + (1 : Int)) (by exact ⟨hH.kp, lsz, hr⟩) ?_))))))
 rintro ⟨_ | b5, a9, b2⟩ g0 G ⟨c6, g2, a8⟩
 · exact nzz a8
 rw [acd.eq_2] at a8
 refine cs (sr (wp 3 (nq (cd a8 (fun d4 a8 => ?_) (fun d4 a8 => ?_)))))
 refine ck (qn (bi a8 fun c7 d5 a8 => cut (σ := (List PQ)) [0, 1, 2, 3, 8] (fun b3 => [(0, (Vs a2 b3.length a3))]) (fun b3 w' => Hp w (abh (Zz10 a5 a2 a3 a6)) (Zz10 a5 a2 a3 b3) w' ∧ b3.length = a9.length ∧ b3 = c7) ?_ ?_))
 refine ce (sr (wp 2 (nq (ce (lpG (σ := Nat × (List PQ) × Int) [0, 1, 2, 3, 8, 9] (fun ⟨b4, a1, a0⟩ => [(0, (Vs a2 a1.length a3)), (9, (Vi .i64 a0))]) (fun ⟨b4, a1, a0⟩ w' => Hp w (abh (Zz10 a5 a2 a3 a6)) (Zz10 a5 a2 a3 a1) w' ∧ a1.length = a9.length ∧ acb fu b0 b4 a1 a0 = some c7) (fun ⟨b4, a1, a0⟩ => b4) (fu, a9, b2) (by exact ⟨c6.kp, lsz, d5⟩) ?_)))))
 rintro ⟨_ | b4, a1, a0⟩ g3 G ⟨c1, g4, a4⟩
 · exact nzz a4
 rw [acb.eq_2] at a4
 refine cs (bi a4 fun d6 a7 a4 => age c1 [0, 1, 2, 3, 8, 9, 34] [(34, (Vb d6))] ?_ ?_)
 by_cases b9 : b0 < a0
 replace a7 := ift b9 a7
 refine gi a7 fun d7 a7 => gi a7 fun d8 a7 => gi a7 fun d9 a7 => gi a7 fun e0 a7 => gi a7 fun e1 a7 => aeh 14 (fun j_ w_ w_' => aay [8, 14, 15, 16] (fun w' => Rd w' a2 (zai aaa a1)) j_ w_ w_' ∧ aay [14, 15, 16] (fun w' => Rd w' a2 (zai aaa a1)) j_ w_ w_' ∧ aay [13, 14, 15, 16] (fun w' => Rd w' a2 (zai aaa a1)) j_ w_ w_' ∧ True) (Zz37) (fun _ _ => ⟨aay.same, aay.same, aay.same, trivial⟩) krf krf c1 rfl (aam (ade (aam (aak (aak (aam (aam (aak adb)))))))) fun g5 b6 => rp 11 [0, 1, 2] (rt 3 (Vb true) rfl rfl (aba rfl (by intro w hS_; exact Eq.trans (b := Result.ok (Next.value (.bool (decide (b0 < a0)))) w) krf (congrArg (fun b => Result.ok (Next.value (.bool b)) w) (decide_eq_true b9)))) (rp 7 [4, 5, 6] (aal (Zz86) 7 25 (Vp (some (ea a2 (a0.toNat * 3)))) [8, 14, 15, 16] (fun _ _ _ h => h.1) _ rfl rfl krf krf krf krf krf rfl (aei 21 krf krf krf (by intro w hS_; exact (aqn a2 a1.length a3 65 3 .i64 a0 underlying22 krf krf krf a1 rfl d7 hS_ aab (by decide)))) (by exact (b6.rdrw 0 rfl)) ?_)))
 refine aal (Zz62) 8 26 (zan #[(str ((el a1 a0).1)), (str ((el a1 a0).2.1)), (Vb ((el a1 a0).2.2))]) [14, 15, 16] (fun _ _ _ h => h.2.1) _ rfl rfl krf krf krf krf krf rfl (aei 21 krf krf krf (by intro w hS_; exact (arf a2 aaa a1 3 a0 aab hS_ (Zz0 a1 a0) d8 krf krf krf krf (by decide)))) (by exact (b6.rdrw 0 rfl)) (rp 3 [9, 10] (rt 11 (Vi .i64 (a0 - (1 : Int))) rfl rfl (aei 21 krf krf krf (by intro w hS_; exact (amg a0 (1 : Int) krf krf d9))) (aal (Zz88) 12 30 (Vp (some (ea a2 ((a0 - (1 : Int)).toNat * 3)))) [13, 14, 15, 16] (fun _ _ _ h => h.2.2.1) _ rfl rfl krf krf krf krf krf rfl (aei 21 krf krf krf (by intro w hS_; exact (aqn a2 a1.length a3 65 3 .i64 (a0 - (1 : Int)) underlying22 krf krf krf a1 rfl e0 hS_ aab (by decide)))) (by exact (b6.rdrw 0 rfl)) (aal (Zz91) 13 31 (zan #[(str ((el a1 (a0 - (1 : Int))).1)), (str ((el a1 (a0 - (1 : Int))).2.1)), (Vb ((el a1 (a0 - (1 : Int))).2.2))]) [14, 15, 16] (fun _ _ _ h => h.2.1) _ rfl rfl krf krf krf krf krf rfl (aei 21 krf krf krf (by intro w hS_; exact (arf a2 aaa a1 3 (a0 - (1 : Int)) aab hS_ (Zz9 a1 a0) e1 krf krf krf krf (by decide)))) (by exact (b6.rdrw 0 rfl)) (adn krf (gy 21 (bi a7 fun g6 e2 a7 => wc ent137 b6 (ajt e2 (hG.hp b6 hS)) fun g7 e3 => wp 2 ?_)))))))
 refine wl (ql ?_)
 obtain rfl := oi a7
 exact je e3.kp
 replace a7 := ifn b9 a7
 refine aeh 14 (fun j_ w_ w_' => aay [8, 14, 15, 16] (fun w' => Rd w' a2 (zai aaa a1)) j_ w_ w_' ∧ aay [14, 15, 16] (fun w' => Rd w' a2 (zai aaa a1)) j_ w_ w_' ∧ aay [13, 14, 15, 16] (fun w' => Rd w' a2 (zai aaa a1)) j_ w_ w_' ∧ True) (Zz37) (fun _ _ => ⟨aay.same, aay.same, aay.same, trivial⟩) krf krf c1 rfl (aam (ade (aam (aak (aak (aam (aam (aak adb)))))))) fun g8 e4 => rp 11 [0, 1, 2] (rt 3 (Vb false) rfl rfl (aba rfl (by intro w hS_; exact Eq.trans (b := Result.ok (Next.value (.bool (decide (b0 < a0)))) w) krf (congrArg (fun b => Result.ok (Next.value (.bool b)) w) (decide_eq_false b9)))) (rp 0 [4, 5, 6, 7, 8, 9, 10, 11, 12, 13] (adn krf (wp 3 (wl (ql ?_))))))
 obtain rfl := oi a7
 exact je e4.kp
 intro g9 G b8
 refine cb a4 (fun e5 a4 => ?_) (fun e5 a4 => ?_)
 refine ck (qn (cs (ce (gi a4 fun e6 a4 => gi a4 fun e7 a4 => gi a4 fun c8 a4 => ?_))))
 have e8 := ago (b8.rdrw 0 rfl) aab (by decide) c8
 refine gi a4 fun c9 a4 => gi a4 fun d0 a4 => ?_
 have e9 := ago (b8.rdrw 0 rfl) aab (by decide) d0
 refine gi a4 fun d1 a4 => gi a4 fun c2 a4 => ?_
 have d2 := ago (b8.rdrw 0 rfl) aab (by decide) c2
 refine gi a4 fun d3 a4 => cdr 16 b8 (aak (ade (aam (aak (aak (aam (aam (aak adb)))))))) fun h0 b7 => rp 12 [0, 1, 2, 3] (rt 4 (Vi .i64 (a0 - (1 : Int))) rfl rfl (aba rfl (by intro w hS_; exact (amg a0 (1 : Int) krf krf e6))) (rp 9 [5, 6] (rt 7 (Vi .i64 (a0 - (1 : Int))) rfl rfl (aba rfl (by intro w hS_; exact (amg a0 (1 : Int) krf krf e7))) (rt 8 (Vp (some (ea a2 ((a0 - (1 : Int)).toNat * 3)))) rfl rfl (aba rfl (by intro w hS_; exact (amh a2 a1.length a3 65 3 .i64 (a0 - (1 : Int)) underlying22 krf krf krf (afw (l := a1) rfl c8) e8))) (rp 5 [10, 11] (rt 12 (Vp (some (ea a2 (a0.toNat * 3)))) rfl rfl (aba rfl (by intro w hS_; exact (amh a2 a1.length a3 65 3 .i64 a0 underlying22 krf krf krf (afw (l := a1) rfl d0) e9))) (r_one2 (Zz29) (Zz34) 9 13 _ _ rfl rfl krf krf krf rfl rfl ?_ ?_)))))))
 refine ajh a2 aaa a1 3 (a0 - (1 : Int)) aab (b7.rdrw 0 rfl) (Zz9 a1 a0) c9 krf krf krf krf (by decide) (wl (abu (by exact trivial) (ro 13 rfl (ajh a2 aaa a1 3 a0 aab (b7.rdrw 0 rfl) (Zz0 a1 a0) d1 krf krf krf krf (by decide) (wl (abu (by exact trivial) (rt 14 (Vp (some (ea a2 (a0.toNat * 3)))) rfl rfl (aba rfl (by intro w hS_; exact (amh a2 a1.length a3 65 3 .i64 a0 underlying22 krf krf krf (afw (l := a1) rfl c2) d2))) (ro 15 rfl (ami b7 0 a5 a2 a3 65 3 a0 a1 ((el a1 (a0 - (1 : Int))).1, (el a1 (a0 - (1 : Int))).2.1, ((el a1 (a0 - (1 : Int))).2.2)) rfl aab (Zz9 a1 a0) d3 krf krf krf (by decide) krf fun c3 b1 => ?_)))))))))
 replace b1 : Hp w (abh (Zz10 a5 a2 a3 a6)) (Zz21 a5 a2 a3 a1 a0) c3 := b1
 refine wl (abu (by exact trivial) (adn krf (gi a4 fun f0 a4 => ahl a2 a1.length a3 65 3 .i64 (a0 - (1 : Int)) underlying22 krf krf krf (zal a1 (zac a0) ((el a1 (a0 - (1 : Int))).1, (el a1 (a0 - (1 : Int))).2.1, ((el a1 (a0 - (1 : Int))).2.2))) (by first | rfl | (simp; done) | omega | (simp; omega) | (rw [zah]; omega)) f0 (b1.rdrw 0 rfl) aab (by decide) (gi a4 fun f1 a4 => ami b1 0 a5 a2 a3 65 3 (a0 - (1 : Int)) (zal a1 (zac a0) ((el a1 (a0 - (1 : Int))).1, (el a1 (a0 - (1 : Int))).2.1, ((el a1 (a0 - (1 : Int))).2.2))) ((el a1 a0).1, (el a1 a0).2.1, ((el a1 a0).2.2)) rfl aab (Zz0 a1 a0) f1 krf krf krf (by decide) krf fun f2 c4 => ?_))))
 replace c4 : Hp w (abh (Zz10 a5 a2 a3 a6)) (Zz11 a5 a2 a3 a1 a0) f2 := c4
 refine wl (bn (qn (cr (wp 1 (gi a4 fun f3 a4 => adk a0 (1 : Int) krf krf f3 (wp 1 (wl (ql ?_))))))))
 exact ⟨(b4, zal (zal a1 (zac a0) ((el a1 (a0 - (1 : Int))).1, (el a1 (a0 - (1 : Int))).2.1, ((el a1 (a0 - (1 : Int))).2.2))) (zac (a0 - (1 : Int))) ((el a1 a0).1, (el a1 a0).2.1, ((el a1 a0).2.2)), a0 - (1 : Int)), _, rfl, (mc (Eq.trans (b := (Vs a2 a1.length a3)) krf (aaj lsy)) (mc krf (mc krf (mc krf (mc krf (mc krf rfl)))))), ⟨c4.kp, lsz, a4⟩, zad _⟩
 refine ajh a2 aaa a1 3 a0 aab (b7.rdrw 0 rfl) (Zz0 a1 a0) d1 krf krf krf krf (by decide) (wl (abu (by exact trivial) (ro 9 rfl (ajh a2 aaa a1 3 (a0 - (1 : Int)) aab (b7.rdrw 0 rfl) (Zz9 a1 a0) c9 krf krf krf krf (by decide) (wl (abu (by exact trivial) (rt 14 (Vp (some (ea a2 (a0.toNat * 3)))) rfl rfl (aba rfl (by intro w hS_; exact (amh a2 a1.length a3 65 3 .i64 a0 underlying22 krf krf krf (afw (l := a1) rfl c2) d2))) (ro 15 rfl (ami b7 0 a5 a2 a3 65 3 a0 a1 ((el a1 (a0 - (1 : Int))).1, (el a1 (a0 - (1 : Int))).2.1, ((el a1 (a0 - (1 : Int))).2.2)) rfl aab (Zz9 a1 a0) d3 krf krf krf (by decide) krf fun c3 b1 => ?_)))))))))
 replace b1 : Hp w (abh (Zz10 a5 a2 a3 a6)) (Zz21 a5 a2 a3 a1 a0) c3 := b1
 refine wl (abu (by exact trivial) (adn krf (gi a4 fun f4 a4 => ahl a2 a1.length a3 65 3 .i64 (a0 - (1 : Int)) underlying22 krf krf krf (zal a1 (zac a0) ((el a1 (a0 - (1 : Int))).1, (el a1 (a0 - (1 : Int))).2.1, ((el a1 (a0 - (1 : Int))).2.2))) (by first | rfl | (simp; done) | omega | (simp; omega) | (rw [zah]; omega)) f4 (b1.rdrw 0 rfl) aab (by decide) (gi a4 fun f5 a4 => ami b1 0 a5 a2 a3 65 3 (a0 - (1 : Int)) (zal a1 (zac a0) ((el a1 (a0 - (1 : Int))).1, (el a1 (a0 - (1 : Int))).2.1, ((el a1 (a0 - (1 : Int))).2.2))) ((el a1 a0).1, (el a1 a0).2.1, ((el a1 a0).2.2)) rfl aab (Zz0 a1 a0) f5 krf krf krf (by decide) krf fun f6 c5 => ?_))))
 replace c5 : Hp w (abh (Zz10 a5 a2 a3 a6)) (Zz11 a5 a2 a3 a1 a0) f6 := c5
 refine wl (bn (qn (cr (wp 1 (gi a4 fun f7 a4 => adk a0 (1 : Int) krf krf f7 (wp 1 (wl (ql ?_))))))))
 exact ⟨(b4, zal (zal a1 (zac a0) ((el a1 (a0 - (1 : Int))).1, (el a1 (a0 - (1 : Int))).2.1, ((el a1 (a0 - (1 : Int))).2.2))) (zac (a0 - (1 : Int))) ((el a1 a0).1, (el a1 a0).2.1, ((el a1 a0).2.2)), a0 - (1 : Int)), _, rfl, (mc (Eq.trans (b := (Vs a2 a1.length a3)) krf (aaj lsy)) (mc krf (mc krf (mc krf (mc krf (mc krf rfl)))))), ⟨c5.kp, lsz, a4⟩, zad _⟩
 refine abq (abp (aby (abr (bn (ql ?_)))))
 obtain rfl := oi a4
 exact ⟨a1, _, rfl, by kernel_rfl, b8.kp, lsz, rfl⟩
 rintro b3 h1 G ⟨f8, h2, rfl⟩
 refine cr (wp 1 (gi a8 fun f9 a8 => aae b2 (1 : Int) krf krf f9 (wp 1 (wl (ql ?_)))))
 exact ⟨(b5, b3, b2 + (1 : Int)), _, rfl, by kernel_rfl, ⟨f8.kp, lsz, a8⟩, zad _⟩
 refine abq (abp (aby (abr ?_)))
 obtain rfl := oi a8
 refine aju  rfl  ?_
 exact ⟨(by first | rfl | (simp; done) | (simp; omega)), lsz, c6.kp⟩
theorem ado {fu : Nat} {a8 : List PQ} {a3 : Int} {a2 : Int} {b3 : Int} (a7 : Option Nat) (a5 : Option Addr) (a6 : Nat) {w : World} {r : List PQ} (hr : abz fu a8 a3 a2 b3 = some r) (hG : Gl w) (hM : Hp w (abh [rwt aaa 65 3 a7 a5 a6 a8]) [rwt aaa 65 3 a7 a5 a6 a8] w) (hS : ∀ b ∈ abh [rwt aaa 65 3 a7 a5 a6 a8], 9 ≤ b) : CR prog 253 [(Vs a5 a8.length a6), (Vi .i64 a3), (Vi .i64 a2), (Vi .i64 b3), (zap (.func 137) #[] #[])] w fun v w' => v = (zak #[]) ∧ r.length = a8.length ∧ Hp w (abh [rwt aaa 65 3 a7 a5 a6 a8]) [rwt aaa 65 3 a7 a5 a6 r] w' := by
 have hH : Hp w (abh (Zz10 a7 a5 a6 a8)) (Zz10 a7 a5 a6 a8) w := hM
 refine enter (k := 38) func253 rfl rfl nbe ?_
 unfold abz at hr
 refine sr (wp 1 (nq (ce (lpG (σ := Nat × (List PQ) × Int) [0, 1, 2, 3, 10] (fun ⟨b0, a1, a0⟩ => [(0, (Vs a5 a1.length a6)), (10, (Vi .i64 a0))]) (fun ⟨b0, a1, a0⟩ w' => Hp w (abh (Zz10 a7 a5 a6 a8)) (Zz10 a7 a5 a6 a1) w' ∧ a1.length = a8.length ∧ acl fu a3 a2 b3 b0 a1 a0 = some r) (fun ⟨b0, a1, a0⟩ => b0) (fu, a8, (0 : Int)) (by exact ⟨hH.kp, lsz, hr⟩) ?_))))
 rintro ⟨_ | b0, a1, a0⟩ d9 G ⟨b2, e0, a4⟩
 · exact nzz a4
 rw [acl.eq_2] at a4
 refine cs (sr (wp 3 (nq (cd a4 (fun c4 a4 => ?_) (fun c4 a4 => ?_)))))
 refine ck (qn (cs (ce (gi a4 fun c5 a4 => gi a4 fun c6 a4 => gi a4 fun c7 a4 => gi a4 fun b8 a4 => ?_))))
 have c8 := ago (b2.rdrw 0 rfl) aab (by decide) b8
 refine gi a4 fun b9 a4 => gi a4 fun c9 a4 => gi a4 fun c0 a4 => ?_
 have d0 := ago (b2.rdrw 0 rfl) aab (by decide) c0
 refine gi a4 fun c1 a4 => gi a4 fun b4 a4 => ?_
 have c2 := ago (b2.rdrw 0 rfl) aab (by decide) b4
 refine gi a4 fun c3 a4 => cdr 22 b2 (aak (ade (aam (aak adb)))) fun e1 b1 => rp 19 [0, 1, 2] (rt 3 (Vi .i64 (a3 + a0)) rfl rfl (aba rfl (by intro w hS_; exact (aln a3 a0 krf krf c5))) (rp 15 [4, 5, 6] (rt 7 (Vi .i64 (a2 + a0)) rfl rfl (aba rfl (by intro w hS_; exact (aln a2 a0 krf krf c6))) (rp 11 [8, 9, 10] (rt 11 (Vi .i64 (a2 + a0)) rfl rfl (aba rfl (by intro w hS_; exact (aln a2 a0 krf krf c7))) (rt 12 (Vp (some (ea a5 ((a2 + a0).toNat * 3)))) rfl rfl (aba rfl (by intro w hS_; exact (amh a5 a1.length a6 65 3 .i64 (a2 + a0) underlying22 krf krf krf (afw (l := a1) rfl b8) c8))) (rp 6 [14, 15, 16] ?_)))))))
 refine rt 17 (Vi .i64 (a3 + a0)) rfl rfl (aba rfl (by intro w hS_; exact (aln a3 a0 krf krf c9))) (rt 18 (Vp (some (ea a5 ((a3 + a0).toNat * 3)))) rfl rfl (aba rfl (by intro w hS_; exact (amh a5 a1.length a6 65 3 .i64 (a3 + a0) underlying22 krf krf krf (afw (l := a1) rfl c0) d0))) (r_one2 (Zz74) (Zz75) 13 19 _ _ rfl rfl krf krf krf rfl rfl ?_ ?_))
 refine ajh a5 aaa a1 3 (a2 + a0) aab (b1.rdrw 0 rfl) (Zz15 a1 a2 a0) b9 krf krf krf krf (by decide) (wl (abu (by exact trivial) (ro 19 rfl (ajh a5 aaa a1 3 (a3 + a0) aab (b1.rdrw 0 rfl) (Zz15 a1 a3 a0) c1 krf krf krf krf (by decide) (wl (abu (by exact trivial) (rt 20 (Vp (some (ea a5 ((a3 + a0).toNat * 3)))) rfl rfl (aba rfl (by intro w hS_; exact (amh a5 a1.length a6 65 3 .i64 (a3 + a0) underlying22 krf krf krf (afw (l := a1) rfl b4) c2))) (ro 21 rfl (ami b1 0 a7 a5 a6 65 3 (a3 + a0) a1 ((el a1 (a2 + a0)).1, (el a1 (a2 + a0)).2.1, ((el a1 (a2 + a0)).2.2)) rfl aab (Zz15 a1 a2 a0) c3 krf krf krf (by decide) krf fun b5 a9 => ?_)))))))))
 replace a9 : Hp w (abh (Zz10 a7 a5 a6 a8)) (Zz53 a7 a5 a6 a1 a3 a0 a2) b5 := a9
 refine wl (abu (by exact trivial) (adn krf (gi a4 fun d1 a4 => ahl a5 a1.length a6 65 3 .i64 (a2 + a0) underlying22 krf krf krf (zal a1 (zac (a3 + a0)) ((el a1 (a2 + a0)).1, (el a1 (a2 + a0)).2.1, ((el a1 (a2 + a0)).2.2))) (by first | rfl | (simp; done) | omega | (simp; omega) | (rw [zah]; omega)) d1 (a9.rdrw 0 rfl) aab (by decide) (gi a4 fun d2 a4 => ami a9 0 a7 a5 a6 65 3 (a2 + a0) (zal a1 (zac (a3 + a0)) ((el a1 (a2 + a0)).1, (el a1 (a2 + a0)).2.1, ((el a1 (a2 + a0)).2.2))) ((el a1 (a3 + a0)).1, (el a1 (a3 + a0)).2.1, ((el a1 (a3 + a0)).2.2)) rfl aab (Zz15 a1 a3 a0) d2 krf krf krf (by decide) krf fun d3 b6 => ?_))))
 replace b6 : Hp w (abh (Zz10 a7 a5 a6 a8)) (Zz31 a7 a5 a6 a1 a3 a0 a2) d3 := b6
 refine wl (bn (qn (cr (wp 1 (gi a4 fun d4 a4 => aae a0 (1 : Int) krf krf d4 (wp 1 (wl (ql ?_))))))))
 exact ⟨(b0, zal (zal a1 (zac (a3 + a0)) ((el a1 (a2 + a0)).1, (el a1 (a2 + a0)).2.1, ((el a1 (a2 + a0)).2.2))) (zac (a2 + a0)) ((el a1 (a3 + a0)).1, (el a1 (a3 + a0)).2.1, ((el a1 (a3 + a0)).2.2)), a0 + (1 : Int)), _, rfl, (mc (Eq.trans (b := (Vs a5 a1.length a6)) krf (aaj lsy)) (mc krf (mc krf (mc krf (mc krf rfl))))), ⟨b6.kp, lsz, a4⟩, zad _⟩
 refine ajh a5 aaa a1 3 (a3 + a0) aab (b1.rdrw 0 rfl) (Zz15 a1 a3 a0) c1 krf krf krf krf (by decide) (wl (abu (by exact trivial) (ro 13 rfl (ajh a5 aaa a1 3 (a2 + a0) aab (b1.rdrw 0 rfl) (Zz15 a1 a2 a0) b9 krf krf krf krf (by decide) (wl (abu (by exact trivial) (rt 20 (Vp (some (ea a5 ((a3 + a0).toNat * 3)))) rfl rfl (aba rfl (by intro w hS_; exact (amh a5 a1.length a6 65 3 .i64 (a3 + a0) underlying22 krf krf krf (afw (l := a1) rfl b4) c2))) (ro 21 rfl (ami b1 0 a7 a5 a6 65 3 (a3 + a0) a1 ((el a1 (a2 + a0)).1, (el a1 (a2 + a0)).2.1, ((el a1 (a2 + a0)).2.2)) rfl aab (Zz15 a1 a2 a0) c3 krf krf krf (by decide) krf fun b5 a9 => ?_)))))))))
 replace a9 : Hp w (abh (Zz10 a7 a5 a6 a8)) (Zz53 a7 a5 a6 a1 a3 a0 a2) b5 := a9
 refine wl (abu (by exact trivial) (adn krf (gi a4 fun d5 a4 => ahl a5 a1.length a6 65 3 .i64 (a2 + a0) underlying22 krf krf krf (zal a1 (zac (a3 + a0)) ((el a1 (a2 + a0)).1, (el a1 (a2 + a0)).2.1, ((el a1 (a2 + a0)).2.2))) (by first | rfl | (simp; done) | omega | (simp; omega) | (rw [zah]; omega)) d5 (a9.rdrw 0 rfl) aab (by decide) (gi a4 fun d6 a4 => ami a9 0 a7 a5 a6 65 3 (a2 + a0) (zal a1 (zac (a3 + a0)) ((el a1 (a2 + a0)).1, (el a1 (a2 + a0)).2.1, ((el a1 (a2 + a0)).2.2))) ((el a1 (a3 + a0)).1, (el a1 (a3 + a0)).2.1, ((el a1 (a3 + a0)).2.2)) rfl aab (Zz15 a1 a3 a0) d6 krf krf krf (by decide) krf fun d7 b7 => ?_))))
 replace b7 : Hp w (abh (Zz10 a7 a5 a6 a8)) (Zz31 a7 a5 a6 a1 a3 a0 a2) d7 := b7
 refine wl (bn (qn (cr (wp 1 (gi a4 fun d8 a4 => aae a0 (1 : Int) krf krf d8 (wp 1 (wl (ql ?_))))))))
 exact ⟨(b0, zal (zal a1 (zac (a3 + a0)) ((el a1 (a2 + a0)).1, (el a1 (a2 + a0)).2.1, ((el a1 (a2 + a0)).2.2))) (zac (a2 + a0)) ((el a1 (a3 + a0)).1, (el a1 (a3 + a0)).2.1, ((el a1 (a3 + a0)).2.2)), a0 + (1 : Int)), _, rfl, (mc (Eq.trans (b := (Vs a5 a1.length a6)) krf (aaj lsy)) (mc krf (mc krf (mc krf (mc krf rfl))))), ⟨b7.kp, lsz, a4⟩, zad _⟩
 refine abq (abp (aby (abr ?_)))
 obtain rfl := oi a4
 refine aju  rfl  ?_
 exact ⟨(by first | rfl | (simp; done) | (simp; omega)), lsz, b2.kp⟩
theorem ajl {fu : Nat} {a6 : List PQ} {b2 : Int} {a4 : Int} {b3 : Int} (a3 : Option Nat) (a0 : Option Addr) (a1 : Nat) {w : World} {r : List PQ} (hr : aef fu a6 b2 a4 b3 = some r) (hG : Gl w) (hM : Hp w (abh [rwt aaa 65 3 a3 a0 a1 a6]) [rwt aaa 65 3 a3 a0 a1 a6] w) (hS : ∀ b ∈ abh [rwt aaa 65 3 a3 a0 a1 a6], 9 ≤ b) : CR prog 242 [(Vs a0 a6.length a1), (Vi .i64 b2), (Vi .i64 a4), (Vi .i64 b3), (zap (.func 137) #[] #[])] w fun v w' => v = (zak #[]) ∧ r.length = a6.length ∧ Hp w (abh [rwt aaa 65 3 a3 a0 a1 a6]) [rwt aaa 65 3 a3 a0 a1 r] w' := by
 have hH : Hp w (abh (Zz10 a3 a0 a1 a6)) (Zz10 a3 a0 a1 a6) w := hM
 refine enter (k := 58) func242 rfl rfl nbe ?_
 unfold aef at hr
 refine sr (wp 2 (gi hr fun g1 hr => adk a4 b2 krf krf g1 (wp 1 (nq (sr ?_)))))
 refine wp 2 (gi hr fun g2 hr => adk b3 a4 krf krf g2 (wp 1 (nq (bi hr fun b5 c1 hr => cut (σ := ((List PQ) × Int)) [0, 2, 4, 10] (fun a9 => [(0, (Vs a0 a9.1.length a1)), (10, (Vi .i64 a9.2))]) (fun a9 w' => Hp w (abh (Zz10 a3 a0 a1 a6)) (Zz10 a3 a0 a1 a9.1) w' ∧ a9.1.length = a6.length ∧ a9 = b5) ?_ ?_))))
 refine ce (lpG (σ := Nat × (List PQ) × Int × Int) [0, 2, 4, 10, 11] (fun ⟨b1, a7, a5, a8⟩ => [(0, (Vs a0 a7.length a1)), (10, (Vi .i64 a5)), (11, (Vi .i64 a8))]) (fun ⟨b1, a7, a5, a8⟩ w' => Hp w (abh (Zz10 a3 a0 a1 a6)) (Zz10 a3 a0 a1 a7) w' ∧ a7.length = a6.length ∧ abw fu a4 b1 a7 a5 a8 = some b5) (fun ⟨b1, a7, a5, a8⟩ => b1) (fu, a6, a4 - b2, b3 - a4) (by exact ⟨hH.kp, lsz, c1⟩) ?_)
 rintro ⟨_ | b1, a7, a5, a8⟩ e1 G ⟨b0, e2, a2⟩
 · exact nzz a2
 rw [abw.eq_2] at a2
 refine cs (sr (wp 3 (nq (cn a2 (fun c2 a2 => ?_) (fun c2 a2 => ?_)))))
 refine ck (qn (ce (sr (wp 3 (nq (cd a2 (fun c3 a2 => ?_) (fun c3 a2 => ?_)))))))
 refine sr (wp 3 (gi a2 fun c4 a2 => adk a4 a5 krf krf c4 (wp 3 (bi a2 fun b6 c5 a2 => aat 253 #[] [(Vs a0 a7.length a1), (Vi .i64 (a4 - a5)), (Vi .i64 a4), (Vi .i64 a8), (zap (.func 137) #[] #[])] _ ent253 krf krf (ado a3 a0 a1 c5 (hG.hp b0 hS) (b0.hand (L1 := (Zz10 a3 a0 a1 a7)) (L2 := [])) (b0.highs hG hS 1 rfl)) ?_))))
 rintro _ c6 ⟨rfl, e3, b7⟩
 have c7 : Hp w (abh (Zz10 a3 a0 a1 a6)) (Zz10 a3 a0 a1 b6) c6 := Hp.callK (L1 := (Zz10 a3 a0 a1 a7)) (L2 := []) b0 b7; clear b7
 refine nq (cr (wp 2 (gi a2 fun c8 a2 => adk a5 a8 krf krf c8 (wp 1 (wl (bn (ql ?_)))))))
 exact ⟨(b1, b6, a5 - a8, a8), _, rfl, (mc (Eq.trans (b := (Vs a0 a7.length a1)) krf (aaj lsy)) (mc krf (mc krf (mc krf (mc krf rfl))))), ⟨c7.kp, lsz, a2⟩, zad _⟩
 refine sr (wp 3 (gi a2 fun c9 a2 => adk a4 a5 krf krf c9 (wp 2 (gi a2 fun d0 a2 => aae a4 a8 krf krf d0 (wp 1 (gi a2 fun d1 a2 => ?_))))))
 refine adk (a4 + a8) a5 krf krf d1 (wp 2 (bi a2 fun b8 d2 a2 => aat 253 #[] [(Vs a0 a7.length a1), (Vi .i64 (a4 - a5)), (Vi .i64 ((a4 + a8) - a5)), (Vi .i64 a5), (zap (.func 137) #[] #[])] _ ent253 krf krf (ado a3 a0 a1 d2 (hG.hp b0 hS) (b0.hand (L1 := (Zz10 a3 a0 a1 a7)) (L2 := [])) (b0.highs hG hS 1 rfl)) ?_))
 rintro _ d3 ⟨rfl, e4, b9⟩
 have d4 : Hp w (abh (Zz10 a3 a0 a1 a6)) (Zz10 a3 a0 a1 b8) d3 := Hp.callK (L1 := (Zz10 a3 a0 a1 a7)) (L2 := []) b0 b9; clear b9
 refine nq (cr (wp 2 (gi a2 fun d5 a2 => adk a8 a5 krf krf d5 (wp 1 (wl (bn (ql ?_)))))))
 exact ⟨(b1, b8, a5, a8 - a5), _, rfl, (mc (Eq.trans (b := (Vs a0 a7.length a1)) krf (aaj lsy)) (mc krf (mc krf (mc krf (mc krf rfl))))), ⟨d4.kp, lsz, a2⟩, zad _⟩
 refine abq (abp (aby (abr (ql ?_))))
 obtain rfl := oi a2
 exact ⟨(a7, a5), _, rfl, by kernel_rfl, b0.kp, lsz, rfl⟩
 rintro a9 e5 G ⟨b4, e6, rfl⟩
 refine cr (wp 3 (gi hr fun d6 hr => adk a4 a9.2 krf krf d6 (wp 3 (bi hr fun d7 d8 hr => aat 253 #[] [(Vs a0 a9.1.length a1), (Vi .i64 (a4 - a9.2)), (Vi .i64 a4), (Vi .i64 a9.2), (zap (.func 137) #[] #[])] _ ent253 krf krf (ado a3 a0 a1 d8 (hG.hp b4 hS) (b4.hand (L1 := (Zz10 a3 a0 a1 a9.1)) (L2 := [])) (b4.highs hG hS 1 rfl)) ?_))))
 rintro _ d9 ⟨rfl, e7, c0⟩
 have e0 : Hp w (abh (Zz10 a3 a0 a1 a6)) (Zz10 a3 a0 a1 d7) d9 := Hp.callK (L1 := (Zz10 a3 a0 a1 a9.1)) (L2 := []) b4 c0; clear c0
 refine wl ?_
 obtain rfl := oi hr
 refine aju  rfl  ?_
 exact ⟨(by first | rfl | (simp; done) | (simp; omega)), lsz, e0.kp⟩
theorem afm : ∀ {fu : Nat} {a5 : List PQ} {a8 : Int} {a9 : Int} {b2 : Int} (a7 : Option Nat) (a0 : Option Addr) (a6 : Nat) {w : World} {r : List PQ} (hr : abg fu a5 a8 a9 b2 = some r) (hG : Gl w) (hM : Hp w (abh [rwt aaa 65 3 a7 a0 a6 a5]) [rwt aaa 65 3 a7 a0 a6 a5] w) (hS : ∀ b ∈ abh [rwt aaa 65 3 a7 a0 a6 a5], 9 ≤ b), CR prog 220 [(Vs a0 a5.length a6), (Vi .i64 a8), (Vi .i64 a9), (Vi .i64 b2), (zap (.func 137) #[] #[])] w fun v w' => v = (zak #[]) ∧ r.length = a5.length ∧ Hp w (abh [rwt aaa 65 3 a7 a0 a6 a5]) [rwt aaa 65 3 a7 a0 a6 r] w' := by
 intro fu
 induction fu with
 | zero =>
  intro a5 a8 a9 b2 a7 a0 a6 w r hr hG hM hS
  exact nzz hr
 | succ fu ih =>
 intro a5 a8 a9 b2 a7 a0 a6 w r hr hG hM hS
 have hH : Hp w (abh (Zz10 a7 a0 a6 a5)) (Zz10 a7 a0 a6 a5) w := hM
 refine enter (k := 220) func220 rfl rfl nbe ?_
 rw [abg.eq_2] at hr
 refine bi hr fun j5 c3 hr => cut1 hH j5 [0, 1, 2, 3, 4] (fun j6 => []) ?_ ?_
 refine sr (wp 2 (gi c3 fun j7 c3 => adk a9 a8 krf krf j7 (wp 1 (nq (cd c3 (fun j8 c3 => ?_) (fun j8 c3 => ?_))))))
 refine sr (wp 2 (nq (sr (wp 2 (nq ?_)))))
 refine bi c3 fun f1 j9 c3 => age hH [0, 1, 2, 3, 4, 10] [(10, (Vi .i64 f1))] ?_ ?_
 refine ce (lpS (fun g4 ⟨b8, b9⟩ => abm fu a5 a8 g4 b8 b9) (a9, b2) hH j9 [0, 1, 2, 3, 4, 10, 11] (fun ⟨b8, b9⟩ => [(10, (Vi .i64 b8)), (11, (Vi .i64 b9))]) (fun _ => rfl) ?_)
 rintro g4 ⟨b8, b9⟩ t4 G g5 b6
 dsimp only at b6
 rw [abm.eq_2] at b6
 refine cs (sr (wp 3 (nq (cd b6 (fun k0 b6 => ?_) (fun k0 b6 => ?_)))))
 refine ck (qn (ce (sr (wp 2 (gi b6 fun k1 b6 => aae b8 b9 krf krf k1 (apc .u64 .i64 (b8 + b9) underlying3 underlying154 krf (w_shr .u64 .u64 (zaa .u64 (b8 + b9)) (1 : Int) 2 krf krf (by decide) (by decide) (by decide) ?_)))))))
 refine apc .i64 .u64 ((zaa .u64 (b8 + b9)) / 2) underlying154 underlying3 krf (wp 1 (nq (cs (gi b6 fun k2 b6 => gi b6 fun k3 b6 => gi b6 fun k4 b6 => gi b6 fun k5 b6 => aeh 9 (fun j_ w_ w_' => aay [4, 9, 10] (fun w' => Rd w' a0 (zai aaa a5)) j_ w_ w_' ∧ aay [9, 10] (fun w' => Rd w' a0 (zai aaa a5)) j_ w_ w_' ∧ aay [8, 9, 10] (fun w' => Rd w' a0 (zai aaa a5)) j_ w_ w_' ∧ True) [false, false, false, false, false, false, false, false, false, false, false] (fun _ _ => ⟨aay.same, aay.same, aay.same, trivial⟩) krf krf g5 rfl (ade (aak (aam (aak (aam (aam adb)))))) fun t5 d3 => ?_))))
 refine rp 6 [0, 1, 2] (aal [true, true, true, true, false, false, false, false, false, false, false] 3 43 (Vp (some (ea a0 ((zaa .i64 ((zaa .u64 (b8 + b9)) / 2)).toNat * 3)))) [4, 9, 10] (fun _ _ _ h => h.1) _ rfl rfl krf krf krf krf krf rfl (aba rfl (by intro w hS_; exact (aqn a0 a5.length a6 65 3 .i64 (zaa .i64 ((zaa .u64 (b8 + b9)) / 2)) underlying22 krf krf krf a5 rfl k2 hS_ aab (by decide)))) (by exact (d3.rdrw 0 rfl)) (aal [true, true, true, true, true, false, false, false, false, false, false] 4 44 (zan #[(str ((el a5 (zaa .i64 ((zaa .u64 (b8 + b9)) / 2))).1)), (str ((el a5 (zaa .i64 ((zaa .u64 (b8 + b9)) / 2))).2.1)), (Vb ((el a5 (zaa .i64 ((zaa .u64 (b8 + b9)) / 2))).2.2))]) [9, 10] (fun _ _ _ h => h.2.1) _ rfl rfl krf krf krf krf krf rfl (aba rfl (by intro w hS_; exact (arf a0 aaa a5 3 (zaa .i64 ((zaa .u64 (b8 + b9)) / 2)) aab hS_ [(str ((el a5 (zaa .i64 ((zaa .u64 (b8 + b9)) / 2))).1)), (str ((el a5 (zaa .i64 ((zaa .u64 (b8 + b9)) / 2))).2.1)), (Vb ((el a5 (zaa .i64 ((zaa .u64 (b8 + b9)) / 2))).2.2))] k3 krf krf krf krf (by decide)))) (by exact (d3.rdrw 0 rfl)) (rp 2 [5, 6] (aal [true, true, true, true, true, true, true, true, false, false, false] 7 47 (Vp (some (ea a0 (a8.toNat * 3)))) [8, 9, 10] (fun _ _ _ h => h.2.2.1) _ rfl rfl krf krf krf krf krf rfl (aba rfl (by intro w hS_; exact (aqn a0 a5.length a6 65 3 .i64 a8 underlying22 krf krf krf a5 rfl k4 hS_ aab (by decide)))) (by exact (d3.rdrw 0 rfl)) (aal [true, true, true, true, true, true, true, true, true, false, false] 8 48 (zan #[(str ((el a5 a8).1)), (str ((el a5 a8).2.1)), (Vb ((el a5 a8).2.2))]) [9, 10] (fun _ _ _ h => h.2.1) _ rfl rfl krf krf krf krf krf rfl (aba rfl (by intro w hS_; exact (arf a0 aaa a5 3 a8 aab hS_ (Zz0 a5 a8) k5 krf krf krf krf (by decide)))) (by exact (d3.rdrw 0 rfl)) (adn krf (bi b6 fun t6 k6 b6 => wc ent137 d3 (ajt k6 (hG.hp d3 hS)) fun t7 g6 => wp 1 ?_)))))))
 refine nq (cd b6 (fun k7 b6 => ?_) (fun k7 b6 => ?_))
 exact cr (wp 1 (gi b6 fun k8 b6 => aae (zaa .i64 ((zaa .u64 (b8 + b9)) / 2)) (1 : Int) krf krf k8 (wp 1 (wl (bn (ql (le' ((zaa .i64 ((zaa .u64 (b8 + b9)) / 2)) + (1 : Int), b9) g6.kp b6)))))))
 exact cr (wp 2 (wl (bn (ql (le' (b8, zaa .i64 ((zaa .u64 (b8 + b9)) / 2)) g6.kp b6)))))
 refine abq (abp (aby (abr (ql ?_))))
 obtain rfl := oi b6
 exact je g5.kp
 intro t8 G k9
 refine bi c3 fun g7 l0 c3 => cut (σ := (List PQ)) [0, 1, 2, 3, 4] (fun d4 => [(0, (Vs a0 d4.length a6))]) (fun d4 w' => Hp w (abh (Zz10 a7 a0 a6 a5)) (Zz10 a7 a0 a6 d4) w' ∧ d4.length = a5.length ∧ d4 = g7) ?_ ?_
 refine sr (wp 2 (nq (ce (lpG (σ := Nat × (List PQ) × Int) [0, 1, 2, 3, 4, 10, 13] (fun ⟨d0, a3, a1⟩ => [(0, (Vs a0 a3.length a6)), (13, (Vi .i64 a1))]) (fun ⟨d0, a3, a1⟩ w' => Hp w (abh (Zz10 a7 a0 a6 a5)) (Zz10 a7 a0 a6 a3) w' ∧ a3.length = a5.length ∧ acq fu f1 d0 a3 a1 = some g7) (fun ⟨d0, a3, a1⟩ => d0) (fu, a5, a8) (by exact ⟨k9.kp, lsz, l0⟩) ?_))))
 rintro ⟨_ | d0, a3, a1⟩ t9 G ⟨e1, u0, b0⟩
 · exact nzz b0
 rw [acq.eq_2] at b0
 refine cs (sr (wp 2 (gi b0 fun l1 b0 => adk f1 (1 : Int) krf krf l1 (wp 1 (nq (cd b0 (fun l2 b0 => ?_) (fun l2 b0 => ?_)))))))
 refine ck (qn (cs (ce (gi b0 fun l3 b0 => gi b0 fun l4 b0 => gi b0 fun g8 b0 => ?_))))
 have l5 := ago (e1.rdrw 0 rfl) aab (by decide) g8
 refine gi b0 fun g9 b0 => gi b0 fun h0 b0 => ?_
 have l6 := ago (e1.rdrw 0 rfl) aab (by decide) h0
 refine gi b0 fun h1 b0 => gi b0 fun f2 b0 => ?_
 have h2 := ago (e1.rdrw 0 rfl) aab (by decide) f2
 refine gi b0 fun h3 b0 => cdr 16 e1 (aak (ade (aam (aak (aam (aam adb)))))) fun u1 d5 => rp 12 [0, 1, 2, 3] (rt 4 (Vi .i64 (a1 + (1 : Int))) rfl rfl (aba rfl (by intro w hS_; exact (aln a1 (1 : Int) krf krf l3))) (rp 9 [5, 6] (rt 7 (Vi .i64 (a1 + (1 : Int))) rfl rfl (aba rfl (by intro w hS_; exact (aln a1 (1 : Int) krf krf l4))) (rt 8 (Vp (some (ea a0 ((a1 + (1 : Int)).toNat * 3)))) rfl rfl (aba rfl (by intro w hS_; exact (amh a0 a3.length a6 65 3 .i64 (a1 + (1 : Int)) underlying22 krf krf krf (afw (l := a3) rfl g8) l5))) (rp 5 [10, 11] (rt 12 (Vp (some (ea a0 (a1.toNat * 3)))) rfl rfl (aba rfl (by intro w hS_; exact (amh a0 a3.length a6 65 3 .i64 a1 underlying22 krf krf krf (afw (l := a3) rfl h0) l6))) (r_one2 (Zz29) (Zz34) 9 13 _ _ rfl rfl krf krf krf rfl rfl ?_ ?_)))))))
 refine ajh a0 aaa a3 3 (a1 + (1 : Int)) aab (d5.rdrw 0 rfl) (Zz27 a3 a1) g9 krf krf krf krf (by decide) (wl (abu (by exact trivial) (ro 13 rfl (ajh a0 aaa a3 3 a1 aab (d5.rdrw 0 rfl) (Zz0 a3 a1) h1 krf krf krf krf (by decide) (wl (abu (by exact trivial) (rt 14 (Vp (some (ea a0 (a1.toNat * 3)))) rfl rfl (aba rfl (by intro w hS_; exact (amh a0 a3.length a6 65 3 .i64 a1 underlying22 krf krf krf (afw (l := a3) rfl f2) h2))) (ro 15 rfl (ami d5 0 a7 a0 a6 65 3 a1 a3 ((el a3 (a1 + (1 : Int))).1, (el a3 (a1 + (1 : Int))).2.1, ((el a3 (a1 + (1 : Int))).2.2)) rfl aab (Zz27 a3 a1) h3 krf krf krf (by decide) krf fun f3 c5 => ?_)))))))))
 replace c5 : Hp w (abh (Zz10 a7 a0 a6 a5)) (Zz50 a7 a0 a6 a3 a1) f3 := c5
 refine wl (abu (by exact trivial) (adn krf (gi b0 fun l7 b0 => ahl a0 a3.length a6 65 3 .i64 (a1 + (1 : Int)) underlying22 krf krf krf (zal a3 (zac a1) ((el a3 (a1 + (1 : Int))).1, (el a3 (a1 + (1 : Int))).2.1, ((el a3 (a1 + (1 : Int))).2.2))) (by first | rfl | (simp; done) | omega | (simp; omega) | (rw [zah]; omega)) l7 (c5.rdrw 0 rfl) aab (by decide) (gi b0 fun l8 b0 => ami c5 0 a7 a0 a6 65 3 (a1 + (1 : Int)) (zal a3 (zac a1) ((el a3 (a1 + (1 : Int))).1, (el a3 (a1 + (1 : Int))).2.1, ((el a3 (a1 + (1 : Int))).2.2))) ((el a3 a1).1, (el a3 a1).2.1, ((el a3 a1).2.2)) rfl aab (Zz0 a3 a1) l8 krf krf krf (by decide) krf fun l9 f4 => ?_))))
 replace f4 : Hp w (abh (Zz10 a7 a0 a6 a5)) (Zz30 a7 a0 a6 a3 a1) l9 := f4
 refine wl (bn (qn (cr (wp 1 (gi b0 fun m0 b0 => aae a1 (1 : Int) krf krf m0 (wp 1 (wl (ql ?_))))))))
 exact ⟨(d0, zal (zal a3 (zac a1) ((el a3 (a1 + (1 : Int))).1, (el a3 (a1 + (1 : Int))).2.1, ((el a3 (a1 + (1 : Int))).2.2))) (zac (a1 + (1 : Int))) ((el a3 a1).1, (el a3 a1).2.1, ((el a3 a1).2.2)), a1 + (1 : Int)), _, rfl, (mc (Eq.trans (b := (Vs a0 a3.length a6)) krf (aaj lsy)) (mc krf (mc krf (mc krf (mc krf (mc krf (mc krf rfl))))))), ⟨f4.kp, lsz, b0⟩, zad _⟩
 refine ajh a0 aaa a3 3 a1 aab (d5.rdrw 0 rfl) (Zz0 a3 a1) h1 krf krf krf krf (by decide) (wl (abu (by exact trivial) (ro 9 rfl (ajh a0 aaa a3 3 (a1 + (1 : Int)) aab (d5.rdrw 0 rfl) (Zz27 a3 a1) g9 krf krf krf krf (by decide) (wl (abu (by exact trivial) (rt 14 (Vp (some (ea a0 (a1.toNat * 3)))) rfl rfl (aba rfl (by intro w hS_; exact (amh a0 a3.length a6 65 3 .i64 a1 underlying22 krf krf krf (afw (l := a3) rfl f2) h2))) (ro 15 rfl (ami d5 0 a7 a0 a6 65 3 a1 a3 ((el a3 (a1 + (1 : Int))).1, (el a3 (a1 + (1 : Int))).2.1, ((el a3 (a1 + (1 : Int))).2.2)) rfl aab (Zz27 a3 a1) h3 krf krf krf (by decide) krf fun f3 c5 => ?_)))))))))
 replace c5 : Hp w (abh (Zz10 a7 a0 a6 a5)) (Zz50 a7 a0 a6 a3 a1) f3 := c5
 refine wl (abu (by exact trivial) (adn krf (gi b0 fun m1 b0 => ahl a0 a3.length a6 65 3 .i64 (a1 + (1 : Int)) underlying22 krf krf krf (zal a3 (zac a1) ((el a3 (a1 + (1 : Int))).1, (el a3 (a1 + (1 : Int))).2.1, ((el a3 (a1 + (1 : Int))).2.2))) (by first | rfl | (simp; done) | omega | (simp; omega) | (rw [zah]; omega)) m1 (c5.rdrw 0 rfl) aab (by decide) (gi b0 fun m2 b0 => ami c5 0 a7 a0 a6 65 3 (a1 + (1 : Int)) (zal a3 (zac a1) ((el a3 (a1 + (1 : Int))).1, (el a3 (a1 + (1 : Int))).2.1, ((el a3 (a1 + (1 : Int))).2.2))) ((el a3 a1).1, (el a3 a1).2.1, ((el a3 a1).2.2)) rfl aab (Zz0 a3 a1) m2 krf krf krf (by decide) krf fun m3 f5 => ?_))))
 replace f5 : Hp w (abh (Zz10 a7 a0 a6 a5)) (Zz30 a7 a0 a6 a3 a1) m3 := f5
 refine wl (bn (qn (cr (wp 1 (gi b0 fun m4 b0 => aae a1 (1 : Int) krf krf m4 (wp 1 (wl (ql ?_))))))))
 exact ⟨(d0, zal (zal a3 (zac a1) ((el a3 (a1 + (1 : Int))).1, (el a3 (a1 + (1 : Int))).2.1, ((el a3 (a1 + (1 : Int))).2.2))) (zac (a1 + (1 : Int))) ((el a3 a1).1, (el a3 a1).2.1, ((el a3 a1).2.2)), a1 + (1 : Int)), _, rfl, (mc (Eq.trans (b := (Vs a0 a3.length a6)) krf (aaj lsy)) (mc krf (mc krf (mc krf (mc krf (mc krf (mc krf rfl))))))), ⟨f5.kp, lsz, b0⟩, zad _⟩
 refine abq (abp (aby (abr (ql ?_))))
 obtain rfl := oi b0
 exact ⟨a3, _, rfl, by kernel_rfl, e1.kp, lsz, rfl⟩
 rintro d4 u2 G ⟨m5, u3, rfl⟩
 refine ct (adg ?_)
 obtain rfl := oi c3
 obtain rfl := oi hr
 refine r_none  rfl  ?_
 exact ⟨(by first | rfl | (simp; done) | (simp; omega)), lsz, m5.kp⟩
 refine ck (ql ?_)
 obtain rfl := oi c3
 exact je1 rfl hH.kp
 rintro j6 u4 G e9 rfl
 refine bi hr fun m6 c4 hr => cut1 e9 m6 [0, 1, 2, 3, 4] (fun m7 => []) ?_ ?_
 refine sr (wp 2 (gi c4 fun m8 c4 => adk b2 a9 krf krf m8 (wp 1 (nq (cd c4 (fun m9 c4 => ?_) (fun m9 c4 => ?_))))))
 refine sr (wp 2 (nq (sr (wp 2 (nq ?_)))))
 refine bi c4 fun h4 n0 c4 => age e9 [0, 1, 2, 3, 4, 14] [(14, (Vi .i64 h4))] ?_ ?_
 refine ce (lpS (fun h5 ⟨c0, c1⟩ => abl fu a5 a9 h5 c0 c1) (a8, a9) e9 n0 [0, 1, 2, 3, 4, 14, 15] (fun ⟨c0, c1⟩ => [(14, (Vi .i64 c0)), (15, (Vi .i64 c1))]) (fun _ => rfl) ?_)
 rintro h5 ⟨c0, c1⟩ u5 G h6 b7
 dsimp only at b7
 rw [abl.eq_2] at b7
 refine cs (sr (wp 3 (nq (cd b7 (fun n1 b7 => ?_) (fun n1 b7 => ?_)))))
 refine ck (qn (ce (sr (wp 2 (gi b7 fun n2 b7 => aae c0 c1 krf krf n2 (apc .u64 .i64 (c0 + c1) underlying3 underlying154 krf (w_shr .u64 .u64 (zaa .u64 (c0 + c1)) (1 : Int) 2 krf krf (by decide) (by decide) (by decide) ?_)))))))
 refine apc .i64 .u64 ((zaa .u64 (c0 + c1)) / 2) underlying154 underlying3 krf (wp 1 (nq (cs (gi b7 fun n3 b7 => gi b7 fun n4 b7 => gi b7 fun n5 b7 => gi b7 fun n6 b7 => aeh 9 (fun j_ w_ w_' => aay [4, 9, 10, 11] (fun w' => Rd w' a0 (zai aaa a5)) j_ w_ w_' ∧ aay [9, 10, 11] (fun w' => Rd w' a0 (zai aaa a5)) j_ w_ w_' ∧ aay [8, 9, 10, 11] (fun w' => Rd w' a0 (zai aaa a5)) j_ w_ w_' ∧ True) (Zz51) (fun _ _ => ⟨aay.same, aay.same, aay.same, trivial⟩) krf krf h6 rfl (ade (aak (aam (aak (aam (aam adb)))))) fun u6 d6 => ?_))))
 refine rp 6 [0, 1, 2] (aal (Zz72) 3 95 (Vp (some (ea a0 (a9.toNat * 3)))) [4, 9, 10, 11] (fun _ _ _ h => h.1) _ rfl rfl krf krf krf krf krf rfl (aba rfl (by intro w hS_; exact (aqn a0 a5.length a6 65 3 .i64 a9 underlying22 krf krf krf a5 rfl n3 hS_ aab (by decide)))) (by exact (d6.rdrw 0 rfl)) (aal (Zz59) 4 96 (zan #[(str ((el a5 a9).1)), (str ((el a5 a9).2.1)), (Vb ((el a5 a9).2.2))]) [9, 10, 11] (fun _ _ _ h => h.2.1) _ rfl rfl krf krf krf krf krf rfl (aba rfl (by intro w hS_; exact (arf a0 aaa a5 3 a9 aab hS_ (Zz0 a5 a9) n4 krf krf krf krf (by decide)))) (by exact (d6.rdrw 0 rfl)) (rp 2 [5, 6] (aal [true, true, true, true, true, true, true, true, false, false, false, false] 7 99 (Vp (some (ea a0 ((zaa .i64 ((zaa .u64 (c0 + c1)) / 2)).toNat * 3)))) [8, 9, 10, 11] (fun _ _ _ h => h.2.2.1) _ rfl rfl krf krf krf krf krf rfl (aba rfl (by intro w hS_; exact (aqn a0 a5.length a6 65 3 .i64 (zaa .i64 ((zaa .u64 (c0 + c1)) / 2)) underlying22 krf krf krf a5 rfl n5 hS_ aab (by decide)))) (by exact (d6.rdrw 0 rfl)) (aal (Zz64) 8 100 (zan #[(str ((el a5 (zaa .i64 ((zaa .u64 (c0 + c1)) / 2))).1)), (str ((el a5 (zaa .i64 ((zaa .u64 (c0 + c1)) / 2))).2.1)), (Vb ((el a5 (zaa .i64 ((zaa .u64 (c0 + c1)) / 2))).2.2))]) [9, 10, 11] (fun _ _ _ h => h.2.1) _ rfl rfl krf krf krf krf krf rfl (aba rfl (by intro w hS_; exact (arf a0 aaa a5 3 (zaa .i64 ((zaa .u64 (c0 + c1)) / 2)) aab hS_ [(str ((el a5 (zaa .i64 ((zaa .u64 (c0 + c1)) / 2))).1)), (str ((el a5 (zaa .i64 ((zaa .u64 (c0 + c1)) / 2))).2.1)), (Vb ((el a5 (zaa .i64 ((zaa .u64 (c0 + c1)) / 2))).2.2))] n6 krf krf krf krf (by decide)))) (by exact (d6.rdrw 0 rfl)) (adn krf (bi b7 fun u7 n7 b7 => wc ent137 d6 (ajt n7 (hG.hp d6 hS)) fun u9 h7 => wp 2 ?_)))))))
 refine nq (cn b7 (fun n8 b7 => ?_) (fun n8 b7 => ?_))
 exact cr (wp 1 (gi b7 fun n9 b7 => aae (zaa .i64 ((zaa .u64 (c0 + c1)) / 2)) (1 : Int) krf krf n9 (wp 1 (wl (bn (ql (le' ((zaa .i64 ((zaa .u64 (c0 + c1)) / 2)) + (1 : Int), c1) h7.kp b7)))))))
 exact cr (wp 2 (wl (bn (ql (le' (c0, zaa .i64 ((zaa .u64 (c0 + c1)) / 2)) h7.kp b7)))))
 refine abq (abp (aby (abr (ql ?_))))
 obtain rfl := oi b7
 exact je h6.kp
 intro v0 G o0
 refine bi c4 fun h8 o1 c4 => cut (σ := (List PQ)) [0, 1, 2, 3, 4] (fun d7 => [(0, (Vs a0 d7.length a6))]) (fun d7 w' => Hp w (abh (Zz10 a7 a0 a6 a5)) (Zz10 a7 a0 a6 d7) w' ∧ d7.length = a5.length ∧ d7 = h8) ?_ ?_
 refine sr (wp 2 (nq (ce (lpG (σ := Nat × (List PQ) × Int) [0, 1, 2, 3, 4, 14, 17] (fun ⟨d1, a4, a2⟩ => [(0, (Vs a0 a4.length a6)), (17, (Vi .i64 a2))]) (fun ⟨d1, a4, a2⟩ w' => Hp w (abh (Zz10 a7 a0 a6 a5)) (Zz10 a7 a0 a6 a4) w' ∧ a4.length = a5.length ∧ acp fu h4 d1 a4 a2 = some h8) (fun ⟨d1, a4, a2⟩ => d1) (fu, a5, a9) (by exact ⟨o0.kp, lsz, o1⟩) ?_))))
 rintro ⟨_ | d1, a4, a2⟩ v1 G ⟨e2, v2, b1⟩
 · exact nzz b1
 rw [acp.eq_2] at b1
 refine cs (sr (wp 3 (nq (cd b1 (fun o2 b1 => ?_) (fun o2 b1 => ?_)))))
 refine ck (qn (cs (ce (gi b1 fun o3 b1 => gi b1 fun o4 b1 => gi b1 fun h9 b1 => ?_))))
 have o5 := ago (e2.rdrw 0 rfl) aab (by decide) h9
 refine gi b1 fun i0 b1 => gi b1 fun i1 b1 => ?_
 have o6 := ago (e2.rdrw 0 rfl) aab (by decide) i1
 refine gi b1 fun i2 b1 => gi b1 fun f6 b1 => ?_
 have i3 := ago (e2.rdrw 0 rfl) aab (by decide) f6
 refine gi b1 fun i4 b1 => cdr 16 e2 (aak (ade (aam (aak (aam (aam adb)))))) fun v3 d8 => rp 12 [0, 1, 2, 3] (rt 4 (Vi .i64 (a2 - (1 : Int))) rfl rfl (aba rfl (by intro w hS_; exact (amg a2 (1 : Int) krf krf o3))) (rp 9 [5, 6] (rt 7 (Vi .i64 (a2 - (1 : Int))) rfl rfl (aba rfl (by intro w hS_; exact (amg a2 (1 : Int) krf krf o4))) (rt 8 (Vp (some (ea a0 ((a2 - (1 : Int)).toNat * 3)))) rfl rfl (aba rfl (by intro w hS_; exact (amh a0 a4.length a6 65 3 .i64 (a2 - (1 : Int)) underlying22 krf krf krf (afw (l := a4) rfl h9) o5))) (rp 5 [10, 11] (rt 12 (Vp (some (ea a0 (a2.toNat * 3)))) rfl rfl (aba rfl (by intro w hS_; exact (amh a0 a4.length a6 65 3 .i64 a2 underlying22 krf krf krf (afw (l := a4) rfl i1) o6))) (r_one2 (Zz29) (Zz34) 9 13 _ _ rfl rfl krf krf krf rfl rfl ?_ ?_)))))))
 refine ajh a0 aaa a4 3 (a2 - (1 : Int)) aab (d8.rdrw 0 rfl) (Zz9 a4 a2) i0 krf krf krf krf (by decide) (wl (abu (by exact trivial) (ro 13 rfl (ajh a0 aaa a4 3 a2 aab (d8.rdrw 0 rfl) (Zz0 a4 a2) i2 krf krf krf krf (by decide) (wl (abu (by exact trivial) (rt 14 (Vp (some (ea a0 (a2.toNat * 3)))) rfl rfl (aba rfl (by intro w hS_; exact (amh a0 a4.length a6 65 3 .i64 a2 underlying22 krf krf krf (afw (l := a4) rfl f6) i3))) (ro 15 rfl (ami d8 0 a7 a0 a6 65 3 a2 a4 ((el a4 (a2 - (1 : Int))).1, (el a4 (a2 - (1 : Int))).2.1, ((el a4 (a2 - (1 : Int))).2.2)) rfl aab (Zz9 a4 a2) i4 krf krf krf (by decide) krf fun f7 c6 => ?_)))))))))
 replace c6 : Hp w (abh (Zz10 a7 a0 a6 a5)) (Zz21 a7 a0 a6 a4 a2) f7 := c6
 refine wl (abu (by exact trivial) (adn krf (gi b1 fun o7 b1 => ahl a0 a4.length a6 65 3 .i64 (a2 - (1 : Int)) underlying22 krf krf krf (zal a4 (zac a2) ((el a4 (a2 - (1 : Int))).1, (el a4 (a2 - (1 : Int))).2.1, ((el a4 (a2 - (1 : Int))).2.2))) (by first | rfl | (simp; done) | omega | (simp; omega) | (rw [zah]; omega)) o7 (c6.rdrw 0 rfl) aab (by decide) (gi b1 fun o8 b1 => ami c6 0 a7 a0 a6 65 3 (a2 - (1 : Int)) (zal a4 (zac a2) ((el a4 (a2 - (1 : Int))).1, (el a4 (a2 - (1 : Int))).2.1, ((el a4 (a2 - (1 : Int))).2.2))) ((el a4 a2).1, (el a4 a2).2.1, ((el a4 a2).2.2)) rfl aab (Zz0 a4 a2) o8 krf krf krf (by decide) krf fun o9 f8 => ?_))))
 replace f8 : Hp w (abh (Zz10 a7 a0 a6 a5)) (Zz11 a7 a0 a6 a4 a2) o9 := f8
 refine wl (bn (qn (cr (wp 1 (gi b1 fun p0 b1 => adk a2 (1 : Int) krf krf p0 (wp 1 (wl (ql ?_))))))))
 exact ⟨(d1, zal (zal a4 (zac a2) ((el a4 (a2 - (1 : Int))).1, (el a4 (a2 - (1 : Int))).2.1, ((el a4 (a2 - (1 : Int))).2.2))) (zac (a2 - (1 : Int))) ((el a4 a2).1, (el a4 a2).2.1, ((el a4 a2).2.2)), a2 - (1 : Int)), _, rfl, (mc (Eq.trans (b := (Vs a0 a4.length a6)) krf (aaj lsy)) (mc krf (mc krf (mc krf (mc krf (mc krf (mc krf rfl))))))), ⟨f8.kp, lsz, b1⟩, zad _⟩
 refine ajh a0 aaa a4 3 a2 aab (d8.rdrw 0 rfl) (Zz0 a4 a2) i2 krf krf krf krf (by decide) (wl (abu (by exact trivial) (ro 9 rfl (ajh a0 aaa a4 3 (a2 - (1 : Int)) aab (d8.rdrw 0 rfl) (Zz9 a4 a2) i0 krf krf krf krf (by decide) (wl (abu (by exact trivial) (rt 14 (Vp (some (ea a0 (a2.toNat * 3)))) rfl rfl (aba rfl (by intro w hS_; exact (amh a0 a4.length a6 65 3 .i64 a2 underlying22 krf krf krf (afw (l := a4) rfl f6) i3))) (ro 15 rfl (ami d8 0 a7 a0 a6 65 3 a2 a4 ((el a4 (a2 - (1 : Int))).1, (el a4 (a2 - (1 : Int))).2.1, ((el a4 (a2 - (1 : Int))).2.2)) rfl aab (Zz9 a4 a2) i4 krf krf krf (by decide) krf fun f7 c6 => ?_)))))))))
 replace c6 : Hp w (abh (Zz10 a7 a0 a6 a5)) (Zz21 a7 a0 a6 a4 a2) f7 := c6
 refine wl (abu (by exact trivial) (adn krf (gi b1 fun p1 b1 => ahl a0 a4.length a6 65 3 .i64 (a2 - (1 : Int)) underlying22 krf krf krf (zal a4 (zac a2) ((el a4 (a2 - (1 : Int))).1, (el a4 (a2 - (1 : Int))).2.1, ((el a4 (a2 - (1 : Int))).2.2))) (by first | rfl | (simp; done) | omega | (simp; omega) | (rw [zah]; omega)) p1 (c6.rdrw 0 rfl) aab (by decide) (gi b1 fun p2 b1 => ami c6 0 a7 a0 a6 65 3 (a2 - (1 : Int)) (zal a4 (zac a2) ((el a4 (a2 - (1 : Int))).1, (el a4 (a2 - (1 : Int))).2.1, ((el a4 (a2 - (1 : Int))).2.2))) ((el a4 a2).1, (el a4 a2).2.1, ((el a4 a2).2.2)) rfl aab (Zz0 a4 a2) p2 krf krf krf (by decide) krf fun p3 f9 => ?_))))
 replace f9 : Hp w (abh (Zz10 a7 a0 a6 a5)) (Zz11 a7 a0 a6 a4 a2) p3 := f9
 refine wl (bn (qn (cr (wp 1 (gi b1 fun p4 b1 => adk a2 (1 : Int) krf krf p4 (wp 1 (wl (ql ?_))))))))
 exact ⟨(d1, zal (zal a4 (zac a2) ((el a4 (a2 - (1 : Int))).1, (el a4 (a2 - (1 : Int))).2.1, ((el a4 (a2 - (1 : Int))).2.2))) (zac (a2 - (1 : Int))) ((el a4 a2).1, (el a4 a2).2.1, ((el a4 a2).2.2)), a2 - (1 : Int)), _, rfl, (mc (Eq.trans (b := (Vs a0 a4.length a6)) krf (aaj lsy)) (mc krf (mc krf (mc krf (mc krf (mc krf (mc krf rfl))))))), ⟨f9.kp, lsz, b1⟩, zad _⟩
 refine abq (abp (aby (abr (ql ?_))))
 obtain rfl := oi b1
 exact ⟨a4, _, rfl, by kernel_rfl, e2.kp, lsz, rfl⟩
 rintro d7 v4 G ⟨p5, v5, rfl⟩
 refine ct (adg ?_)
 obtain rfl := oi c4
 obtain rfl := oi hr
 refine r_none  rfl  ?_
 exact ⟨(by first | rfl | (simp; done) | (simp; omega)), lsz, p5.kp⟩
 refine ck (ql ?_)
 obtain rfl := oi c4
 exact je1 rfl e9.kp
 rintro m7 v6 G g0 rfl
 refine sr (wp 2 (gi hr fun p6 hr => aae a8 b2 krf krf p6 (apc .u64 .i64 (a8 + b2) underlying3 underlying154 krf (w_shr .u64 .u64 (zaa .u64 (a8 + b2)) (1 : Int) 2 krf krf (by decide) (by decide) (by decide) (apc .i64 .u64 ((zaa .u64 (a8 + b2)) / 2) underlying154 underlying3 krf (wp 1 (wl ?_)))))))
 refine qn (sr (wp 2 (gi hr fun p7 hr => aae (zaa .i64 ((zaa .u64 (a8 + b2)) / 2)) a9 krf krf p7 (wp 1 (nq (cs ?_))))))
 refine cr (wp 2 (nq (bi hr fun f0 d2 hr => age g0 [0, 1, 2, 3, 4, 18, 19, 20, 21] [(20, (Vi .i64 f0.1)), (21, (Vi .i64 f0.2))] ?_ ?_)))
 refine sr (wp 3 (nq (cd d2 (fun p8 d2 => ?_) (fun p8 d2 => ?_))))
 refine sr (wp 2 (gi d2 fun p9 d2 => adk ((zaa .i64 ((zaa .u64 (a8 + b2)) / 2)) + a9) b2 krf krf p9 (wp 1 (nq (cr (wp 2 ?_))))))
 refine wl (ql ?_)
 obtain rfl := oi d2
 exact je g0.kp
 refine sr (wp 2 (nq (cr (wp 2 (wl (ql ?_))))))
 obtain rfl := oi d2
 exact je g0.kp
 intro v7 G i5
 refine sr (wp 1 (gi hr fun q0 hr => adk ((zaa .i64 ((zaa .u64 (a8 + b2)) / 2)) + a9) (1 : Int) krf krf q0 (wp 1 (nq (bi hr fun d9 q1 hr => age i5 [0, 1, 2, 3, 4, 18, 19, 20] [(20, (Vi .i64 d9))] ?_ ?_)))))
 refine ce (lpS (fun i6 ⟨b3, b4⟩ => abk fu a5 a8 a9 b2 i6 b3 b4) (f0.1, f0.2) i5 q1 [0, 1, 2, 3, 4, 18, 19, 20, 21, 22] (fun ⟨b3, b4⟩ => [(20, (Vi .i64 b3)), (21, (Vi .i64 b4))]) (fun _ => rfl) ?_)
 rintro i6 ⟨b3, b4⟩ v8 G i7 b5
 dsimp only at b5
 rw [abk.eq_2] at b5
 refine cs (sr (wp 3 (nq (cd b5 (fun q2 b5 => ?_) (fun q2 b5 => ?_)))))
 refine ck (qn (ce (sr (wp 2 (gi b5 fun q3 b5 => aae b3 b4 krf krf q3 (apc .u64 .i64 (b3 + b4) underlying3 underlying154 krf (w_shr .u64 .u64 (zaa .u64 (b3 + b4)) (1 : Int) 2 krf krf (by decide) (by decide) (by decide) ?_)))))))
 refine apc .i64 .u64 ((zaa .u64 (b3 + b4)) / 2) underlying154 underlying3 krf (wp 1 (nq (cs (gi b5 fun q4 b5 => gi b5 fun q5 b5 => gi b5 fun q6 b5 => gi b5 fun q7 b5 => gi b5 fun q8 b5 => ?_))))
 refine aeh 11 (fun j_ w_ w_' => aay [6, 11, 12, 13] (fun w' => Rd w' a0 (zai aaa a5)) j_ w_ w_' ∧ aay [11, 12, 13] (fun w' => Rd w' a0 (zai aaa a5)) j_ w_ w_' ∧ aay [10, 11, 12, 13] (fun w' => Rd w' a0 (zai aaa a5)) j_ w_ w_' ∧ True) (Zz66) (fun _ _ => ⟨aay.same, aay.same, aay.same, trivial⟩) krf krf i7 rfl (ade (aak (aam (aak (aam adb))))) fun v9 e0 => rp 7 [0, 1, 2, 3] (rt 4 (Vi .i64 ((((zaa .i64 ((zaa .u64 (a8 + b2)) / 2)) + a9) - (1 : Int)) - (zaa .i64 ((zaa .u64 (b3 + b4)) / 2)))) rfl rfl (aba rfl (by intro w hS_; exact (amg (((zaa .i64 ((zaa .u64 (a8 + b2)) / 2)) + a9) - (1 : Int)) (zaa .i64 ((zaa .u64 (b3 + b4)) / 2)) krf krf q4))) (aal (Zz70) 5 163 (Vp (some (ea a0 (((((zaa .i64 ((zaa .u64 (a8 + b2)) / 2)) + a9) - (1 : Int)) - (zaa .i64 ((zaa .u64 (b3 + b4)) / 2))).toNat * 3)))) [6, 11, 12, 13] (fun _ _ _ h => h.1) _ rfl rfl krf krf krf krf krf rfl (aba rfl (by intro w hS_; exact (aqn a0 a5.length a6 65 3 .i64 ((((zaa .i64 ((zaa .u64 (a8 + b2)) / 2)) + a9) - (1 : Int)) - (zaa .i64 ((zaa .u64 (b3 + b4)) / 2))) underlying22 krf krf krf a5 rfl q5 hS_ aab (by decide)))) (by exact (e0.rdrw 0 rfl)) (aal [true, true, true, true, true, true, true, false, false, false, false, false, false, false] 6 164 (zan #[(str ((el a5 ((((zaa .i64 ((zaa .u64 (a8 + b2)) / 2)) + a9) - (1 : Int)) - (zaa .i64 ((zaa .u64 (b3 + b4)) / 2)))).1)), (str ((el a5 ((((zaa .i64 ((zaa .u64 (a8 + b2)) / 2)) + a9) - (1 : Int)) - (zaa .i64 ((zaa .u64 (b3 + b4)) / 2)))).2.1)), (Vb ((el a5 ((((zaa .i64 ((zaa .u64 (a8 + b2)) / 2)) + a9) - (1 : Int)) - (zaa .i64 ((zaa .u64 (b3 + b4)) / 2)))).2.2))]) [11, 12, 13] (fun _ _ _ h => h.2.1) _ rfl rfl krf krf krf krf krf rfl (aba rfl (by intro w hS_; exact (arf a0 aaa a5 3 ((((zaa .i64 ((zaa .u64 (a8 + b2)) / 2)) + a9) - (1 : Int)) - (zaa .i64 ((zaa .u64 (b3 + b4)) / 2))) aab hS_ [(str ((el a5 ((((zaa .i64 ((zaa .u64 (a8 + b2)) / 2)) + a9) - (1 : Int)) - (zaa .i64 ((zaa .u64 (b3 + b4)) / 2)))).1)), (str ((el a5 ((((zaa .i64 ((zaa .u64 (a8 + b2)) / 2)) + a9) - (1 : Int)) - (zaa .i64 ((zaa .u64 (b3 + b4)) / 2)))).2.1)), (Vb ((el a5 ((((zaa .i64 ((zaa .u64 (a8 + b2)) / 2)) + a9) - (1 : Int)) - (zaa .i64 ((zaa .u64 (b3 + b4)) / 2)))).2.2))] q6 krf krf krf krf (by decide)))) (by exact (e0.rdrw 0 rfl)) (rp 2 [7, 8] (aal (Zz71) 9 167 (Vp (some (ea a0 ((zaa .i64 ((zaa .u64 (b3 + b4)) / 2)).toNat * 3)))) [10, 11, 12, 13] (fun _ _ _ h => h.2.2.1) _ rfl rfl krf krf krf krf krf rfl (aba rfl (by intro w hS_; exact (aqn a0 a5.length a6 65 3 .i64 (zaa .i64 ((zaa .u64 (b3 + b4)) / 2)) underlying22 krf krf krf a5 rfl q7 hS_ aab (by decide)))) (by exact (e0.rdrw 0 rfl)) (aal [true, true, true, true, true, true, true, true, true, true, true, false, false, false] 10 168 (zan #[(str ((el a5 (zaa .i64 ((zaa .u64 (b3 + b4)) / 2))).1)), (str ((el a5 (zaa .i64 ((zaa .u64 (b3 + b4)) / 2))).2.1)), (Vb ((el a5 (zaa .i64 ((zaa .u64 (b3 + b4)) / 2))).2.2))]) [11, 12, 13] (fun _ _ _ h => h.2.1) _ rfl rfl krf krf krf krf krf rfl (aba rfl (by intro w hS_; exact (arf a0 aaa a5 3 (zaa .i64 ((zaa .u64 (b3 + b4)) / 2)) aab hS_ [(str ((el a5 (zaa .i64 ((zaa .u64 (b3 + b4)) / 2))).1)), (str ((el a5 (zaa .i64 ((zaa .u64 (b3 + b4)) / 2))).2.1)), (Vb ((el a5 (zaa .i64 ((zaa .u64 (b3 + b4)) / 2))).2.2))] q8 krf krf krf krf (by decide)))) (by exact (e0.rdrw 0 rfl)) (adn krf (bi b5 fun w0 q9 b5 => ?_))))))))
 refine wc ent137 e0 (ajt q9 (hG.hp e0 hS)) fun w1 i9 => wp 2 (nq (cn b5 (fun r0 b5 => ?_) (fun r0 b5 => ?_)))
 exact cr (wp 1 (gi b5 fun r1 b5 => aae (zaa .i64 ((zaa .u64 (b3 + b4)) / 2)) (1 : Int) krf krf r1 (wp 1 (wl (bn (ql (le' ((zaa .i64 ((zaa .u64 (b3 + b4)) / 2)) + (1 : Int), b4) i9.kp b5)))))))
 exact cr (wp 2 (wl (bn (ql (le' (b3, zaa .i64 ((zaa .u64 (b3 + b4)) / 2)) i9.kp b5)))))
 refine abq (abp (aby (abr (ql ?_))))
 obtain rfl := oi b5
 exact je i7.kp
 intro w2 G g1
 refine sr (wp 2 (gi hr fun r2 hr => adk ((zaa .i64 ((zaa .u64 (a8 + b2)) / 2)) + a9) d9 krf krf r2 (wp 1 (nq (bi hr fun r3 c7 hr => cut (σ := (List PQ)) [0, 1, 3, 4, 18, 20, 24] (fun c2 => [(0, (Vs a0 c2.length a6))]) (fun c2 w' => Hp w (abh (Zz10 a7 a0 a6 a5)) (Zz10 a7 a0 a6 c2) w' ∧ c2.length = a5.length ∧ c2 = r3) ?_ ?_)))))
 refine bi c7 fun r4 e3 c7 => age g1 [0, 1, 2, 3, 4, 18, 20, 24, 185] [(185, (Vb r4))] ?_ ?_
 refine cr (wp 3 (wd e3 (fun r5 e3 => ?_) (fun r5 e3 => ?_)))
 refine wp 4 (wl (ql ?_))
 obtain rfl := oi e3
 exact je g1.kp
 refine wp 4 (wl (ql ?_))
 obtain rfl := oi e3
 exact je g1.kp
 intro w3 G e4
 refine cb c7 (fun r6 c7 => ?_) (fun r6 c7 => ?_)
 refine cr (wp 5 (bi c7 fun j0 r7 c7 => aat 242 #[] [(Vs a0 a5.length a6), (Vi .i64 d9), (Vi .i64 a9), (Vi .i64 (((zaa .i64 ((zaa .u64 (a8 + b2)) / 2)) + a9) - d9)), (zap (.func 137) #[] #[])] _ ent242 krf krf (ajl a7 a0 a6 r7 (hG.hp e4 hS) (e4.hand (L1 := (Zz10 a7 a0 a6 a5)) (L2 := [])) (e4.highs hG hS 1 rfl)) ?_))
 rintro _ r8 ⟨rfl, w4, j1⟩
 have r9 : Hp w (abh (Zz10 a7 a0 a6 a5)) (Zz10 a7 a0 a6 j0) r8 := Hp.callK (L1 := (Zz10 a7 a0 a6 a5)) (L2 := []) e4 j1; clear j1
 refine wl (ql ?_)
 obtain rfl := oi c7
 exact ⟨j0, _, rfl, (mc (Eq.trans (b := (Vs a0 a5.length a6)) krf (aaj lsy)) (mc krf (mc krf (mc krf (mc krf (mc krf (mc krf rfl))))))), r9.kp, lsz, rfl⟩
 refine ck (ql ?_)
 obtain rfl := oi c7
 exact ⟨a5, _, rfl, by kernel_rfl, e4.kp, lsz, rfl⟩
 rintro c2 w5 G ⟨g2, w6, rfl⟩
 refine bi hr fun s0 c8 hr => cut (σ := (List PQ)) [0, 3, 4, 18, 24] (fun c9 => [(0, (Vs a0 c9.length a6))]) (fun c9 w' => Hp w (abh (Zz10 a7 a0 a6 a5)) (Zz10 a7 a0 a6 c9) w' ∧ c9.length = c2.length ∧ c9 = s0) ?_ ?_
 refine bi c8 fun s1 e5 c8 => age g2 [0, 1, 3, 4, 18, 20, 24, 199] [(199, (Vb s1))] ?_ ?_
 refine cr (wp 3 (wd e5 (fun s2 e5 => ?_) (fun s2 e5 => ?_)))
 refine wp 4 (wl (ql ?_))
 obtain rfl := oi e5
 exact je g2.kp
 refine wp 4 (wl (ql ?_))
 obtain rfl := oi e5
 exact je g2.kp
 intro w7 G e6
 refine cb c8 (fun s3 c8 => ?_) (fun s3 c8 => ?_)
 refine cr (wp 5 (bi c8 fun j2 s4 c8 => aat 220 #[] [(Vs a0 c2.length a6), (Vi .i64 a8), (Vi .i64 d9), (Vi .i64 (zaa .i64 ((zaa .u64 (a8 + b2)) / 2))), (zap (.func 137) #[] #[])] _ ent220 krf krf (ih a7 a0 a6 s4 (hG.hp e6 hS) (e6.hand (L1 := (Zz10 a7 a0 a6 c2)) (L2 := [])) (e6.highs hG hS 1 rfl)) ?_))
 rintro _ s5 ⟨rfl, w8, j3⟩
 have s6 : Hp w (abh (Zz10 a7 a0 a6 a5)) (Zz10 a7 a0 a6 j2) s5 := Hp.callK (L1 := (Zz10 a7 a0 a6 c2)) (L2 := []) e6 j3; clear j3
 refine wl (ql ?_)
 obtain rfl := oi c8
 exact ⟨j2, _, rfl, (mc (Eq.trans (b := (Vs a0 c2.length a6)) krf (aaj lsy)) (mc krf (mc krf (mc krf (mc krf rfl))))), s6.kp, lsz, rfl⟩
 refine ck (ql ?_)
 obtain rfl := oi c8
 exact ⟨c2, _, rfl, by kernel_rfl, e6.kp, lsz, rfl⟩
 rintro c9 w9 G ⟨g3, x0, rfl⟩
 refine bi hr fun s7 e7 hr => age g3 [0, 3, 4, 18, 24, 213] [(213, (Vb s7))] ?_ ?_
 refine cr (wp 3 (wd e7 (fun s8 e7 => ?_) (fun s8 e7 => ?_)))
 refine wp 4 (wl (ql ?_))
 obtain rfl := oi e7
 exact je g3.kp
 refine wp 4 (wl (ql ?_))
 obtain rfl := oi e7
 exact je g3.kp
 intro x2 G e8
 refine cb hr (fun s9 hr => ?_) (fun s9 hr => ?_)
 refine cr (wp 5 (bi hr fun t0 t1 hr => aat 220 #[] [(Vs a0 c9.length a6), (Vi .i64 (zaa .i64 ((zaa .u64 (a8 + b2)) / 2))), (Vi .i64 (((zaa .i64 ((zaa .u64 (a8 + b2)) / 2)) + a9) - d9)), (Vi .i64 b2), (zap (.func 137) #[] #[])] _ ent220 krf krf (ih a7 a0 a6 t1 (hG.hp e8 hS) (e8.hand (L1 := (Zz10 a7 a0 a6 c9)) (L2 := [])) (e8.highs hG hS 1 rfl)) ?_))
 rintro _ t2 ⟨rfl, x3, j4⟩
 have t3 : Hp w (abh (Zz10 a7 a0 a6 a5)) (Zz10 a7 a0 a6 t0) t2 := Hp.callK (L1 := (Zz10 a7 a0 a6 c9)) (L2 := []) e8 j4; clear j4
 refine wl ?_
 obtain rfl := oi hr
 refine aju  rfl  ?_
 exact ⟨(by first | rfl | (simp; done) | (simp; omega)), lsz, t3.kp⟩
 refine ck ?_
 obtain rfl := oi hr
 refine aju  rfl  ?_
 exact ⟨(by first | rfl | (simp; done) | (simp; omega)), lsz, e8.kp⟩
theorem ajk {fu : Nat} {a4 : List PQ} {b6 : Int} (a2 : Option Nat) (a0 : Option Addr) (a1 : Nat) {w : World} {r : List PQ} (hr : aee fu a4 b6 = some r) (hG : Gl w) (hM : Hp w (abh [rwt aaa 65 3 a2 a0 a1 a4]) [rwt aaa 65 3 a2 a0 a1 a4] w) (hS : ∀ b ∈ abh [rwt aaa 65 3 a2 a0 a1 a4], 9 ≤ b) : CR prog 183 [(Vs a0 a4.length a1), (Vi .i64 b6), (zap (.func 137) #[] #[])] w fun v w' => v = (zak #[]) ∧ r.length = a4.length ∧ Hp w (abh [rwt aaa 65 3 a2 a0 a1 a4]) [rwt aaa 65 3 a2 a0 a1 r] w' := by
 have hH : Hp w (abh (Zz10 a2 a0 a1 a4)) (Zz10 a2 a0 a1 a4) w := hM
 refine enter (k := 63) func183 rfl rfl nbe ?_
 unfold aee at hr
 refine sr (wp 1 (nq (sr (wp 3 (nq ?_)))))
 refine bi hr fun c6 d6 hr => cut (σ := ((List PQ) × Int)) [0, 1, 2, 6, 7] (fun a8 => [(0, (Vs a0 a8.1.length a1)), (7, (Vi .i64 a8.2))]) (fun a8 w' => Hp w (abh (Zz10 a2 a0 a1 a4)) (Zz10 a2 a0 a1 a8.1) w' ∧ a8.1.length = a4.length ∧ a8 = c6) ?_ ?_
 refine ce (lpG (σ := Nat × (List PQ) × Int × Int) [0, 1, 2, 6, 7, 8] (fun ⟨b9, a9, b7, b3⟩ => (Zz100 a0 a9.length a1 b7 b3)) (fun ⟨b9, a9, b7, b3⟩ w' => Hp w (abh (Zz10 a2 a0 a1 a4)) (Zz10 a2 a0 a1 a9) w' ∧ a9.length = a4.length ∧ acw fu b6 b9 a9 b7 b3 = some c6) (fun ⟨b9, a9, b7, b3⟩ => b9) (fu, a4, (0 : Int), (20 : Int)) (by exact ⟨hH.kp, lsz, d6⟩) ?_)
 rintro ⟨_ | b9, a9, b7, b3⟩ g2 G ⟨c1, g3, b1⟩
 · exact nzz b1
 rw [acw.eq_2] at b1
 refine cs (sr (wp 3 (nq (cd b1 (fun d7 b1 => ?_) (fun d7 b1 => ?_)))))
 refine ck (qn (ce (sr (wp 4 (bi b1 fun c7 d8 b1 => aat 219 #[] [(Vs a0 a9.length a1), (Vi .i64 b7), (Vi .i64 b3), (zap (.func 137) #[] #[])] _ ent219 krf krf (aev a2 a0 a1 d8 (hG.hp c1 hS) (c1.hand (L1 := (Zz10 a2 a0 a1 a9)) (L2 := [])) (c1.highs hG hS 1 rfl)) ?_)))))
 rintro _ d9 ⟨rfl, g4, c8⟩
 have e0 : Hp w (abh (Zz10 a2 a0 a1 a4)) (Zz10 a2 a0 a1 c7) d9 := Hp.callK (L1 := (Zz10 a2 a0 a1 a9)) (L2 := []) c1 c8; clear c8
 refine nq (sr (wp 2 (nq (cr (wp 2 (gi b1 fun e1 b1 => ?_))))))
 refine aae b3 (20 : Int) krf krf e1 (wp 1 (wl (bn (ql ?_))))
 exact ⟨(b9, c7, b3, b3 + (20 : Int)), _, rfl, (mc (Eq.trans (b := (Vs a0 a9.length a1)) krf (aaj lsy)) (mc krf (mc krf (mc krf (mc krf (mc krf rfl)))))), ⟨e0.kp, lsz, b1⟩, zad _⟩
 refine abq (abp (aby (abr (ql ?_))))
 obtain rfl := oi b1
 exact ⟨(a9, b7), _, rfl, by kernel_rfl, c1.kp, lsz, rfl⟩
 rintro a8 g5 G ⟨c4, g6, rfl⟩
 refine sr (wp 4 (bi hr fun c5 e2 hr => aat 219 #[] [(Vs a0 a8.1.length a1), (Vi .i64 a8.2), (Vi .i64 b6), (zap (.func 137) #[] #[])] _ ent219 krf krf (aev a2 a0 a1 e2 (hG.hp c4 hS) (c4.hand (L1 := (Zz10 a2 a0 a1 a8.1)) (L2 := [])) (c4.highs hG hS 1 rfl)) ?_))
 rintro _ e3 ⟨rfl, g7, c9⟩
 have e4 : Hp w (abh (Zz10 a2 a0 a1 a4)) (Zz10 a2 a0 a1 c5) e3 := Hp.callK (L1 := (Zz10 a2 a0 a1 a8.1)) (L2 := []) c4 c9; clear c9
 refine nq (ce (lpG (σ := Nat × (List PQ) × Int) [0, 1, 2, 6] (fun ⟨b8, b2, a5⟩ => [(0, (Vs a0 b2.length a1)), (6, (Vi .i64 a5))]) (fun ⟨b8, b2, a5⟩ w' => Hp w (abh (Zz10 a2 a0 a1 a4)) (Zz10 a2 a0 a1 b2) w' ∧ b2.length = c5.length ∧ abv fu b6 b8 b2 a5 = some r) (fun ⟨b8, b2, a5⟩ => b8) (fu, c5, (20 : Int)) (by exact ⟨e4.kp, lsz, hr⟩) ?_ (mc (Eq.trans (b := (Vs a0 a8.1.length a1)) krf (aaj lsy)) (mc krf (mc krf (mc krf rfl))))))
 rintro ⟨_ | b8, b2, a5⟩ g8 G ⟨d0, g9, a3⟩
 · exact nzz a3
 rw [abv.eq_2] at a3
 refine cs (sr (wp 3 (nq (cd a3 (fun e5 a3 => ?_) (fun e5 a3 => ?_)))))
 refine ck (qn (ce (sr (wp 1 (gi a3 fun e6 a3 => aou (2 : Int) a5 krf krf e6 (wp 2 (wl ?_)))))))
 refine qn (bi a3 fun d1 e7 a3 => cut (σ := ((List PQ) × Int)) [0, 1, 2, 6, 7] (fun a6 => [(0, (Vs a0 a6.1.length a1)), (7, (Vi .i64 a6.2))]) (fun a6 w' => Hp w (abh (Zz10 a2 a0 a1 a4)) (Zz10 a2 a0 a1 a6.1) w' ∧ a6.1.length = b2.length ∧ a6 = d1) ?_ ?_)
 refine ce (lpG (σ := Nat × (List PQ) × Int × Int) [0, 1, 2, 6, 7, 8] (fun ⟨c0, b0, b4, b5⟩ => (Zz100 a0 b0.length a1 b4 b5)) (fun ⟨c0, b0, b4, b5⟩ w' => Hp w (abh (Zz10 a2 a0 a1 a4)) (Zz10 a2 a0 a1 b0) w' ∧ b0.length = b2.length ∧ acv fu b6 a5 c0 b0 b4 b5 = some d1) (fun ⟨c0, b0, b4, b5⟩ => c0) (fu, b2, (0 : Int), (2 : Int) * a5) (by exact ⟨d0.kp, lsz, e7⟩) ?_)
 rintro ⟨_ | c0, b0, b4, b5⟩ h0 G ⟨c2, h1, a7⟩
 · exact nzz a7
 rw [acv.eq_2] at a7
 refine cs (sr (wp 3 (nq (cd a7 (fun e8 a7 => ?_) (fun e8 a7 => ?_)))))
 refine ck (qn (ce (sr (wp 4 (gi a7 fun e9 a7 => aae b4 a5 krf krf e9 (wp 2 (bi a7 fun d2 f0 a7 => ?_)))))))
 refine aat 220 #[] [(Vs a0 b0.length a1), (Vi .i64 b4), (Vi .i64 (b4 + a5)), (Vi .i64 b5), (zap (.func 137) #[] #[])] _ ent220 krf krf (afm a2 a0 a1 f0 (hG.hp c2 hS) (c2.hand (L1 := (Zz10 a2 a0 a1 b0)) (L2 := [])) (c2.highs hG hS 1 rfl)) ?_
 rintro _ f1 ⟨rfl, h2, d3⟩
 have f2 : Hp w (abh (Zz10 a2 a0 a1 a4)) (Zz10 a2 a0 a1 d2) f1 := Hp.callK (L1 := (Zz10 a2 a0 a1 b0)) (L2 := []) c2 d3; clear d3
 refine nq (sr (wp 2 (nq (cr (wp 2 (gi a7 fun f3 a7 => ?_))))))
 refine aou (2 : Int) a5 krf krf f3 (gi a7 fun f4 a7 => aae b5 ((2 : Int) * a5) krf krf f4 (wp 1 (wl (bn (ql ?_)))))
 exact ⟨(c0, d2, b5, b5 + ((2 : Int) * a5)), _, rfl, (mc (Eq.trans (b := (Vs a0 b0.length a1)) krf (aaj lsy)) (mc krf (mc krf (mc krf (mc krf (mc krf rfl)))))), ⟨f2.kp, lsz, a7⟩, zad _⟩
 refine abq (abp (aby (abr (ql ?_))))
 obtain rfl := oi a7
 exact ⟨(b0, b4), _, rfl, by kernel_rfl, c2.kp, lsz, rfl⟩
 rintro a6 h3 G ⟨c3, h4, rfl⟩
 refine cs (sr (wp 2 (gi a3 fun f5 a3 => aae a6.2 a5 krf krf f5 (wp 1 (nq (cs ?_))))))
 refine cr (wp 3 (nq (cd a3 (fun f6 a3 => ?_) (fun f6 a3 => ?_))))
 refine cr (wp 5 (bi a3 fun d4 f7 a3 => aat 220 #[] [(Vs a0 a6.1.length a1), (Vi .i64 a6.2), (Vi .i64 (a6.2 + a5)), (Vi .i64 b6), (zap (.func 137) #[] #[])] _ ent220 krf krf (afm a2 a0 a1 f7 (hG.hp c3 hS) (c3.hand (L1 := (Zz10 a2 a0 a1 a6.1)) (L2 := [])) (c3.highs hG hS 1 rfl)) ?_))
 rintro _ f8 ⟨rfl, h5, d5⟩
 have f9 : Hp w (abh (Zz10 a2 a0 a1 a4)) (Zz10 a2 a0 a1 d4) f8 := Hp.callK (L1 := (Zz10 a2 a0 a1 a6.1)) (L2 := []) c3 d5; clear d5
 refine nq (cr (wp 1 (gi a3 fun g0 a3 => aou a5 (2 : Int) krf krf g0 (wp 1 (wl (bn (ql ?_)))))))
 exact ⟨(b8, d4, a5 * (2 : Int)), _, rfl, (mc (Eq.trans (b := (Vs a0 a6.1.length a1)) krf (aaj lsy)) (mc krf (mc krf (mc krf rfl)))), ⟨f9.kp, lsz, a3⟩, zad _⟩
 refine ck (qn (cr (wp 1 (gi a3 fun g1 a3 => aou a5 (2 : Int) krf krf g1 (wp 1 (wl (bn (ql ?_))))))))
 exact ⟨(b8, a6.1, a5 * (2 : Int)), _, rfl, by kernel_rfl, ⟨c3.kp, lsz, a3⟩, zad _⟩
 refine abq (abp (aby (abr ?_)))
 obtain rfl := oi a3
 refine aju  rfl  ?_
 exact ⟨(by first | rfl | (simp; done) | (simp; omega)), lsz, d0.kp⟩
theorem ajg {fu : Nat} {a0 : List PQ} (a3 : Option Nat) (a1 : Option Addr) (a2 : Nat) {w : World} {r : List PQ} (hr : aea fu a0 = some r) (hG : Gl w) (hM : Hp w (abh [rwt aaa 65 3 a3 a1 a2 a0]) [rwt aaa 65 3 a3 a1 a2 a0] w) (hS : ∀ b ∈ abh [rwt aaa 65 3 a3 a1 a2 a0], 9 ≤ b) : CR prog 136 [(Vs a1 a0.length a2), (zap (.func 137) #[] #[])] w fun v w' => v = (zak #[]) ∧ r.length = a0.length ∧ Hp w (abh [rwt aaa 65 3 a3 a1 a2 a0]) [rwt aaa 65 3 a3 a1 a2 r] w' := by
 have hH : Hp w (abh (Zz10 a3 a1 a2 a0)) (Zz10 a3 a1 a2 a0) w := hM
 refine enter (k := 9) func136 rfl rfl nbe ?_
 unfold aea at hr
 refine cr (wp 4 (bi hr fun y1 a5 hr => aat 183 #[] [(Vs a1 a0.length a2), (Vi .i64 (a0.length : Int)), (zap (.func 137) #[] #[])] _ ent183 krf krf (ajk a3 a1 a2 a5 (hG.hp hH hS) (hH.hand (L1 := (Zz10 a3 a1 a2 a0)) (L2 := [])) (hH.highs hG hS 1 rfl)) ?_))
 rintro _ w3 ⟨rfl, a7, a4⟩
 have a6 : Hp w (abh (Zz10 a3 a1 a2 a0)) (Zz10 a3 a1 a2 y1) w3 := Hp.callK (L1 := (Zz10 a3 a1 a2 a0)) (L2 := []) hH a4; clear a4
 refine wl ?_
 obtain rfl := oi hr
 refine aju  rfl  ?_
 exact ⟨(by first | rfl | (simp; done) | (simp; omega)), lsz, a6.kp⟩
open List renaming flatMap → zai, length_take → zah
open Nat renaming lt_of_lt_of_le → zaj, lt_succ_self → zad
theorem ent68 : Wk.Enters prog 68 := ⟨f68, _, func68, rfl, krf⟩
theorem ent70 : Wk.Enters prog 70 := ⟨f70, _, func70, rfl, krf⟩
theorem ent91 : Wk.Enters prog 91 := ⟨f91, _, func91, rfl, krf⟩
theorem ent135 : Wk.Enters prog 135 := ⟨f135, _, func135, rfl, krf⟩
theorem ent136 : Wk.Enters prog 136 := ⟨f136, _, func136, rfl, krf⟩
theorem ent157 : Wk.Enters prog 157 := ⟨f157, _, func157, rfl, krf⟩
theorem ent173 : Wk.Enters prog 173 := ⟨f173, _, func173, rfl, krf⟩
theorem ent194 : Wk.Enters prog 194 := ⟨f194, _, func194, rfl, krf⟩
theorem ent207 : Wk.Enters prog 207 := ⟨f207, _, func207, rfl, krf⟩
theorem ent209 : Wk.Enters prog 209 := ⟨f209, _, func209, rfl, krf⟩
theorem alj {fu : Nat} {a1 : List PQ} (a2 : Option Addr) (a5 : Nat) (a3 : Nat) {w : World} {r : List PQ} (hr : aiw fu a1 = some r) (hG : Gl w) (a9 : a5 = a1.length) (b0 : Rd w a2 (zai aaa a1)) (b4 : a5 ≤ a3) : CR prog 70 [(Vs a2 a5 a3)] w fun v w' => ∃ (o0 : Option Nat), ∃ (a0 : Option Addr), ∃ (cap0 : Nat), v = (Vs a0 r.length cap0) ∧ Hp w [] [rwt aaa 65 3 o0 a0 cap0 r] w' := by
 subst a9
 have hH := Hp.refl w
 refine enter (k := 8) func70 rfl rfl nbe ?_
 unfold aiw at hr
 refine sr (wp 1 (nq (sr (wp 1 (gi hr fun g4 hr => aat 68 #[] [(Vs a2 a1.length a3)] _ ent68 krf krf (sh_Clone68 a1 w a2 a1.length a3 rfl (b0.hp hH) g4) ?_)))))
 rintro _ w1 ⟨o5, a6, cap7, rfl, a7⟩
 have a4 : Hp w [] (Zz10 o5 a6 cap7 a1) w1 := Hp.callK (L1 := []) (L2 := []) hH a7; clear a7
 refine wp 1 (nq (sr (wp 1 (bi hr fun y8 b1 hr => aat 136 #[] [(Vs a6 a1.length cap7), (zap (.func 137) #[] #[])] _ ent136 krf krf (ajg o5 a6 cap7 b1 (hG.hp0 a4) (a4.hand (L1 := (Zz10 o5 a6 cap7 a1)) (L2 := [])) (a4.highs hG (fun _ h => absurd h (by simp)) 1 rfl)) ?_))))
 rintro _ b2 ⟨rfl, b5, a8⟩
 have b3 : Hp w [] (Zz10 o5 a6 cap7 y8) b2 := Hp.callK (L1 := (Zz10 o5 a6 cap7 a1)) (L2 := []) a4 a8; clear a8
 refine nq (sr (wp 2 (nq (ct ?_))))
 obtain rfl := oi hr
 refine r_one (Vs a6 a1.length cap7) rfl krf ?_
 exact ⟨o5, a6, cap7, (by first | rfl | (simp; done) | (simp; omega)), b3.kp⟩
theorem K_L_address_Parse {fu : Nat} {s_0 : Str} {w : World} {r : ((Str × Str × Str × Int × (List PQ) × (List PQ)) × Int × UInt8)} (hr : apy fu s_0 = some r) (hG : Gl w) : CR prog 173 [(str s_0)] w fun v w' => ∃ (o0 : Option Nat), ∃ (a0 : Option Addr), ∃ (cap0 : Nat), ∃ (o1 : Option Nat), ∃ (a1 : Option Addr), ∃ (cap1 : Nat), v = (zak #[(zan #[(str r.1.1), (str r.1.2.1), (str r.1.2.2.1), (Vi .i64 r.1.2.2.2.1), (Vs a0 r.1.2.2.2.2.1.length cap0), (Vs a1 r.1.2.2.2.2.2.length cap1)]), (Vi .i64 r.2.1), (bt r.2.2)]) ∧ Hp w [] [rwt aaa 65 3 o0 a0 cap0 r.1.2.2.2.2.1, rwt aaa 65 3 o1 a1 cap1 r.1.2.2.2.2.2] w' := by
 have hH := Hp.refl w
 refine enter (k := 128) func173 rfl rfl nbe ?_
 unfold apy at hr
 refine sr (adr hH (Zz3) 36 (fun b => (Vp (some ⟨b, 0, none⟩))) rfl rfl krf fun b1 w2 h0 => wp 2 (nq (cs (sr (wp 3 ?_)))))
 refine nq (cd hr (fun h4 hr => ?_) (fun h4 hr => ?_))
 exact nzz hr
 refine ck (qn (sr (wp 1 (aat 144 #[] [(str s_0), (bt (58 : UInt8))] _ ent144 krf krf (amx s_0 (58 : UInt8) w2) ?_))))
 rintro _ w5 ⟨rfl, f3⟩
 have h1 := h0.call f3; clear f3
 refine wp 1 (nq (cs (sr (wp 2 (nq (cd hr (fun h8 hr => ?_) (fun h8 hr => ?_)))))))
 exact nzz hr
 refine ck (qn (sr (wp 3 (gi hr fun g9 hr => aae (ixb (· == (58 : UInt8)) s_0) (1 : Int) krf krf g9 (wp 1 (adr h1 (Zz38 s_0) 99 (fun b => (Vp (some ⟨b, 0, none⟩))) rfl rfl krf fun a7 m0 f4 => wp 1 ?_))))))
 refine nq (sr (wp 2 (gi hr fun h2 hr => amw s_0 .i64 (ixb (· == (58 : UInt8)) s_0) underlying9 krf krf h2 (bi hr fun c7 h3 hr => wc ent67 f4 (adu h3 (hG.hp0 f4)) fun m1 h5 => wp 1 ?_))))
 refine adr h5 (Zz3) 36 (fun b => (Vp (some ⟨b, 0, none⟩))) rfl rfl krf fun a5 m2 h6 => ahq h6 0 a5 0 (Zz3) (Zz22 c7) 36 [blk a5 (Zz22 c7) 36, blk a7 (Zz38 s_0) 99, blk b1 (Zz3) 36] rfl nbe krf krf rfl krf rfl fun d6 f5 => nq (sr (wp 2 (nq (cs ?_))))
 refine cr (wp 1 (nq (cs (sr (wp 1 (abs f5 0 a5 0 (Zz22 c7) 36 (str c7) rfl rfl krf krf (wl ?_)))))))
 refine qn (ce (cs (sr (wp 2 (nq (cd hr (fun h7 hr => ?_) (fun h7 hr => ?_)))))))
 refine ck (qn (cd hr (fun h9 hr => ?_) (fun h9 hr => ?_)))
 refine cr (wp 1 ?_)
 have e6 := f5.nilrw aaa 65 3 none
 replace e6 : Hp w [] [rwt aaa 65 3 none none 0 ([] : List PQ), blk a5 (Zz22 c7) 36, blk a7 (Zz38 s_0) 99, blk b1 (Zz3) 36] d6 := e6
 have e7 := e6.nilrw aaa 65 3 none
 replace e7 : Hp w [] [rwt aaa 65 3 none none 0 ([] : List PQ), rwt aaa 65 3 none none 0 ([] : List PQ), blk a5 (Zz22 c7) 36, blk a7 (Zz38 s_0) 99, blk b1 (Zz3) 36] d6 := e7
 refine bi hr fun a2 i0 hr => ?_
 have i1 : Hp w [] [rwt aaa 65 3 none none 0 ([] : List PQ), rwt aaa 65 3 none none 0 ([] : List PQ), blk a5 (Zz22 c7) 36, blk a7 (Zz38 s_0) 99, blk b1 (Zz3) 36] d6 := e7.front 1 _ rfl
 have i2 : Hp w [] [blk a5 (Zz22 c7) 36, rwt aaa 65 3 none none 0 ([] : List PQ), rwt aaa 65 3 none none 0 ([] : List PQ), blk a7 (Zz38 s_0) 99, blk b1 (Zz3) 36] d6 := i1.front 2 _ rfl
 have e4 : Hp w [] [blk a7 (Zz38 s_0) 99, blk a5 (Zz22 c7) 36, rwt aaa 65 3 none none 0 ([] : List PQ), rwt aaa 65 3 none none 0 ([] : List PQ), blk b1 (Zz3) 36] d6 := i2.front 3 _ rfl
 refine aat 207 #[] (Zz98 a7 a5) _ ent207 krf krf (arb a7 a5 none none 0 none none 0 i0 (hG.hp0 e4) (e4.hand (L1 := [blk a7 (Zz38 s_0) 99, blk a5 (Zz22 c7) 36, rwt aaa 65 3 none none 0 ([] : List PQ), rwt aaa 65 3 none none 0 ([] : List PQ)]) (L2 := [blk b1 (Zz3) 36])) (e4.highs hG (fun _ h => absurd h (by simp)) 4 rfl)) ?_
 rintro _ i3 ⟨f6, e8, e9, b4, a3, a4, rfl, f7⟩
 have i4 : Hp w [] [blk a7 (Zz8 a2.2.2.1.1 a2.2.2.1.2) 99, blk a5 (Zz2 a2.2.2.2.1 a2.2.2.2.2.1 a2.2.2.2.2.2.1 a2.2.2.2.2.2.2.1 e8 a2.2.2.2.2.2.2.2.1.length e9 a3 a2.2.2.2.2.2.2.2.2.length a4) 36, rwt aaa 65 3 f6 e8 e9 a2.2.2.2.2.2.2.2.1, rwt aaa 65 3 b4 a3 a4 a2.2.2.2.2.2.2.2.2, blk b1 (Zz3) 36] i3 := Hp.callK (L1 := [blk a7 (Zz38 s_0) 99, blk a5 (Zz22 c7) 36, rwt aaa 65 3 none none 0 ([] : List PQ), rwt aaa 65 3 none none 0 ([] : List PQ)]) (L2 := [blk b1 (Zz3) 36]) e4 f7; clear f7
 refine wp 5 (wl (bn (qn (bi hr fun f8 i5 hr => cut (σ := (Int × UInt8 × Str × Int × (List PQ)) × (Option Nat) × (Option Addr) × Nat) [2, 3, 4, 6, 7, 8, 9] (fun ⟨a6, c3, a8, a9⟩ => [(8, (Vi .i64 a6.1)), (9, (bt a6.2.1))]) (fun ⟨a6, c3, a8, a9⟩ w' => Hp w [] [blk a7 (Zz8 a6.2.2.1 a6.2.2.2.1) 99, blk a5 (Zz2 a2.2.2.2.1 a2.2.2.2.2.1 a2.2.2.2.2.2.1 a2.2.2.2.2.2.2.1 a8 a6.2.2.2.2.length a9 a3 a2.2.2.2.2.2.2.2.2.length a4) 36, rwt aaa 65 3 b4 a3 a4 a2.2.2.2.2.2.2.2.2, blk b1 (Zz3) 36, rwt aaa 65 3 c3 a8 a9 a6.2.2.2.2] w' ∧ a6 = f8) ?_ ?_))))
 refine ce (lpG (σ := Nat × Int × UInt8 × Str × Int × (List PQ) × (Option Nat) × (Option Addr) × Nat) [2, 3, 4, 6, 7, 8, 9, 10] (fun ⟨d3, d4, c9, b6, b5, b0, c4, b2, b3⟩ => [(8, (Vi .i64 d4)), (9, (bt c9))]) (fun ⟨d3, d4, c9, b6, b5, b0, c4, b2, b3⟩ w' => Hp w [] [blk a7 (Zz8 b6 b5) 99, blk a5 (Zz2 a2.2.2.2.1 a2.2.2.2.2.1 a2.2.2.2.2.2.1 a2.2.2.2.2.2.2.1 b2 b0.length b3 a3 a2.2.2.2.2.2.2.2.2.length a4) 36, rwt aaa 65 3 b4 a3 a4 a2.2.2.2.2.2.2.2.2, blk b1 (Zz3) 36, rwt aaa 65 3 c4 b2 b3 b0] w' ∧ ako fu d3 d4 c9 b6 b5 b0 = some f8) (fun ⟨d3, d4, c9, b6, b5, b0, c4, b2, b3⟩ => d3) (fu, a2.1, a2.2.1, a2.2.2.1.1, a2.2.2.1.2, a2.2.2.2.2.2.2.2.1, f6, e8, e9) (by exact ⟨(Hp.front (Hp.front (Hp.front (Hp.front (Hp.front i4 2 _ rfl) 4 _ rfl) 4 _ rfl) 4 _ rfl) 4 _ rfl).kp, i5⟩) ?_)
 rintro ⟨_ | d3, d4, c9, b6, b5, b0, c4, b2, b3⟩ m3 G ⟨d7, c0⟩
 · exact nzz c0
 rw [ako.eq_2] at c0
 refine cs (bi c0 fun i6 d0 c0 => age d7 [2, 3, 4, 6, 7, 8, 9, 10, 55] [(55, (Vb i6))] ?_ ?_)
 refine cr (wp 1 (acx c9 (0 : UInt8) krf krf (wd d0 (fun i7 d0 => ?_) (fun i7 d0 => ?_))))
 refine wp 1 (gy 52 (bi d0 fun m4 i9 d0 => aat 90 #[] [(Vp (some ⟨a7, 0, none⟩)), (bt (59 : UInt8))] _ ent90 krf krf (act a7 i9 (hG.hp0 d7) (d7.hand (L1 := [blk a7 (Zz8 b6 b5) 99]) (L2 := [blk a5 (Zz2 a2.2.2.2.1 a2.2.2.2.2.1 a2.2.2.2.2.2.1 a2.2.2.2.2.2.2.1 b2 b0.length b3 a3 a2.2.2.2.2.2.2.2.2.length a4) 36, rwt aaa 65 3 b4 a3 a4 a2.2.2.2.2.2.2.2.2, blk b1 (Zz3) 36, rwt aaa 65 3 c4 b2 b3 b0])) (d7.highs hG (fun _ h => absurd h (by simp)) 1 rfl)) ?_))
 rintro _ j0 ⟨rfl, f9⟩
 have j1 : Hp w [] [blk a7 (Zz8 b6 b5) 99, blk a5 (Zz2 a2.2.2.2.1 a2.2.2.2.2.1 a2.2.2.2.2.2.1 a2.2.2.2.2.2.2.1 b2 b0.length b3 a3 a2.2.2.2.2.2.2.2.2.length a4) 36, rwt aaa 65 3 b4 a3 a4 a2.2.2.2.2.2.2.2.2, blk b1 (Zz3) 36, rwt aaa 65 3 c4 b2 b3 b0] j0 := Hp.callK (L1 := [blk a7 (Zz8 b6 b5) 99]) (L2 := [blk a5 (Zz2 a2.2.2.2.1 a2.2.2.2.2.1 a2.2.2.2.2.2.1 a2.2.2.2.2.2.2.1 b2 b0.length b3 a3 a2.2.2.2.2.2.2.2.2.length a4) 36, rwt aaa 65 3 b4 a3 a4 a2.2.2.2.2.2.2.2.2, blk b1 (Zz3) 36, rwt aaa 65 3 c4 b2 b3 b0]) d7 f9; clear f9
 refine wp 1 (wl (ql ?_))
 obtain rfl := oi d0
 exact je (Hp.front (Hp.front (Hp.front (Hp.front (Hp.front j1 4 _ rfl) 4 _ rfl) 4 _ rfl) 4 _ rfl) 4 _ rfl).kp
 exact nzz d0
 intro m5 G f0
 refine cb c0 (fun j2 c0 => ?_) (fun j2 c0 => ?_)
 refine ck (qn (ce (sr (wp 3 (abs f0 0 a7 1 (Zz8 b6 b5) 99 (Vi .i64 b5) rfl rfl krf krf (gi c0 fun j3 c0 => aae b5 (1 : Int) krf krf j3 (wp 2 ?_)))))))
 refine aib f0 0 a7 1 (Zz8 b6 b5) 99 (Vi .i64 (b5 + (1 : Int))) [blk a7 (Zz44 b6 b5) 99, blk a5 (Zz2 a2.2.2.2.1 a2.2.2.2.2.1 a2.2.2.2.2.2.1 a2.2.2.2.2.2.2.1 b2 b0.length b3 a3 a2.2.2.2.2.2.2.2.2.length a4) 36, rwt aaa 65 3 b4 a3 a4 a2.2.2.2.2.2.2.2.2, blk b1 (Zz3) 36, rwt aaa 65 3 c4 b2 b3 b0] rfl (zaj (zad _) nbe) krf krf rfl krf rfl fun m6 j4 => nq (bi c0 fun j5 j6 c0 => bi c0 fun c6 j7 c0 => aeh 21 (fun j_ w_ w_' => aay [13, 14, 15, 16, 17, 18, 19, 20, 21] (fun w' => w'.heap[a5]? = some (.cells (Zz2 a2.2.2.2.1 a2.2.2.2.2.1 a2.2.2.2.2.2.1 a2.2.2.2.2.2.2.1 b2 b0.length b3 a3 a2.2.2.2.2.2.2.2.2.length a4).toArray 36 (0, 0))) j_ w_ w_' ∧ aay [12, 13, 14, 15, 16, 17, 18, 19, 20, 21] (fun w' => w'.heap[a7]? = some (.cells (Zz44 b6 b5).toArray 99 (0, 0))) j_ w_ w_' ∧ True) [false, false, false, false, false, false, false, false, false, false, false, false, false, false, false, false, false, false, false, false, false, false] (fun _ _ => ⟨aay.same, aay.same, trivial⟩) krf krf j4 rfl (aak (aam (aak (aam adb)))) fun m7 d8 => rp 19 [0, 1] (aal [true, true, true, false, false, false, false, false, false, false, false, false, false, false, false, false, false, false, false, false, false, false] 2 66 (Vs b2 b0.length b3) [13, 14, 15, 16, 17, 18, 19, 20, 21] (fun _ _ _ h => h.1) _ rfl rfl krf krf krf krf krf rfl (aba rfl (by intro w hS_; exact (aga a5 4 (Zz2 a2.2.2.2.1 a2.2.2.2.2.1 a2.2.2.2.2.2.1 a2.2.2.2.2.2.2.1 b2 b0.length b3 a3 a2.2.2.2.2.2.2.2.2.length a4) 36 (Vs b2 b0.length b3) hS_ rfl krf krf))) (by exact d8.blkAt 1 rfl) (rp 15 [3, 4, 5] (aal [true, true, true, true, true, true, true, false, false, false, false, false, false, false, false, false, false, false, false, false, false, false] 6 70 (zan #[(str b6)]) [12, 13, 14, 15, 16, 17, 18, 19, 20, 21] (fun _ _ _ h => h.2.1) _ rfl rfl krf krf krf krf krf rfl (aba rfl (by intro w hS_; exact (x_ldN a7 0 1 (Zz44 b6 b5) [(str b6)] 99 hS_ rfl rfl krf krf krf))) (by exact d8.blkAt 0 rfl) ?_))))
 refine rp 11 [7, 8, 9] (aal [true, true, true, true, true, true, true, true, true, true, true, false, false, false, false, false, false, false, false, false, false, false] 10 74 (Vi .i64 (b5 + (1 : Int))) [12, 13, 14, 15, 16, 17, 18, 19, 20, 21] (fun _ _ _ h => h.2.1) _ rfl rfl krf krf krf krf krf rfl (aba rfl (by intro w hS_; exact (aga a7 1 (Zz44 b6 b5) 99 (Vi .i64 (b5 + (1 : Int))) hS_ rfl krf krf))) (by exact d8.blkAt 0 rfl) (rp 9 [11] (ro 12 rfl (wc ent158 d8 (ais j6 (hG.hp0 d8)) fun g0 g1 => wl (abu (by exact ⟨aay.new (g1.blkAt 1 rfl), aay.out rfl, trivial⟩) (ro 13 rfl ?_))))))
 have j8 : Hp w [] [rwt aaa 65 3 c4 b2 b3 b0, blk a7 (Zz44 b6 b5) 99, blk a5 (Zz2 a2.2.2.2.1 a2.2.2.2.2.1 a2.2.2.2.2.2.1 a2.2.2.2.2.2.2.1 b2 b0.length b3 a3 a2.2.2.2.2.2.2.2.2.length a4) 36, rwt aaa 65 3 b4 a3 a4 a2.2.2.2.2.2.2.2.2, blk b1 (Zz3) 36] g0 := g1.front 4 _ rfl
 have e5 : Hp w [] [blk a7 (Zz44 b6 b5) 99, rwt aaa 65 3 c4 b2 b3 b0, blk a5 (Zz2 a2.2.2.2.1 a2.2.2.2.2.1 a2.2.2.2.2.2.1 a2.2.2.2.2.2.2.1 b2 b0.length b3 a3 a2.2.2.2.2.2.2.2.2.length a4) 36, rwt aaa 65 3 b4 a3 a4 a2.2.2.2.2.2.2.2.2, blk b1 (Zz3) 36] g0 := j8.front 1 _ rfl
 refine aat 209 #[] [(Vp (some ⟨a7, 0, none⟩)), (Vs b2 b0.length b3), (Vi .i64 j5), (Vi .i64 (1 : Int))] _ ent209 krf krf (arc a7 c4 b2 b3 j7 (hG.hp0 e5) (e5.hand (L1 := [blk a7 (Zz44 b6 b5) 99, rwt aaa 65 3 c4 b2 b3 b0]) (L2 := [blk a5 (Zz2 a2.2.2.2.1 a2.2.2.2.2.1 a2.2.2.2.2.2.1 a2.2.2.2.2.2.2.1 b2 b0.length b3 a3 a2.2.2.2.2.2.2.2.2.length a4) 36, rwt aaa 65 3 b4 a3 a4 a2.2.2.2.2.2.2.2.2, blk b1 (Zz3) 36])) (e5.highs hG (fun _ h => absurd h (by simp)) 2 rfl)) ?_
 rintro _ j9 ⟨f1, d9, e0, rfl, g2⟩
 have k0 : Hp w [] [blk a7 (Zz8 c6.2.2.2.1 c6.2.2.2.2) 99, rwt aaa 65 3 f1 d9 e0 c6.1, blk a5 (Zz2 a2.2.2.2.1 a2.2.2.2.2.1 a2.2.2.2.2.2.1 a2.2.2.2.2.2.2.1 b2 b0.length b3 a3 a2.2.2.2.2.2.2.2.2.length a4) 36, rwt aaa 65 3 b4 a3 a4 a2.2.2.2.2.2.2.2.2, blk b1 (Zz3) 36] j9 := Hp.callK (L1 := [blk a7 (Zz44 b6 b5) 99, rwt aaa 65 3 c4 b2 b3 b0]) (L2 := [blk a5 (Zz2 a2.2.2.2.1 a2.2.2.2.2.1 a2.2.2.2.2.2.1 a2.2.2.2.2.2.2.1 b2 b0.length b3 a3 a2.2.2.2.2.2.2.2.2.length a4) 36, rwt aaa 65 3 b4 a3 a4 a2.2.2.2.2.2.2.2.2, blk b1 (Zz3) 36]) e5 g2; clear g2
 refine wl (abu (by exact ⟨aay.out rfl, aay.out rfl, trivial⟩) (rp 2 [14, 15, 16, 17, 18] (ro 19 rfl (aib k0 2 a5 4 (Zz2 a2.2.2.2.1 a2.2.2.2.2.1 a2.2.2.2.2.2.1 a2.2.2.2.2.2.2.1 b2 b0.length b3 a3 a2.2.2.2.2.2.2.2.2.length a4) 36 (Vs d9 c6.1.length e0) [blk a7 (Zz8 c6.2.2.2.1 c6.2.2.2.2) 99, rwt aaa 65 3 f1 d9 e0 c6.1, blk a5 (Zz2 a2.2.2.2.1 a2.2.2.2.2.1 a2.2.2.2.2.2.1 a2.2.2.2.2.2.2.1 d9 c6.1.length e0 a3 a2.2.2.2.2.2.2.2.2.length a4) 36, rwt aaa 65 3 b4 a3 a4 a2.2.2.2.2.2.2.2.2, blk b1 (Zz3) 36] rfl (zaj (zad _) nbe) krf krf rfl krf rfl fun m8 k1 => wl (abu (by exact ⟨aay.out rfl, aay.out rfl, trivial⟩) (rp 0 [20] (adn krf (wp 1 ?_))))))))
 refine wl (bn (ql ?_))
 exact ⟨(d3, c6.2.1, c6.2.2.1, c6.2.2.2.1, c6.2.2.2.2, c6.1, f1, d9, e0), _, rfl, by kernel_rfl, ⟨(Hp.front (Hp.front (Hp.front (Hp.front (Hp.front k1 1 _ rfl) 4 _ rfl) 4 _ rfl) 4 _ rfl) 4 _ rfl).kp, c0⟩, zad _⟩
 refine abq (abp (aby (abr (ql ?_))))
 obtain rfl := oi c0
 exact ⟨((d4, c9, b6, b5, b0), c4, b2, b3), _, rfl, by kernel_rfl, (Hp.front (Hp.front (Hp.front (Hp.front (Hp.front f0 4 _ rfl) 4 _ rfl) 4 _ rfl) 4 _ rfl) 4 _ rfl).kp, rfl⟩
 rintro ⟨a6, c3, a8, a9⟩ m9 G ⟨k2, rfl⟩
 refine bi hr fun k3 k4 hr => cut (σ := Unit) [2, 3, 4, 7, 8, 9] (fun f2 => []) (fun f2 w' => Hp w [] [blk a5 (Zz2 a2.2.2.2.1 a2.2.2.2.2.1 a2.2.2.2.2.2.1 a2.2.2.2.2.2.2.1 a8 a6.2.2.2.2.length a9 a3 a2.2.2.2.2.2.2.2.2.length a4) 36, rwt aaa 65 3 b4 a3 a4 a2.2.2.2.2.2.2.2.2, blk b1 (Zz3) 36, rwt aaa 65 3 c3 a8 a9 a6.2.2.2.2] w' ∧ f2 = k3) ?_ ?_
 refine ce (lpS (fun g3 (_ : Unit) => amv fu a6 g3) () k2 k4 [2, 3, 4, 6, 7, 8, 9] (fun (_ : Unit) => []) (fun _ => rfl) ?_)
 rintro g3 _ n0 G e1 c8
 rw [amv.eq_2] at c8
 refine cs (bi c8 fun k5 d1 c8 => age e1 [2, 3, 4, 6, 7, 8, 9, 88] [(88, (Vb k5))] ?_ ?_)
 refine cr (wp 1 (acx a6.2.1 (0 : UInt8) krf krf (wd d1 (fun k6 d1 => ?_) (fun k6 d1 => ?_))))
 refine wp 1 (gy 84 (bi d1 fun n1 k7 d1 => aat 89 #[] (Zz45 a7) _ ent89 krf krf (agn a7 k7 (hG.hp0 e1) (e1.hand (L1 := (Zz40 a7 a6.2.2.1 a6.2.2.2.1)) (L2 := [blk a5 (Zz2 a2.2.2.2.1 a2.2.2.2.2.1 a2.2.2.2.2.2.1 a2.2.2.2.2.2.2.1 a8 a6.2.2.2.2.length a9 a3 a2.2.2.2.2.2.2.2.2.length a4) 36, rwt aaa 65 3 b4 a3 a4 a2.2.2.2.2.2.2.2.2, blk b1 (Zz3) 36, rwt aaa 65 3 c3 a8 a9 a6.2.2.2.2])) (e1.highs hG (fun _ h => absurd h (by simp)) 1 rfl)) ?_))
 rintro _ k8 ⟨rfl, g4⟩
 have k9 : Hp w [] [blk a7 (Zz8 a6.2.2.1 a6.2.2.2.1) 99, blk a5 (Zz2 a2.2.2.2.1 a2.2.2.2.2.1 a2.2.2.2.2.2.1 a2.2.2.2.2.2.2.1 a8 a6.2.2.2.2.length a9 a3 a2.2.2.2.2.2.2.2.2.length a4) 36, rwt aaa 65 3 b4 a3 a4 a2.2.2.2.2.2.2.2.2, blk b1 (Zz3) 36, rwt aaa 65 3 c3 a8 a9 a6.2.2.2.2] k8 := Hp.callK (L1 := (Zz40 a7 a6.2.2.1 a6.2.2.2.1)) (L2 := [blk a5 (Zz2 a2.2.2.2.1 a2.2.2.2.2.1 a2.2.2.2.2.2.1 a2.2.2.2.2.2.2.1 a8 a6.2.2.2.2.length a9 a3 a2.2.2.2.2.2.2.2.2.length a4) 36, rwt aaa 65 3 b4 a3 a4 a2.2.2.2.2.2.2.2.2, blk b1 (Zz3) 36, rwt aaa 65 3 c3 a8 a9 a6.2.2.2.2]) e1 g4; clear g4
 refine wp 2 (wl (ql ?_))
 obtain rfl := oi d1
 exact je (Hp.front (Hp.front (Hp.front (Hp.front (Hp.front k9 4 _ rfl) 4 _ rfl) 4 _ rfl) 4 _ rfl) 4 _ rfl).kp
 exact nzz d1
 intro n2 G l0
 refine cb c8 (fun l1 c8 => ?_) (fun l1 c8 => ?_)
 exact nzz c8
 refine abq (abp (aby (abr (ql ?_))))
 obtain rfl := oi c8
 exact ⟨(), _, rfl, by kernel_rfl, (Hp.front (Hp.front (Hp.front (Hp.front l0 4 _ rfl) 4 _ rfl) 4 _ rfl) 4 _ rfl).kp, rfl⟩
 rintro f2 n3 G ⟨l2, rfl⟩
 refine cs (sr (wp 1 (afp a6.2.1 (0 : UInt8) krf krf (nq (cn hr (fun l3 hr => ?_) (fun l3 hr => ?_))))))
 exact nzz hr
 refine ck (qn (cs (bi hr fun b9 l4 hr => aeh 5 (fun j_ w_ w_' => aay [2, 5, 6, 7, 8, 9] (fun w' => w'.heap[a5]? = some (.cells (Zz2 a2.2.2.2.1 a2.2.2.2.2.1 a2.2.2.2.2.2.1 a2.2.2.2.2.2.2.1 a8 a6.2.2.2.2.length a9 a3 a2.2.2.2.2.2.2.2.2.length a4).toArray 36 (0, 0))) j_ w_ w_' ∧ aay [5, 6, 7, 8, 9] (fun w' => w'.heap[a5]? = some (.cells (Zz2 a2.2.2.2.1 a2.2.2.2.2.1 a2.2.2.2.2.2.1 a2.2.2.2.2.2.2.1 a8 a6.2.2.2.2.length a9 a3 a2.2.2.2.2.2.2.2.2.length a4).toArray 36 (0, 0))) j_ w_ w_' ∧ True) (Zz77) (fun _ _ => ⟨aay.same, aay.same, trivial⟩) krf krf l2 rfl (ade adb) fun n4 d5 => rp 4 [0] (aal [true, true, false, false, false, false, false, false, false, false] 1 120 (Vs a8 a6.2.2.2.2.length a9) [2, 5, 6, 7, 8, 9] (fun _ _ _ h => h.1) _ rfl rfl krf krf krf krf krf rfl (aba rfl (by intro w hS_; exact (aga a5 4 (Zz2 a2.2.2.2.1 a2.2.2.2.2.1 a2.2.2.2.2.2.1 a2.2.2.2.2.2.2.1 a8 a6.2.2.2.2.length a9 a3 a2.2.2.2.2.2.2.2.2.length a4) 36 (Vs a8 a6.2.2.2.2.length a9) hS_ rfl krf krf))) (by exact d5.blkAt 0 rfl) (rp 2 [3] (aal [true, true, false, true, true, false, false, false, false, false] 4 123 (Vs a3 a2.2.2.2.2.2.2.2.2.length a4) [5, 6, 7, 8, 9] (fun _ _ _ h => h.2.1) _ rfl rfl krf krf krf krf krf rfl (aba rfl (by intro w hS_; exact (aga a5 5 (Zz2 a2.2.2.2.1 a2.2.2.2.2.1 a2.2.2.2.2.2.1 a2.2.2.2.2.2.2.1 a8 a6.2.2.2.2.length a9 a3 a2.2.2.2.2.2.2.2.2.length a4) 36 (Vs a3 a2.2.2.2.2.2.2.2.2.length a4) hS_ rfl krf krf))) (by exact d5.blkAt 0 rfl) (ro 2 rfl ?_)))))))
 refine aat 70 #[] [(Vs a8 a6.2.2.2.2.length a9)] _ ent70 krf krf (alj a8 a6.2.2.2.2.length a9 l4 (hG.hp0 d5) rfl (d5.rdrw 3 rfl) (d5.rwcap 3 rfl)) ?_
 rintro _ l5 ⟨d2, b7, b8, rfl, g5⟩
 have e2 : Hp w [] [rwt aaa 65 3 d2 b7 b8 b9, blk a5 (Zz2 a2.2.2.2.1 a2.2.2.2.2.1 a2.2.2.2.2.2.1 a2.2.2.2.2.2.2.1 a8 a6.2.2.2.2.length a9 a3 a2.2.2.2.2.2.2.2.2.length a4) 36, rwt aaa 65 3 b4 a3 a4 a2.2.2.2.2.2.2.2.2, blk b1 (Zz3) 36, rwt aaa 65 3 c3 a8 a9 a6.2.2.2.2] l5 := Hp.callK (L1 := []) (L2 := [blk a5 (Zz2 a2.2.2.2.1 a2.2.2.2.2.1 a2.2.2.2.2.2.1 a2.2.2.2.2.2.2.1 a8 a6.2.2.2.2.length a9 a3 a2.2.2.2.2.2.2.2.2.length a4) 36, rwt aaa 65 3 b4 a3 a4 a2.2.2.2.2.2.2.2.2, blk b1 (Zz3) 36, rwt aaa 65 3 c3 a8 a9 a6.2.2.2.2]) d5 g5; clear g5
 refine wl (abu (by exact ⟨aay.out rfl, aay.new (e2.blkAt 1 rfl), trivial⟩) (adn krf (bi hr fun c5 l6 hr => aat 70 #[] [(Vs a3 a2.2.2.2.2.2.2.2.2.length a4)] _ ent70 krf krf (alj a3 a2.2.2.2.2.2.2.2.2.length a4 l6 (hG.hp0 e2) rfl (e2.rdrw 2 rfl) (e2.rwcap 2 rfl)) ?_)))
 rintro _ l7 ⟨e3, c1, c2, rfl, g6⟩
 have l8 : Hp w [] [rwt aaa 65 3 e3 c1 c2 c5, rwt aaa 65 3 d2 b7 b8 b9, blk a5 (Zz2 a2.2.2.2.1 a2.2.2.2.2.1 a2.2.2.2.2.2.1 a2.2.2.2.2.2.2.1 a8 a6.2.2.2.2.length a9 a3 a2.2.2.2.2.2.2.2.2.length a4) 36, rwt aaa 65 3 b4 a3 a4 a2.2.2.2.2.2.2.2.2, blk b1 (Zz3) 36, rwt aaa 65 3 c3 a8 a9 a6.2.2.2.2] l7 := Hp.callK (L1 := []) (L2 := [rwt aaa 65 3 d2 b7 b8 b9, blk a5 (Zz2 a2.2.2.2.1 a2.2.2.2.2.1 a2.2.2.2.2.2.1 a2.2.2.2.2.2.2.1 a8 a6.2.2.2.2.length a9 a3 a2.2.2.2.2.2.2.2.2.length a4) 36, rwt aaa 65 3 b4 a3 a4 a2.2.2.2.2.2.2.2.2, blk b1 (Zz3) 36, rwt aaa 65 3 c3 a8 a9 a6.2.2.2.2]) e2 g6; clear g6
 refine wp 1 (aib l8 2 a5 4 (Zz2 a2.2.2.2.1 a2.2.2.2.2.1 a2.2.2.2.2.2.1 a2.2.2.2.2.2.2.1 a8 a6.2.2.2.2.length a9 a3 a2.2.2.2.2.2.2.2.2.length a4) 36 (Vs b7 b9.length b8) [rwt aaa 65 3 e3 c1 c2 c5, rwt aaa 65 3 d2 b7 b8 b9, blk a5 (Zz2 a2.2.2.2.1 a2.2.2.2.2.1 a2.2.2.2.2.2.1 a2.2.2.2.2.2.2.1 b7 b9.length b8 a3 a2.2.2.2.2.2.2.2.2.length a4) 36, rwt aaa 65 3 b4 a3 a4 a2.2.2.2.2.2.2.2.2, blk b1 (Zz3) 36, rwt aaa 65 3 c3 a8 a9 a6.2.2.2.2] rfl (zaj (zad _) nbe) krf krf rfl krf rfl fun n5 l9 => wp 1 (aib l9 2 a5 5 (Zz2 a2.2.2.2.1 a2.2.2.2.2.1 a2.2.2.2.2.2.1 a2.2.2.2.2.2.2.1 b7 b9.length b8 a3 a2.2.2.2.2.2.2.2.2.length a4) 36 (Vs c1 c5.length c2) [rwt aaa 65 3 e3 c1 c2 c5, rwt aaa 65 3 d2 b7 b8 b9, blk a5 (Zz2 a2.2.2.2.1 a2.2.2.2.2.1 a2.2.2.2.2.2.1 a2.2.2.2.2.2.2.1 b7 b9.length b8 c1 c5.length c2) 36, rwt aaa 65 3 b4 a3 a4 a2.2.2.2.2.2.2.2.2, blk b1 (Zz3) 36, rwt aaa 65 3 c3 a8 a9 a6.2.2.2.2] rfl (zaj (zad _) nbe) krf krf rfl krf rfl fun n6 g7 => nq (sr (ant g7 2 a5 0 6 (Zz2 a2.2.2.2.1 a2.2.2.2.2.1 a2.2.2.2.2.2.1 a2.2.2.2.2.2.2.1 b7 b9.length b8 c1 c5.length c2) (Zz2 a2.2.2.2.1 a2.2.2.2.2.1 a2.2.2.2.2.2.1 a2.2.2.2.2.2.2.1 b7 b9.length b8 c1 c5.length c2) 36 rfl rfl rfl krf krf krf (ahq g7 4 b1 0 (Zz3) (Zz2 a2.2.2.2.1 a2.2.2.2.2.1 a2.2.2.2.2.2.1 a2.2.2.2.2.2.2.1 b7 b9.length b8 c1 c5.length c2) 36 [rwt aaa 65 3 e3 c1 c2 c5, rwt aaa 65 3 d2 b7 b8 b9, blk a5 (Zz2 a2.2.2.2.1 a2.2.2.2.2.1 a2.2.2.2.2.2.1 a2.2.2.2.2.2.2.1 b7 b9.length b8 c1 c5.length c2) 36, rwt aaa 65 3 b4 a3 a4 a2.2.2.2.2.2.2.2.2, blk b1 (Zz2 a2.2.2.2.1 a2.2.2.2.2.1 a2.2.2.2.2.2.1 a2.2.2.2.2.2.2.1 b7 b9.length b8 c1 c5.length c2) 36, rwt aaa 65 3 c3 a8 a9 a6.2.2.2.2] rfl nbe krf krf rfl krf rfl fun n7 g8 => ?_)))))
 refine wp 2 (nq (ct ?_))
 obtain rfl := oi hr
 refine aov _ [(zan #[(str a2.2.2.2.1), (str a2.2.2.2.2.1), (str a2.2.2.2.2.2.1), (Vi .i64 a2.2.2.2.2.2.2.1), (Vs b7 b9.length b8), (Vs c1 c5.length c2)]), (Vi .i64 (0 : Int)), (bt (0 : UInt8))] (zak #[(zan #[(str a2.2.2.2.1), (str a2.2.2.2.2.1), (str a2.2.2.2.2.2.1), (Vi .i64 a2.2.2.2.2.2.2.1), (Vs b7 b9.length b8), (Vs c1 c5.length c2)]), (Vi .i64 (0 : Int)), (bt (0 : UInt8))]) rfl rfl (abe (ahu g8 4 b1 36 (Zz2 a2.2.2.2.1 a2.2.2.2.2.1 a2.2.2.2.2.2.1 a2.2.2.2.2.2.2.1 b7 b9.length b8 c1 c5.length c2) rfl krf krf krf) (abe (afd krf) (abe (afd krf) agr))) rfl ?_
 exact ⟨d2, b7, b8, e3, c1, c2, (by first | rfl | (simp; done) | (simp; omega)), (Hp.front g8 1 _ rfl).kp⟩
 exact nzz hr
 exact nzz hr
theorem aqt {fu : Nat} {a5 : (Str × Int)} {a3 : (Str × (Str × Str × Str × Int × (List PQ) × (List PQ)) × (List PQ))} (b2 : Nat) (b3 : Nat) (b5 : Option Nat) (a8 : Option Addr) (a9 : Nat) (b6 : Option Nat) (b0 : Option Addr) (b1 : Nat) (b4 : Option Nat) (a6 : Option Addr) (a7 : Nat) {w : World} {r : (Int × UInt8 × (Str × Int) × (Str × (Str × Str × Str × Int × (List PQ) × (List PQ)) × (List PQ)))} (hr : akl fu a5 a3 = some r) (hG : Gl w) (hM : Hp w (abh [blk b2 [(str a5.1), (Vi .i64 a5.2)] 99, blk b3 [(str a3.1), (str a3.2.1.1), (str a3.2.1.2.1), (str a3.2.1.2.2.1), (Vi .i64 a3.2.1.2.2.2.1), (Vs a8 a3.2.1.2.2.2.2.1.length a9), (Vs b0 a3.2.1.2.2.2.2.2.length b1), (Vs a6 a3.2.2.length a7)] 38, rwt aaa 65 3 b5 a8 a9 a3.2.1.2.2.2.2.1, rwt aaa 65 3 b6 b0 b1 a3.2.1.2.2.2.2.2, rwt aaa 65 3 b4 a6 a7 a3.2.2]) [blk b2 [(str a5.1), (Vi .i64 a5.2)] 99, blk b3 [(str a3.1), (str a3.2.1.1), (str a3.2.1.2.1), (str a3.2.1.2.2.1), (Vi .i64 a3.2.1.2.2.2.1), (Vs a8 a3.2.1.2.2.2.2.1.length a9), (Vs b0 a3.2.1.2.2.2.2.2.length b1), (Vs a6 a3.2.2.length a7)] 38, rwt aaa 65 3 b5 a8 a9 a3.2.1.2.2.2.2.1, rwt aaa 65 3 b6 b0 b1 a3.2.1.2.2.2.2.2, rwt aaa 65 3 b4 a6 a7 a3.2.2] w) (hS : ∀ b ∈ abh [blk b2 [(str a5.1), (Vi .i64 a5.2)] 99, blk b3 [(str a3.1), (str a3.2.1.1), (str a3.2.1.2.1), (str a3.2.1.2.2.1), (Vi .i64 a3.2.1.2.2.2.1), (Vs a8 a3.2.1.2.2.2.2.1.length a9), (Vs b0 a3.2.1.2.2.2.2.2.length b1), (Vs a6 a3.2.2.length a7)] 38, rwt aaa 65 3 b5 a8 a9 a3.2.1.2.2.2.2.1, rwt aaa 65 3 b6 b0 b1 a3.2.1.2.2.2.2.2, rwt aaa 65 3 b4 a6 a7 a3.2.2], 9 ≤ b) : CR prog 122 [(Vp (some ⟨b2, 0, none⟩)), (Vp (some ⟨b3, 0, none⟩))] w fun v w' => ∃ (o0 : Option Nat), ∃ (a0 : Option Addr), ∃ (cap0 : Nat), ∃ (o1 : Option Nat), ∃ (a1 : Option Addr), ∃ (cap1 : Nat), ∃ (o2 : Option Nat), ∃ (a2 : Option Addr), ∃ (cap2 : Nat), v = (zak #[(Vi .i64 r.1), (bt r.2.1)]) ∧ Hp w (abh [blk b2 [(str a5.1), (Vi .i64 a5.2)] 99, blk b3 [(str a3.1), (str a3.2.1.1), (str a3.2.1.2.1), (str a3.2.1.2.2.1), (Vi .i64 a3.2.1.2.2.2.1), (Vs a8 a3.2.1.2.2.2.2.1.length a9), (Vs b0 a3.2.1.2.2.2.2.2.length b1), (Vs a6 a3.2.2.length a7)] 38, rwt aaa 65 3 b5 a8 a9 a3.2.1.2.2.2.2.1, rwt aaa 65 3 b6 b0 b1 a3.2.1.2.2.2.2.2, rwt aaa 65 3 b4 a6 a7 a3.2.2]) [blk b2 [(str r.2.2.1.1), (Vi .i64 r.2.2.1.2)] 99, blk b3 [(str r.2.2.2.1), (str r.2.2.2.2.1.1), (str r.2.2.2.2.1.2.1), (str r.2.2.2.2.1.2.2.1), (Vi .i64 r.2.2.2.2.1.2.2.2.1), (Vs a0 r.2.2.2.2.1.2.2.2.2.1.length cap0), (Vs a1 r.2.2.2.2.1.2.2.2.2.2.length cap1), (Vs a2 r.2.2.2.2.2.length cap2)] 38, rwt aaa 65 3 o0 a0 cap0 r.2.2.2.2.1.2.2.2.2.1, rwt aaa 65 3 o1 a1 cap1 r.2.2.2.2.1.2.2.2.2.2, rwt aaa 65 3 o2 a2 cap2 r.2.2.2.2.2] w' := by
 have hH : Hp w (abh [blk b2 (Zz8 a5.1 a5.2) 99, blk b3 (Zz5 a3.1 a3.2.1.1 a3.2.1.2.1 a3.2.1.2.2.1 a3.2.1.2.2.2.1 a8 a3.2.1.2.2.2.2.1.length a9 b0 a3.2.1.2.2.2.2.2.length b1 a6 a3.2.2.length a7) 38, rwt aaa 65 3 b5 a8 a9 a3.2.1.2.2.2.2.1, rwt aaa 65 3 b6 b0 b1 a3.2.1.2.2.2.2.2, rwt aaa 65 3 b4 a6 a7 a3.2.2]) [blk b2 (Zz8 a5.1 a5.2) 99, blk b3 (Zz5 a3.1 a3.2.1.1 a3.2.1.2.1 a3.2.1.2.2.1 a3.2.1.2.2.2.1 a8 a3.2.1.2.2.2.2.1.length a9 b0 a3.2.1.2.2.2.2.2.length b1 a6 a3.2.2.length a7) 38, rwt aaa 65 3 b5 a8 a9 a3.2.1.2.2.2.2.1, rwt aaa 65 3 b6 b0 b1 a3.2.1.2.2.2.2.2, rwt aaa 65 3 b4 a6 a7 a3.2.2] w := hM
 refine enter (k := 82) func122 rfl rfl nbe ?_
 unfold akl at hr
 refine sr (wp 2 (nq (sr (wp 3 (abs hH 0 b2 1 (Zz8 a5.1 a5.2) 99 (Vi .i64 a5.2) rfl rfl krf krf (wp 3 ?_))))))
 refine nq (cs (sr (wp 1 (bi hr fun e5 d0 hr => aat 90 #[] [(Vp (some ⟨b2, 0, none⟩)), (bt (60 : UInt8))] _ ent90 krf krf (act b2 d0 (hG.hp hH hS) (hH.hand (L1 := (Zz40 b2 a5.1 a5.2)) (L2 := [blk b3 (Zz5 a3.1 a3.2.1.1 a3.2.1.2.1 a3.2.1.2.2.1 a3.2.1.2.2.2.1 a8 a3.2.1.2.2.2.2.1.length a9 b0 a3.2.1.2.2.2.2.2.length b1 a6 a3.2.2.length a7) 38, rwt aaa 65 3 b5 a8 a9 a3.2.1.2.2.2.2.1, rwt aaa 65 3 b6 b0 b1 a3.2.1.2.2.2.2.2, rwt aaa 65 3 b4 a6 a7 a3.2.2])) (hH.highs hG hS 1 rfl)) ?_))))
 rintro _ d1 ⟨rfl, c7⟩
 have c6 : Hp w (abh [blk b2 (Zz8 a5.1 a5.2) 99, blk b3 (Zz5 a3.1 a3.2.1.1 a3.2.1.2.1 a3.2.1.2.2.1 a3.2.1.2.2.2.1 a8 a3.2.1.2.2.2.2.1.length a9 b0 a3.2.1.2.2.2.2.2.length b1 a6 a3.2.2.length a7) 38, rwt aaa 65 3 b5 a8 a9 a3.2.1.2.2.2.2.1, rwt aaa 65 3 b6 b0 b1 a3.2.1.2.2.2.2.2, rwt aaa 65 3 b4 a6 a7 a3.2.2]) [blk b2 (Zz8 a5.1 a5.2) 99, blk b3 (Zz5 a3.1 a3.2.1.1 a3.2.1.2.1 a3.2.1.2.2.1 a3.2.1.2.2.2.1 a8 a3.2.1.2.2.2.2.1.length a9 b0 a3.2.1.2.2.2.2.2.length b1 a6 a3.2.2.length a7) 38, rwt aaa 65 3 b5 a8 a9 a3.2.1.2.2.2.2.1, rwt aaa 65 3 b6 b0 b1 a3.2.1.2.2.2.2.2, rwt aaa 65 3 b4 a6 a7 a3.2.2] d1 := Hp.callK (L1 := (Zz40 b2 a5.1 a5.2)) (L2 := [blk b3 (Zz5 a3.1 a3.2.1.1 a3.2.1.2.1 a3.2.1.2.2.1 a3.2.1.2.2.2.1 a8 a3.2.1.2.2.2.2.1.length a9 b0 a3.2.1.2.2.2.2.2.length b1 a6 a3.2.2.length a7) 38, rwt aaa 65 3 b5 a8 a9 a3.2.1.2.2.2.2.1, rwt aaa 65 3 b6 b0 b1 a3.2.1.2.2.2.2.2, rwt aaa 65 3 b4 a6 a7 a3.2.2]) hH c7; clear c7
 refine nq (cb hr (fun d2 hr => ?_) (fun d2 hr => ?_))
 refine sr (wp 1 (gi hr fun d3 hr => aae a5.2 (1 : Int) krf krf d3 (wp 1 (nq (sr ?_)))))
 refine wp 3 (ant c6 0 b2 0 1 (Zz8 a5.1 a5.2) [(str a5.1)] 99 rfl rfl rfl krf krf krf (wp 1 (bi hr fun c1 d4 hr => wc ent158 c6 (ais d4 (hG.hp c6 hS)) fun e6 c5 => wp 1 (nq (cs (cs ?_))))))
 refine cr (wp 5 (abs c5 0 b2 0 (Zz8 a5.1 a5.2) 99 (str a5.1) rfl rfl krf krf (wp 2 (nq (cd hr (fun d5 hr => ?_) (fun d5 hr => ?_))))))
 exact nzz hr
 refine ck (qn (cr (wp 1 (gi hr fun d6 hr => aae c1 (1 : Int) krf krf d6 (wp 1 (nq (cs ?_)))))))
 refine cr (wp 4 (abs c5 0 b2 0 (Zz8 a5.1 a5.2) 99 (str a5.1) rfl rfl krf krf (wp 2 (gi hr fun d7 hr => alo a5.1 .i64 .i64 (a5.2 + (1 : Int)) c1 underlying9 krf krf krf d7 (bi hr fun a4 d8 hr => aat 173 #[] [(str (sub a5.1 (a5.2 + (1 : Int)) c1))] _ ent173 krf krf (K_L_address_Parse d8 (hG.hp c5 hS)) ?_)))))
 rintro _ d9 ⟨c2, b7, b8, c3, b9, c0, rfl, c8⟩
 have e0 : Hp w (abh [blk b2 (Zz8 a5.1 a5.2) 99, blk b3 (Zz5 a3.1 a3.2.1.1 a3.2.1.2.1 a3.2.1.2.2.1 a3.2.1.2.2.2.1 a8 a3.2.1.2.2.2.2.1.length a9 b0 a3.2.1.2.2.2.2.2.length b1 a6 a3.2.2.length a7) 38, rwt aaa 65 3 b5 a8 a9 a3.2.1.2.2.2.2.1, rwt aaa 65 3 b6 b0 b1 a3.2.1.2.2.2.2.2, rwt aaa 65 3 b4 a6 a7 a3.2.2]) [rwt aaa 65 3 c2 b7 b8 a4.1.2.2.2.2.1, rwt aaa 65 3 c3 b9 c0 a4.1.2.2.2.2.2, blk b2 (Zz8 a5.1 a5.2) 99, blk b3 (Zz5 a3.1 a3.2.1.1 a3.2.1.2.1 a3.2.1.2.2.1 a3.2.1.2.2.2.1 a8 a3.2.1.2.2.2.2.1.length a9 b0 a3.2.1.2.2.2.2.2.length b1 a6 a3.2.2.length a7) 38, rwt aaa 65 3 b5 a8 a9 a3.2.1.2.2.2.2.1, rwt aaa 65 3 b6 b0 b1 a3.2.1.2.2.2.2.2, rwt aaa 65 3 b4 a6 a7 a3.2.2] d9 := Hp.callK (L1 := []) (L2 := [blk b2 (Zz8 a5.1 a5.2) 99, blk b3 (Zz5 a3.1 a3.2.1.1 a3.2.1.2.1 a3.2.1.2.2.1 a3.2.1.2.2.2.1 a8 a3.2.1.2.2.2.2.1.length a9 b0 a3.2.1.2.2.2.2.2.length b1 a6 a3.2.2.length a7) 38, rwt aaa 65 3 b5 a8 a9 a3.2.1.2.2.2.2.1, rwt aaa 65 3 b6 b0 b1 a3.2.1.2.2.2.2.2, rwt aaa 65 3 b4 a6 a7 a3.2.2]) c5 c8; clear c8
 refine wp 4 (adr e0 (Zz3) 36 (fun b => (Vp (some ⟨b, 0, none⟩))) rfl rfl krf fun c4 e7 e1 => ahq e1 0 c4 0 (Zz3) (Zz2 a4.1.1 a4.1.2.1 a4.1.2.2.1 a4.1.2.2.2.1 b7 a4.1.2.2.2.2.1.length b8 b9 a4.1.2.2.2.2.2.length c0) 36 [blk c4 (Zz2 a4.1.1 a4.1.2.1 a4.1.2.2.1 a4.1.2.2.2.1 b7 a4.1.2.2.2.2.1.length b8 b9 a4.1.2.2.2.2.2.length c0) 36, rwt aaa 65 3 c2 b7 b8 a4.1.2.2.2.2.1, rwt aaa 65 3 c3 b9 c0 a4.1.2.2.2.2.2, blk b2 (Zz8 a5.1 a5.2) 99, blk b3 (Zz5 a3.1 a3.2.1.1 a3.2.1.2.1 a3.2.1.2.2.1 a3.2.1.2.2.2.1 a8 a3.2.1.2.2.2.2.1.length a9 b0 a3.2.1.2.2.2.2.2.length b1 a6 a3.2.2.length a7) 38, rwt aaa 65 3 b5 a8 a9 a3.2.1.2.2.2.2.1, rwt aaa 65 3 b6 b0 b1 a3.2.1.2.2.2.2.2, rwt aaa 65 3 b4 a6 a7 a3.2.2] rfl nbe krf krf rfl krf rfl fun e8 c9 => wp 2 (nq (cs (sr (wp 1 ?_)))))
 refine afp a4.2.2 (0 : UInt8) krf krf (nq (cn hr (fun e2 hr => ?_) (fun e2 hr => ?_)))
 exact nzz hr
 refine ck (qn (sr (wp 2 (ant c9 0 c4 0 6 (Zz2 a4.1.1 a4.1.2.1 a4.1.2.2.1 a4.1.2.2.2.1 b7 a4.1.2.2.2.2.1.length b8 b9 a4.1.2.2.2.2.2.length c0) (Zz2 a4.1.1 a4.1.2.1 a4.1.2.2.1 a4.1.2.2.2.1 b7 a4.1.2.2.2.2.1.length b8 b9 a4.1.2.2.2.2.2.length c0) 36 rfl rfl rfl krf krf krf (wp 3 (ahq c9 4 b3 1 (Zz5 a3.1 a3.2.1.1 a3.2.1.2.1 a3.2.1.2.2.1 a3.2.1.2.2.2.1 a8 a3.2.1.2.2.2.2.1.length a9 b0 a3.2.1.2.2.2.2.2.length b1 a6 a3.2.2.length a7) (Zz2 a4.1.1 a4.1.2.1 a4.1.2.2.1 a4.1.2.2.2.1 b7 a4.1.2.2.2.2.1.length b8 b9 a4.1.2.2.2.2.2.length c0) 38 [blk c4 (Zz2 a4.1.1 a4.1.2.1 a4.1.2.2.1 a4.1.2.2.2.1 b7 a4.1.2.2.2.2.1.length b8 b9 a4.1.2.2.2.2.2.length c0) 36, rwt aaa 65 3 c2 b7 b8 a4.1.2.2.2.2.1, rwt aaa 65 3 c3 b9 c0 a4.1.2.2.2.2.2, blk b2 (Zz8 a5.1 a5.2) 99, blk b3 (Zz5 a3.1 a4.1.1 a4.1.2.1 a4.1.2.2.1 a4.1.2.2.2.1 b7 a4.1.2.2.2.2.1.length b8 b9 a4.1.2.2.2.2.2.length c0 a6 a3.2.2.length a7) 38, rwt aaa 65 3 b5 a8 a9 a3.2.1.2.2.2.2.1, rwt aaa 65 3 b6 b0 b1 a3.2.1.2.2.2.2.2, rwt aaa 65 3 b4 a6 a7 a3.2.2] rfl nbe krf krf rfl krf rfl fun e9 e3 => wp 2 (aib e3 3 b2 1 (Zz8 a5.1 a5.2) 99 (Vi .i64 (c1 + (1 : Int))) [blk c4 (Zz2 a4.1.1 a4.1.2.1 a4.1.2.2.1 a4.1.2.2.2.1 b7 a4.1.2.2.2.2.1.length b8 b9 a4.1.2.2.2.2.2.length c0) 36, rwt aaa 65 3 c2 b7 b8 a4.1.2.2.2.2.1, rwt aaa 65 3 c3 b9 c0 a4.1.2.2.2.2.2, blk b2 (Zz44 a5.1 c1) 99, blk b3 (Zz5 a3.1 a4.1.1 a4.1.2.1 a4.1.2.2.1 a4.1.2.2.2.1 b7 a4.1.2.2.2.2.1.length b8 b9 a4.1.2.2.2.2.2.length c0 a6 a3.2.2.length a7) 38, rwt aaa 65 3 b5 a8 a9 a3.2.1.2.2.2.2.1, rwt aaa 65 3 b6 b0 b1 a3.2.1.2.2.2.2.2, rwt aaa 65 3 b4 a6 a7 a3.2.2] rfl (zaj (zad _) nbe) krf krf rfl krf rfl fun f0 e4 => ?_)))))))
 refine nq (sr (wp 2 (nq (ct ?_))))
 obtain rfl := oi hr
 refine r_two (Vi .i64 (0 : Int)) (bt (0 : UInt8)) rfl krf krf ?_
 exact ⟨c2, b7, b8, c3, b9, c0, b4, a6, a7, (by first | rfl | (simp; done) | (simp; omega)), (Hp.front (Hp.front (Hp.front (Hp.front (Hp.front e4 7 _ rfl) 3 _ rfl) 3 _ rfl) 5 _ rfl) 5 _ rfl).kp⟩
 exact nzz hr
theorem K_L_lexis_char_escaped {fu : Nat} {a1 : UInt8} {w : World} {r : Bool} (hr : ahz fu a1 = some r) (hG : Gl w) : CR prog 194 [(bt a1)] w fun v w' => v = (Vb r) ∧ Hp w [] [] w' := by
 have hH := Hp.refl w
 refine enter (k := 9) func194 rfl rfl nbe ?_
 unfold ahz at hr
 refine sr (wp 1 (nq (bi hr fun v5 a0 hr => age hH [2] [(2, (Vb v5))] ?_ ?_)))
 refine cr (wp 1 (ajo a1 (32 : UInt8) krf krf (wd a0 (fun h6 a0 => ?_) (fun h6 a0 => ?_))))
 refine wp 1 (gy 5 (ajn a1 (126 : UInt8) krf krf (wp 2 (wl (ql ?_)))))
 obtain rfl := oi a0
 exact je hH.kp
 refine wp 4 (wl (ql ?_))
 obtain rfl := oi a0
 exact je hH.kp
 intro w7 G a2
 refine ct ?_
 obtain rfl := oi hr
 exact rv a2.kp
theorem anu {fu : Nat} {a1 : UInt8} {w : World} {r : Bool} (hr : aha fu a1 = some r) (hG : Gl w) : CR prog 135 [(bt a1)] w fun v w' => v = (Vb r) ∧ Hp w [] [] w' := by
 have hH := Hp.refl w
 refine enter (k := 13) func135 rfl rfl nbe ?_
 unfold aha at hr
 refine sr (wp 1 (nq (bi hr fun v6 a0 hr => age hH [2] [(2, (Vb v6))] ?_ ?_)))
 refine cr (wp 1 (w8_lss a1 (32 : UInt8) krf krf (wd a0 (fun h7 a0 => ?_) (fun h7 a0 => ?_))))
 refine wp 1 (gy 5 (afp a1 (9 : UInt8) krf krf (wp 1 (wn a0 (fun h8 a0 => ?_) (fun h8 a0 => ?_)))))
 refine wp 4 (wl (ql ?_))
 obtain rfl := oi a0
 exact je hH.kp
 refine wp 1 (gy 9 (acx a1 (127 : UInt8) krf krf (wp 2 (wl (ql ?_)))))
 obtain rfl := oi a0
 exact je hH.kp
 refine wp 5 (gy 9 (acx a1 (127 : UInt8) krf krf (wp 2 (wl (ql ?_)))))
 obtain rfl := oi a0
 exact je hH.kp
 intro w9 G a2
 refine ct ?_
 obtain rfl := oi hr
 exact rv a2.kp
theorem K_L_lexis_Unquote {fu : Nat} {s_0 : Str} {b0 : Int} {w : World} {r : (Str × Int × UInt8)} (hr : als fu s_0 b0 = some r) (hG : Gl w) : CR prog 157 [(str s_0), (Vi .i64 b0)] w fun v w' => v = (zak #[(str r.1), (Vi .i64 r.2.1), (bt r.2.2)]) ∧ Hp w [] [] w' := by
 have hH := Hp.refl w
 refine enter (k := 82) func157 rfl rfl nbe ?_
 unfold als at hr
 refine sr (wp 3 (nq (c_scope (cs (bi hr fun v5 b1 hr => age hH [0, 1, 4, 5, 6, 17] [(17, (Vb v5))] ?_ ?_)))))
 refine cr (wp 2 (wd b1 (fun h6 b1 => ?_) (fun h6 b1 => ?_)))
 refine wp 5 (wl (ql ?_))
 obtain rfl := oi b1
 exact je hH.kp
 refine wp 5 (wl (ql ?_))
 obtain rfl := oi b1
 exact je hH.kp
 intro w7 G b4
 refine cb hr (fun h9 hr => ?_) (fun h9 hr => ?_)
 refine sr (wp 3 (nq (ct (st (n_ret ?_)))))
 obtain rfl := oi hr
 exact rv b4.kp
 refine ck (qn (cs (bi hr fun d3 a7 hr => age b4 [0, 1, 4, 5, 6, 27] [(27, (Vb d3))] ?_ ?_)))
 refine cr (wp 4 (wd a7 (fun d4 a7 => ?_) (fun d4 a7 => ?_)))
 refine wp 5 (wl (ql ?_))
 obtain rfl := oi a7
 exact je b4.kp
 refine wp 2 (gy 22 (gi a7 fun d5 a7 => abi s_0 .i64 b0 underlying9 krf krf d5 (gy 22 (afp (at_ s_0 b0) (34 : UInt8) krf krf (wp 1 (wl (ql ?_)))))))
 obtain rfl := oi a7
 exact je b4.kp
 intro g3 G c1
 refine cb hr (fun d6 hr => ?_) (fun d6 hr => ?_)
 refine sr (wp 4 (nq (ct (st (n_ret ?_)))))
 obtain rfl := oi hr
 exact rv c1.kp
 refine ck (qn (sr (wp 1 (nq (sr (wp 1 ?_))))))
 refine gi hr fun d7 hr => aae b0 (1 : Int) krf krf d7 (wp 1 (nq (cs (c_label (qn (bi hr fun c2 d8 hr => cut (σ := ((List UInt8) × Int) × (Option Nat) × (Option Addr) × Nat) [0, 4, 5, 6, 7, 8] (fun ⟨a3, b5, b2, b3⟩ => [(7, (Vs b2 a3.1.length b3)), (8, (Vi .i64 a3.2))]) (fun ⟨a3, b5, b2, b3⟩ w' => Hp w [] [rwt eB 5 1 b5 b2 b3 a3.1] w' ∧ .inl a3 = c2) ?_ ?_))))))
 refine ce (lpG (σ := Nat × (List UInt8) × Int × (Option Nat) × (Option Addr) × Nat) [0, 4, 5, 6, 7, 8] (fun ⟨a8, a2, a1, a6, a4, a5⟩ => [(7, (Vs a4 a2.length a5)), (8, (Vi .i64 a1))]) (fun ⟨a8, a2, a1, a6, a4, a5⟩ w' => Hp w [] [rwt eB 5 1 a6 a4 a5 a2] w' ∧ aem fu s_0 a8 a2 a1 = some c2) (fun ⟨a8, a2, a1, a6, a4, a5⟩ => a8) (fu, ([] : List UInt8), b0 + (1 : Int), none, none, 0) (by exact ⟨(Hp.nilrw c1 eB 5 1 none).kp, d8⟩) ?_ (mc krf (mc krf (mc krf (mc krf (mc (Eq.trans (b := (Vs none 0 0)) krf (aaj lsy)) (mc krf rfl)))))))
 rintro ⟨_ | a8, a2, a1, a6, a4, a5⟩ g4 G ⟨a9, a0⟩
 · exact nzz a0
 rw [aem.eq_2] at a0
 refine cs (sr (wp 4 (nq (cd a0 (fun d9 a0 => ?_) (fun d9 a0 => ?_)))))
 refine ck (qn (ce (sr (wp 2 (gi a0 fun e0 a0 => abi s_0 .i64 a1 underlying9 krf krf e0 (wp 1 (wl ?_)))))))
 refine qn (cs (ce (sr (wp 1 (acx (at_ s_0 a1) (34 : UInt8) krf krf (wp 1 (nq (cd a0 (fun e1 a0 => ?_) (fun e1 a0 => ?_)))))))))
 refine abq (b_past krf (abp (b_past krf (aby (abr (ql ?_))))))
 obtain rfl := oi a0
 exact ⟨((a2, a1), a6, a4, a5), _, rfl, by kernel_rfl, a9.kp, rfl⟩
 refine sr (wp 1 (acx (at_ s_0 a1) (92 : UInt8) krf krf (wp 1 (nq (cd a0 (fun e2 a0 => ?_) (fun e2 a0 => ?_))))))
 refine cs (sr (wp 1 (gi a0 fun e3 a0 => aae a1 (1 : Int) krf krf e3 (wp 3 (nq (cd a0 (fun e4 a0 => ?_) (fun e4 a0 => ?_)))))))
 refine sr (wp 5 (nq (ct (st (bt_ (st (bt_ ?_)))))))
 refine adg (bt_ (adg ?_))
 obtain rfl := oi a0
 refine n_ret ?_
 obtain rfl := oi hr
 exact rv a9.kp
 refine ck (qn (cs (sr (wp 2 (gi a0 fun e5 a0 => aae a1 (1 : Int) krf krf e5 (gi a0 fun e6 a0 => abi s_0 .i64 (a1 + (1 : Int)) underlying9 krf krf e6 ?_))))))
 refine bi a0 fun g5 e7 a0 => wc ent194 a9 (K_L_lexis_char_escaped e7 (hG.hp0 a9)) fun g6 c3 => wp 1 (nq (cb a0 (fun e8 a0 => ?_) (fun e8 a0 => ?_)))
 refine sr (wp 4 (nq (ct (st (bt_ (st (bt_ ?_)))))))
 refine adg (bt_ (adg ?_))
 obtain rfl := oi a0
 refine n_ret ?_
 obtain rfl := oi hr
 exact rv c3.kp
 refine ck (qn (cr (wp 1 (gi a0 fun e9 a0 => aae a1 (1 : Int) krf krf e9 (wp 1 (wl (bn (qn ?_))))))))
 refine sr (wp 3 (gi a0 fun f0 a0 => abi s_0 .i64 (a1 + (1 : Int)) underlying9 krf krf f0 (adr c3 [(bt (at_ s_0 (a1 + (1 : Int))))] 5 (fun b => (Vs (some ⟨b, 0, none⟩) 1 1)) rfl rfl krf fun b6 g7 c4 => gi a0 fun f1 a0 => adm c4 1 a6 a4 (some ⟨b6, 0, none⟩) a5 1 5 1 1 a2 ([at_ s_0 (a1 + (1 : Int))] : List UInt8) akh rfl underlying85 (by unfold TI; kernel_rfl) (by decide) (by decide) krf (Eq.trans (b := (Vs (some ⟨b6, 0, none⟩) 1 1)) krf (aaj (by first | rfl | (simp; done) | omega | (simp; omega) | (rw [zah]; omega)))) (c4.rdblk 0 rfl) f1 fun c5 c6 c7 f2 b7 => ?_)))
 replace b7 : Hp w [] [blk b6 [(bt (at_ s_0 (a1 + (1 : Int))))] 5, rwt eB 5 1 c5 c6 c7 (a2 ++ ([at_ s_0 (a1 + (1 : Int))] : List UInt8))] f2 := b7
 refine wp 1 (nq (cr (wp 1 (gi a0 fun f3 a0 => aae (a1 + (1 : Int)) (1 : Int) krf krf f3 (wp 1 (wl (bn ?_)))))))
 refine ql ?_
 exact ⟨(a8, a2 ++ ([at_ s_0 (a1 + (1 : Int))] : List UInt8), (a1 + (1 : Int)) + (1 : Int), c5, c6, c7), _, rfl, by kernel_rfl, ⟨(Hp.front b7 1 _ rfl).kp, a0⟩, zad _⟩
 refine sr (wp 1 (bi a0 fun g8 f4 a0 => wc ent135 a9 (anu f4 (hG.hp0 a9)) fun g9 c8 => wp 1 (nq (cb a0 (fun f5 a0 => ?_) (fun f5 a0 => ?_)))))
 refine sr (wp 4 (nq (ct (bt_ (st (bt_ (adg ?_)))))))
 refine bt_ (adg ?_)
 obtain rfl := oi a0
 refine n_ret ?_
 obtain rfl := oi hr
 exact rv c8.kp
 refine ck (bn (qn (sr (wp 3 (gi a0 fun f6 a0 => abi s_0 .i64 a1 underlying9 krf krf f6 (adr c8 [(bt (at_ s_0 a1))] 5 (fun b => (Vs (some ⟨b, 0, none⟩) 1 1)) rfl rfl krf fun b8 h0 c9 => gi a0 fun f7 a0 => ?_))))))
 refine adm c9 1 a6 a4 (some ⟨b8, 0, none⟩) a5 1 5 1 1 a2 ([at_ s_0 a1] : List UInt8) akh rfl underlying85 (by unfold TI; kernel_rfl) (by decide) (by decide) krf (Eq.trans (b := (Vs (some ⟨b8, 0, none⟩) 1 1)) krf (aaj (by first | rfl | (simp; done) | omega | (simp; omega) | (rw [zah]; omega)))) (c9.rdblk 0 rfl) f7 fun d0 d1 d2 f8 b9 => ?_
 replace b9 : Hp w [] [blk b8 [(bt (at_ s_0 a1))] 5, rwt eB 5 1 d0 d1 d2 (a2 ++ ([at_ s_0 a1] : List UInt8))] f8 := b9
 refine wp 1 (nq (cr (wp 1 (gi a0 fun f9 a0 => aae a1 (1 : Int) krf krf f9 (wp 1 (wl (bn ?_)))))))
 refine ql ?_
 exact ⟨(a8, a2 ++ ([at_ s_0 a1] : List UInt8), a1 + (1 : Int), d0, d1, d2), _, rfl, by kernel_rfl, ⟨(Hp.front b9 1 _ rfl).kp, a0⟩, zad _⟩
 refine abq (abp (aby (abr (ql ?_))))
 obtain rfl := oi a0
 exact ⟨((a2, a1), a6, a4, a5), _, rfl, by kernel_rfl, a9.kp, rfl⟩
 rintro ⟨a3, b5, b2, b3⟩ g0 G ⟨c0, rfl⟩
 refine cs (sr (wp 4 (nq (cd hr (fun g1 hr => ?_) (fun g1 hr => ?_)))))
 refine sr (wp 5 (nq (ct (st (n_ret ?_)))))
 obtain rfl := oi hr
 exact rv c0.kp
 refine ck (qn (sr (wp 1 (aes (v := (str a3.1)) (w' := g0) rfl rfl (apn a3.1 b2 a3.1.length b3 5 (Rd.bytes (c0.rdrw 0 rfl)) (by first | rfl | (simp; done) | omega | (simp; omega) | (rw [zah]; omega)) underlying85 underlying9 underlying5 krf) (wp 1 (gi hr fun g2 hr => aae a3.2 (1 : Int) krf krf g2 (wp 3 ?_)))))))
 refine nq (ct (n_ret ?_))
 obtain rfl := oi hr
 exact rv c0.kp
theorem aqu {fu : Nat} {a4 : (Str × Int)} (a0 : Nat) {w : World} {r : (PQ × Int × UInt8 × (Str × Int))} (hr : agz fu a4 = some r) (hG : Gl w) (hM : Hp w (abh [blk a0 [(str a4.1), (Vi .i64 a4.2)] 99]) [blk a0 [(str a4.1), (Vi .i64 a4.2)] 99] w) (hS : ∀ b ∈ abh [blk a0 [(str a4.1), (Vi .i64 a4.2)] 99], 9 ≤ b) : CR prog 91 [(Vp (some ⟨a0, 0, none⟩))] w fun v w' => v = (zak #[(zan #[(str r.1.1), (str r.1.2.1), (Vb r.1.2.2)]), (Vi .i64 r.2.1), (bt r.2.2.1)]) ∧ Hp w (abh [blk a0 [(str a4.1), (Vi .i64 a4.2)] 99]) [blk a0 [(str r.2.2.2.1), (Vi .i64 r.2.2.2.2)] 99] w' := by
 have hH : Hp w (abh (Zz40 a0 a4.1 a4.2)) (Zz40 a0 a4.1 a4.2) w := hM
 refine enter (k := 129) func91 rfl rfl nbe ?_
 unfold agz at hr
 refine sr (adr hH (Zz6) 65 (fun b => (Vp (some ⟨b, 0, none⟩))) rfl rfl krf fun b1 w2 e7 => wp 2 (nq (sr (wp 1 (bi hr fun y4 e8 hr => ?_)))))
 have b4 : Hp w (abh (Zz40 a0 a4.1 a4.2)) [blk a0 (Zz8 a4.1 a4.2) 99, blk b1 (Zz6) 65] w2 := e7.front 1 _ rfl
 refine aat 156 #[] (Zz45 a0) _ ent156 krf krf (akb a0 e8 (hG.hp b4 hS) (b4.hand (L1 := (Zz40 a0 a4.1 a4.2)) (L2 := [blk b1 (Zz6) 65])) (b4.highs hG hS 1 rfl)) ?_
 rintro _ w6 ⟨rfl, c7⟩
 have c8 : Hp w (abh (Zz40 a0 a4.1 a4.2)) [blk a0 (Zz8 y4.2.1 y4.2.2) 99, blk b1 (Zz6) 65] w6 := Hp.callK (L1 := (Zz40 a0 a4.1 a4.2)) (L2 := [blk b1 (Zz6) 65]) b4 c7; clear c7
 refine bi hr fun a2 e9 hr => wc ent67 c8 (adu e9 (hG.hp c8 hS)) fun i4 f0 => wp 1 (adr f0 (Zz6) 65 (fun b => (Vp (some ⟨b, 0, none⟩))) rfl rfl krf fun a3 i5 f1 => ahq f1 0 a3 0 (Zz6) (Zz24 a2) 65 [blk a3 (Zz24 a2) 65, blk a0 (Zz8 y4.2.1 y4.2.2) 99, blk b1 (Zz6) 65] rfl nbe krf krf rfl krf rfl fun f2 c3 => nq (cs (sr ?_)))
 refine wp 1 (abs c3 0 a3 0 (Zz24 a2) 65 (str a2) rfl rfl krf krf (wp 1 (nq (cd hr (fun f3 hr => ?_) (fun f3 hr => ?_)))))
 refine cs (aeh 6 (fun j_ w_ w_' => aay [6, 7] (fun w' => w'.heap[a0]? = some (.cells (Zz8 y4.2.1 y4.2.2).toArray 99 (0, 0))) j_ w_ w_' ∧ True) (Zz92) (fun _ _ => ⟨aay.same, trivial⟩) krf krf c3 rfl (ade (ade adb)) fun i6 c9 => rp 2 [0, 1, 2, 3] (aal (Zz101) 4 23 (Vi .i64 y4.2.2) [6, 7] (fun _ _ _ h => h.1) _ rfl rfl krf krf krf krf krf rfl (aba rfl (by intro w hS_; exact (aga a0 1 (Zz8 y4.2.1 y4.2.2) 99 (Vi .i64 y4.2.2) hS_ rfl krf krf))) (by exact c9.blkAt 1 rfl) (ro 5 rfl (ahq c9 2 b1 0 (Zz6) (Zz6) 65 [blk a3 (Zz24 a2) 65, blk a0 (Zz8 y4.2.1 y4.2.2) 99, blk b1 (Zz6) 65] rfl nbe krf krf rfl krf rfl fun i7 c4 => wl (abu (by exact ⟨aay.new (c4.blkAt 1 rfl), trivial⟩) (adn krf (wp 2 ?_)))))))
 refine nq (ct (st ?_))
 obtain rfl := oi hr
 refine aov _ [(zan #[(str ([] : Str)), (str ([] : Str)), (Vb false)]), (Vi .i64 y4.2.2), (bt (5 : UInt8))] (zak #[(zan #[(str ([] : Str)), (str ([] : Str)), (Vb false)]), (Vi .i64 y4.2.2), (bt (5 : UInt8))]) rfl rfl (abe (ahu c4 2 b1 65 (Zz6) rfl krf krf krf) (abe (afd krf) (abe (afd krf) agr))) rfl ?_
 exact ⟨(by first | rfl | (simp; done) | (simp; omega)), (Hp.front c4 1 _ rfl).kp⟩
 refine ck (qn (sr (wp 1 (bi hr fun a6 f4 hr => ?_))))
 have b5 : Hp w (abh (Zz40 a0 a4.1 a4.2)) [blk a0 (Zz8 y4.2.1 y4.2.2) 99, blk a3 (Zz24 a2) 65, blk b1 (Zz6) 65] f2 := c3.front 1 _ rfl
 refine aat 88 #[] (Zz45 a0) _ ent88 krf krf (aet a0 f4 (hG.hp b5 hS) (b5.hand (L1 := (Zz40 a0 y4.2.1 y4.2.2)) (L2 := (Zz93 a3 a2 b1))) (b5.highs hG hS 1 rfl)) ?_
 rintro _ f5 ⟨rfl, d0⟩
 have b6 : Hp w (abh (Zz40 a0 a4.1 a4.2)) [blk a0 (Zz8 a6.1 a6.2) 99, blk a3 (Zz24 a2) 65, blk b1 (Zz6) 65] f5 := Hp.callK (L1 := (Zz40 a0 y4.2.1 y4.2.2)) (L2 := (Zz93 a3 a2 b1)) b5 d0; clear d0
 refine nq (cs (sr (wp 1 (bi hr fun i9 f6 hr => aat 90 #[] [(Vp (some ⟨a0, 0, none⟩)), (bt (61 : UInt8))] _ ent90 krf krf (act a0 f6 (hG.hp b6 hS) (b6.hand (L1 := (Zz40 a0 a6.1 a6.2)) (L2 := (Zz93 a3 a2 b1))) (b6.highs hG hS 1 rfl)) ?_))))
 rintro _ f7 ⟨rfl, d1⟩
 have b7 : Hp w (abh (Zz40 a0 a4.1 a4.2)) [blk a0 (Zz8 a6.1 a6.2) 99, blk a3 (Zz24 a2) 65, blk b1 (Zz6) 65] f7 := Hp.callK (L1 := (Zz40 a0 a6.1 a6.2)) (L2 := (Zz93 a3 a2 b1)) b6 d1; clear d1
 refine wp 1 (nq (cb hr (fun f8 hr => ?_) (fun f8 hr => ?_)))
 refine sr (ant b7 1 a3 0 3 (Zz24 a2) (Zz24 a2) 65 rfl rfl rfl krf krf krf (ahq b7 2 b1 0 (Zz6) (Zz24 a2) 65 [blk a0 (Zz8 a6.1 a6.2) 99, blk a3 (Zz24 a2) 65, blk b1 (Zz24 a2) 65] rfl nbe krf krf rfl krf rfl fun j0 d2 => wp 2 (nq (ct (st ?_)))))
 obtain rfl := oi hr
 refine aov _ [(zan #[(str a2), (str ([] : Str)), (Vb false)]), (Vi .i64 (0 : Int)), (bt (0 : UInt8))] (zak #[(zan #[(str a2), (str ([] : Str)), (Vb false)]), (Vi .i64 (0 : Int)), (bt (0 : UInt8))]) rfl rfl (abe (ahu d2 2 b1 65 (Zz24 a2) rfl krf krf krf) (abe (afd krf) (abe (afd krf) agr))) rfl ?_
 exact ⟨(by first | rfl | (simp; done) | (simp; omega)), d2.kp⟩
 refine ck (qn (sr (wp 3 (abs b7 0 a0 1 (Zz8 a6.1 a6.2) 99 (Vi .i64 a6.2) rfl rfl krf krf (gi hr fun f9 hr => aae a6.2 (1 : Int) krf krf f9 (wp 2 (aib b7 0 a0 1 (Zz8 a6.1 a6.2) 99 (Vi .i64 (a6.2 + (1 : Int))) [blk a0 (Zz44 a6.1 a6.2) 99, blk a3 (Zz24 a2) 65, blk b1 (Zz6) 65] rfl (zaj (zad _) nbe) krf krf rfl krf rfl fun j1 b8 => ?_)))))))
 refine nq (sr (wp 1 (bi hr fun a1 g0 hr => aat 88 #[] (Zz45 a0) _ ent88 krf krf (aet a0 g0 (hG.hp b8 hS) (b8.hand (L1 := [blk a0 (Zz44 a6.1 a6.2) 99]) (L2 := (Zz93 a3 a2 b1))) (b8.highs hG hS 1 rfl)) ?_)))
 rintro _ g1 ⟨rfl, d3⟩
 have g2 : Hp w (abh (Zz40 a0 a4.1 a4.2)) [blk a0 (Zz8 a1.1 a1.2) 99, blk a3 (Zz24 a2) 65, blk b1 (Zz6) 65] g1 := Hp.callK (L1 := [blk a0 (Zz44 a6.1 a6.2) 99]) (L2 := (Zz93 a3 a2 b1)) b8 d3; clear d3
 refine nq (sr (wp 1 (aib g2 1 a3 2 (Zz24 a2) 65 (Vb true) (Zz80 a0 a1.1 a1.2 a3 a2 b1) rfl (zaj (zad _) nbe) krf krf rfl krf rfl fun j2 b9 => nq (cs (ce ?_)))))
 refine sr (wp 1 (bi hr fun j3 g3 hr => aat 90 #[] [(Vp (some ⟨a0, 0, none⟩)), (bt (34 : UInt8))] _ ent90 krf krf (act a0 g3 (hG.hp b9 hS) (b9.hand (L1 := (Zz40 a0 a1.1 a1.2)) (L2 := (Zz94 a3 a2 b1))) (b9.highs hG hS 1 rfl)) ?_))
 rintro _ g4 ⟨rfl, d4⟩
 have b0 : Hp w (abh (Zz40 a0 a4.1 a4.2)) (Zz80 a0 a1.1 a1.2 a3 a2 b1) g4 := Hp.callK (L1 := (Zz40 a0 a1.1 a1.2)) (L2 := (Zz94 a3 a2 b1)) b9 d4; clear d4
 refine wp 1 (nq (cb hr (fun g5 hr => ?_) (fun g5 hr => ?_)))
 refine cs (bi hr fun a7 g6 hr => aeh 16 (fun j_ w_ w_' => aay [9, 10, 11, 12, 13, 14, 15, 16] (fun w' => w'.heap[a0]? = some (.cells (Zz8 a1.1 a1.2).toArray 99 (0, 0))) j_ w_ w_' ∧ True) (Zz37) (fun _ _ => ⟨aay.same, trivial⟩) krf krf b0 rfl (ade (aak (ade adb))) fun j4 c0 => rp 12 [0, 1, 2, 3] (aal [true, true, true, true, true, false, false, false, false, false, false, false, false, false, false, false, false] 4 59 (str a1.1) [9, 10, 11, 12, 13, 14, 15, 16] (fun _ _ _ h => h.1) _ rfl rfl krf krf krf krf krf rfl (aba rfl (by intro w hS_; exact (aga a0 0 (Zz8 a1.1 a1.2) 99 (str a1.1) hS_ rfl krf krf))) (by exact c0.blkAt 0 rfl) (rp 8 [5, 6, 7] (aal (Zz62) 8 63 (Vi .i64 a1.2) [9, 10, 11, 12, 13, 14, 15, 16] (fun _ _ _ h => h.1) _ rfl rfl krf krf krf krf krf rfl (aba rfl (by intro w hS_; exact (aga a0 1 (Zz8 a1.1 a1.2) 99 (Vi .i64 a1.2) hS_ rfl krf krf))) (by exact c0.blkAt 0 rfl) (ro 9 rfl (wc ent157 c0 (K_L_lexis_Unquote g6 (hG.hp c0 hS)) fun j5 d5 => wl ?_))))))
 refine abu (by exact ⟨aay.out rfl, trivial⟩) (rp 0 [10, 11, 12, 13, 14, 15] (adn krf (wp 1 (nq (cs (sr (wp 1 ?_)))))))
 refine afp a7.2.2 (0 : UInt8) krf krf (nq (cn hr (fun g7 hr => ?_) (fun g7 hr => ?_)))
 refine sr (wp 3 (ahq d5 2 b1 0 (Zz6) (Zz6) 65 (Zz80 a0 a1.1 a1.2 a3 a2 b1) rfl nbe krf krf rfl krf rfl fun j6 d6 => wp 2 (nq (ct (st (bt_ ?_))))))
 refine st ?_
 obtain rfl := oi hr
 refine aov _ [(zan #[(str ([] : Str)), (str ([] : Str)), (Vb false)]), (Vi .i64 a7.2.1), (bt a7.2.2)] (zak #[(zan #[(str ([] : Str)), (str ([] : Str)), (Vb false)]), (Vi .i64 a7.2.1), (bt a7.2.2)]) rfl rfl (abe (ahu d6 2 b1 65 (Zz6) rfl krf krf krf) (abe (afd krf) (abe (afd krf) agr))) rfl ?_
 exact ⟨(by first | rfl | (simp; done) | (simp; omega)), d6.kp⟩
 refine ck (qn (cr (wp 4 (aib d5 1 a3 1 (Zz43 a2) 65 (str a7.1) (Zz82 a0 a1.1 a1.2 a3 a2 a7.1 b1) rfl (zaj (zad _) nbe) krf krf rfl krf rfl fun j7 g8 => wp 2 (aib g8 0 a0 1 (Zz8 a1.1 a1.2) 99 (Vi .i64 a7.2.1) (Zz82 a0 a1.1 a7.2.1 a3 a2 a7.1 b1) rfl (zaj (zad _) nbe) krf krf rfl krf rfl fun j8 d7 => wl (bn (qn ?_)))))))
 refine sr (ant d7 1 a3 0 3 (Zz39 a2 a7.1) (Zz39 a2 a7.1) 65 rfl rfl rfl krf krf krf (ahq d7 2 b1 0 (Zz6) (Zz39 a2 a7.1) 65 [blk a0 (Zz8 a1.1 a7.2.1) 99, blk a3 (Zz39 a2 a7.1) 65, blk b1 (Zz39 a2 a7.1) 65] rfl nbe krf krf rfl krf rfl fun j9 d8 => wp 2 (nq (ct ?_))))
 obtain rfl := oi hr
 refine aov _ [(zan #[(str a2), (str a7.1), (Vb true)]), (Vi .i64 (0 : Int)), (bt (0 : UInt8))] (zak #[(zan #[(str a2), (str a7.1), (Vb true)]), (Vi .i64 (0 : Int)), (bt (0 : UInt8))]) rfl rfl (abe (ahu d8 2 b1 65 (Zz39 a2 a7.1) rfl krf krf krf) (abe (afd krf) (abe (afd krf) agr))) rfl ?_
 exact ⟨(by first | rfl | (simp; done) | (simp; omega)), d8.kp⟩
 refine sr (wp 1 (bi hr fun k0 g9 hr => aat 90 #[] [(Vp (some ⟨a0, 0, none⟩)), (bt (91 : UInt8))] _ ent90 krf krf (act a0 g9 (hG.hp b0 hS) (b0.hand (L1 := (Zz40 a0 a1.1 a1.2)) (L2 := (Zz94 a3 a2 b1))) (b0.highs hG hS 1 rfl)) ?_))
 rintro _ h0 ⟨rfl, d9⟩
 have b2 : Hp w (abh (Zz40 a0 a4.1 a4.2)) (Zz80 a0 a1.1 a1.2 a3 a2 b1) h0 := Hp.callK (L1 := (Zz40 a0 a1.1 a1.2)) (L2 := (Zz94 a3 a2 b1)) b0 d9; clear d9
 refine wp 1 (nq (cb hr (fun h1 hr => ?_) (fun h1 hr => ?_)))
 refine cs (aeh 8 (fun j_ w_ w_' => aay [8, 9] (fun w' => w'.heap[a0]? = some (.cells (Zz8 a1.1 a1.2).toArray 99 (0, 0))) j_ w_ w_' ∧ True) (Zz77) (fun _ _ => ⟨aay.same, trivial⟩) krf krf b2 rfl (ade (aak (ade adb))) fun k1 c1 => rp 5 [0, 1, 2] (aal [true, true, true, true, false, false, false, false, false, false] 3 85 (zan #[(str a1.1)]) [8, 9] (fun _ _ _ h => h.1) _ rfl rfl krf krf krf krf krf rfl (aba rfl (by intro w hS_; exact (x_ldN a0 0 1 (Zz8 a1.1 a1.2) [(str a1.1)] 99 hS_ rfl rfl krf krf krf))) (by exact c1.blkAt 0 rfl) (rp 1 [4, 5, 6] (aal [true, true, true, true, true, true, true, true, false, false] 7 89 (Vi .i64 a1.2) [8, 9] (fun _ _ _ h => h.1) _ rfl rfl krf krf krf krf krf rfl (aba rfl (by intro w hS_; exact (aga a0 1 (Zz8 a1.1 a1.2) 99 (Vi .i64 a1.2) hS_ rfl krf krf))) (by exact c1.blkAt 0 rfl) (adn krf (bi hr fun a9 h2 hr => wc ent158 c1 (ais h2 (hG.hp c1 hS)) fun k2 h3 => wp 1 ?_))))))
 refine nq (cs (gi hr fun h4 hr => gi hr fun h5 hr => bi hr fun a8 h6 hr => aeh 24 (fun j_ w_ w_' => aay [18, 19, 20, 21, 22, 23, 24] (fun w' => w'.heap[a0]? = some (.cells (Zz8 a1.1 a1.2).toArray 99 (0, 0))) j_ w_ w_' ∧ aay [16, 17, 18, 19, 20, 21, 22, 23, 24] (fun w' => w'.heap[a0]? = some (.cells (Zz8 a1.1 a1.2).toArray 99 (0, 0))) j_ w_ w_' ∧ True) [false, false, false, false, false, false, false, false, false, false, false, false, false, false, false, false, false, false, false, false, false, false, false, false, false] (fun _ _ => ⟨aay.same, aay.same, trivial⟩) krf krf h3 rfl (ade (aak (ade adb))) fun k3 b3 => rp 20 [0, 1, 2, 3] (aal [true, true, true, true, true, false, false, false, false, false, false, false, false, false, false, false, false, false, false, false, false, false, false, false, false] 4 96 (str a1.1) [18, 19, 20, 21, 22, 23, 24] (fun _ _ _ h => h.1) _ rfl rfl krf krf krf krf krf rfl (aba rfl (by intro w hS_; exact (aga a0 0 (Zz8 a1.1 a1.2) 99 (str a1.1) hS_ rfl krf krf))) (by exact b3.blkAt 0 rfl) (rp 16 [5, 6, 7] ?_))))
 refine aal [true, true, true, true, true, true, true, true, true, false, false, false, false, false, false, false, false, false, false, false, false, false, false, false, false] 8 100 (Vi .i64 a1.2) [18, 19, 20, 21, 22, 23, 24] (fun _ _ _ h => h.1) _ rfl rfl krf krf krf krf krf rfl (aba rfl (by intro w hS_; exact (aga a0 1 (Zz8 a1.1 a1.2) 99 (Vi .i64 a1.2) hS_ rfl krf krf))) (by exact b3.blkAt 0 rfl) (rp 14 [9] (rt 10 (Vi .i64 (a9 + (1 : Int))) rfl rfl (aba rfl (by intro w hS_; exact (aln a9 (1 : Int) krf krf h4))) (rp 9 [11, 12, 13, 14] (aal [true, true, true, true, true, true, true, true, true, true, true, true, true, true, true, true, false, false, false, false, false, false, false, false, false] 15 107 (str a1.1) [16, 17, 18, 19, 20, 21, 22, 23, 24] (fun _ _ _ h => h.2.1) _ rfl rfl krf krf krf krf krf rfl (aba rfl (by intro w hS_; exact (aga a0 0 (Zz8 a1.1 a1.2) 99 (str a1.1) hS_ rfl krf krf))) (by exact b3.blkAt 0 rfl) (rp 7 [16] (rt 17 (Vi .i64 (min (a9 + (1 : Int)) (a1.1.length : Int))) rfl rfl (aba rfl (by intro w hS_; exact (x_min .i64 (a9 + (1 : Int)) (a1.1.length : Int) krf krf))) (rt 18 (str (sub a1.1 a1.2 (min (a9 + (1 : Int)) (a1.1.length : Int)))) rfl rfl (aba rfl (by intro w hS_; exact (x_slice a1.1 .i64 .i64 a1.2 (min (a9 + (1 : Int)) (a1.1.length : Int)) underlying9 krf krf krf h5))) (ro 19 rfl (wc ent34 b3 (ahy h6 (hG.hp b3 hS)) fun k4 e0 => ?_)))))))))
 refine wl (abu (by exact ⟨aay.out rfl, aay.out rfl, trivial⟩) (rp 0 [20, 21, 22, 23] (adn krf (wp 1 (nq (cs (sr ?_)))))))
 refine wp 2 (nq (cb hr (fun h7 hr => ?_) (fun h7 hr => ?_)))
 refine cs (aeh 6 (fun j_ w_ w_' => aay [6, 7] (fun w' => w'.heap[a0]? = some (.cells (Zz8 a1.1 a1.2).toArray 99 (0, 0))) j_ w_ w_' ∧ True) (Zz92) (fun _ _ => ⟨aay.same, trivial⟩) krf krf e0 rfl (ade (ade (aak (ade adb)))) fun k5 e1 => rp 2 [0, 1, 2, 3] (aal (Zz101) 4 120 (Vi .i64 a1.2) [6, 7] (fun _ _ _ h => h.1) _ rfl rfl krf krf krf krf krf rfl (aba rfl (by intro w hS_; exact (aga a0 1 (Zz8 a1.1 a1.2) 99 (Vi .i64 a1.2) hS_ rfl krf krf))) (by exact e1.blkAt 0 rfl) (ro 5 rfl (ahq e1 2 b1 0 (Zz6) (Zz6) 65 (Zz80 a0 a1.1 a1.2 a3 a2 b1) rfl nbe krf krf rfl krf rfl fun k6 c5 => wl (abu (by exact ⟨aay.new (c5.blkAt 0 rfl), trivial⟩) (adn krf (wp 2 ?_)))))))
 refine nq (ct (st (bt_ (st ?_))))
 obtain rfl := oi hr
 refine aov _ [(zan #[(str ([] : Str)), (str ([] : Str)), (Vb false)]), (Vi .i64 a1.2), (bt (5 : UInt8))] (zak #[(zan #[(str ([] : Str)), (str ([] : Str)), (Vb false)]), (Vi .i64 a1.2), (bt (5 : UInt8))]) rfl rfl (abe (ahu c5 2 b1 65 (Zz6) rfl krf krf krf) (abe (afd krf) (abe (afd krf) agr))) rfl ?_
 exact ⟨(by first | rfl | (simp; done) | (simp; omega)), c5.kp⟩
 refine ck (qn (cr (wp 3 (gi hr fun h8 hr => aae a9 (1 : Int) krf krf h8 (wp 1 (aib e0 1 a3 1 (Zz43 a2) 65 (str a8.1) (Zz82 a0 a1.1 a1.2 a3 a2 a8.1 b1) rfl (zaj (zad _) nbe) krf krf rfl krf rfl fun k7 h9 => wp 2 (aib h9 0 a0 1 (Zz8 a1.1 a1.2) 99 (Vi .i64 (a9 + (1 : Int))) [blk a0 (Zz44 a1.1 a9) 99, blk a3 (Zz39 a2 a8.1) 65, blk b1 (Zz6) 65] rfl (zaj (zad _) nbe) krf krf rfl krf rfl fun k8 e2 => ?_)))))))
 refine wl (bn (qn (sr (ant e2 1 a3 0 3 (Zz39 a2 a8.1) (Zz39 a2 a8.1) 65 rfl rfl rfl krf krf krf (ahq e2 2 b1 0 (Zz6) (Zz39 a2 a8.1) 65 [blk a0 (Zz44 a1.1 a9) 99, blk a3 (Zz39 a2 a8.1) 65, blk b1 (Zz39 a2 a8.1) 65] rfl nbe krf krf rfl krf rfl fun k9 e3 => wp 2 (nq ?_))))))
 refine ct ?_
 obtain rfl := oi hr
 refine aov _ [(zan #[(str a2), (str a8.1), (Vb true)]), (Vi .i64 (0 : Int)), (bt (0 : UInt8))] (zak #[(zan #[(str a2), (str a8.1), (Vb true)]), (Vi .i64 (0 : Int)), (bt (0 : UInt8))]) rfl rfl (abe (ahu e3 2 b1 65 (Zz39 a2 a8.1) rfl krf krf krf) (abe (afd krf) (abe (afd krf) agr))) rfl ?_
 exact ⟨(by first | rfl | (simp; done) | (simp; omega)), e3.kp⟩
 refine sr (wp 1 (bi hr fun a5 i0 hr => aat 156 #[] (Zz45 a0) _ ent156 krf krf (akb a0 i0 (hG.hp b2 hS) (b2.hand (L1 := (Zz40 a0 a1.1 a1.2)) (L2 := (Zz94 a3 a2 b1))) (b2.highs hG hS 1 rfl)) ?_))
 rintro _ i1 ⟨rfl, e4⟩
 have i2 : Hp w (abh (Zz40 a0 a4.1 a4.2)) (Zz80 a0 a5.2.1 a5.2.2 a3 a2 b1) i1 := Hp.callK (L1 := (Zz40 a0 a1.1 a1.2)) (L2 := (Zz94 a3 a2 b1)) b2 e4; clear e4
 refine wp 1 (aib i2 1 a3 1 (Zz43 a2) 65 (str a5.1) (Zz82 a0 a5.2.1 a5.2.2 a3 a2 a5.1 b1) rfl (zaj (zad _) nbe) krf krf rfl krf rfl fun l0 c2 => nq (sr (wp 1 (abs c2 1 a3 1 (Zz39 a2 a5.1) 65 (str a5.1) rfl rfl krf krf (wp 1 (wl ?_))))))
 refine qn (cd hr (fun i3 hr => ?_) (fun i3 hr => ?_))
 refine cs (aeh 6 (fun j_ w_ w_' => aay [6, 7] (fun w' => w'.heap[a0]? = some (.cells (Zz8 a5.2.1 a5.2.2).toArray 99 (0, 0))) j_ w_ w_' ∧ True) (Zz92) (fun _ _ => ⟨aay.same, trivial⟩) krf krf c2 rfl (ade (aak (ade adb))) fun l1 e5 => rp 2 [0, 1, 2, 3] (aal (Zz101) 4 50 (Vi .i64 a5.2.2) [6, 7] (fun _ _ _ h => h.1) _ rfl rfl krf krf krf krf krf rfl (aba rfl (by intro w hS_; exact (aga a0 1 (Zz8 a5.2.1 a5.2.2) 99 (Vi .i64 a5.2.2) hS_ rfl krf krf))) (by exact e5.blkAt 0 rfl) (ro 5 rfl (ahq e5 2 b1 0 (Zz6) (Zz6) 65 (Zz82 a0 a5.2.1 a5.2.2 a3 a2 a5.1 b1) rfl nbe krf krf rfl krf rfl fun l2 c6 => wl (abu (by exact ⟨aay.new (c6.blkAt 0 rfl), trivial⟩) (adn krf (wp 2 ?_)))))))
 refine nq (ct (bt_ (st ?_)))
 obtain rfl := oi hr
 refine aov _ [(zan #[(str ([] : Str)), (str ([] : Str)), (Vb false)]), (Vi .i64 a5.2.2), (bt (5 : UInt8))] (zak #[(zan #[(str ([] : Str)), (str ([] : Str)), (Vb false)]), (Vi .i64 a5.2.2), (bt (5 : UInt8))]) rfl rfl (abe (ahu c6 2 b1 65 (Zz6) rfl krf krf krf) (abe (afd krf) (abe (afd krf) agr))) rfl ?_
 exact ⟨(by first | rfl | (simp; done) | (simp; omega)), c6.kp⟩
 refine ck (bn (qn (sr (ant c2 1 a3 0 3 (Zz39 a2 a5.1) (Zz39 a2 a5.1) 65 rfl rfl rfl krf krf krf (ahq c2 2 b1 0 (Zz6) (Zz39 a2 a5.1) 65 [blk a0 (Zz8 a5.2.1 a5.2.2) 99, blk a3 (Zz39 a2 a5.1) 65, blk b1 (Zz39 a2 a5.1) 65] rfl nbe krf krf rfl krf rfl fun l3 e6 => wp 2 (nq ?_))))))
 refine ct ?_
 obtain rfl := oi hr
 refine aov _ [(zan #[(str a2), (str a5.1), (Vb true)]), (Vi .i64 (0 : Int)), (bt (0 : UInt8))] (zak #[(zan #[(str a2), (str a5.1), (Vb true)]), (Vi .i64 (0 : Int)), (bt (0 : UInt8))]) rfl rfl (abe (ahu e6 2 b1 65 (Zz39 a2 a5.1) rfl krf krf krf) (abe (afd krf) (abe (afd krf) agr))) rfl ?_
 exact ⟨(by first | rfl | (simp; done) | (simp; omega)), e6.kp⟩
theorem aql {fu : Nat} {s_0 : Str} {w : World} {r : ((List PQ) × Int × UInt8)} (hr : ahw fu s_0 = some r) (hG : Gl w) : CR prog 36 [(str s_0)] w fun v w' => ∃ (o0 : Option Nat), ∃ (a0 : Option Addr), ∃ (cap0 : Nat), v = (zak #[(Vs a0 r.1.length cap0), (Vi .i64 r.2.1), (bt r.2.2)]) ∧ Hp w [] [rwt aaa 65 3 o0 a0 cap0 r.1] w' := by
 have hH := Hp.refl w
 refine enter (k := 48) func36 rfl rfl nbe ?_
 unfold ahw at hr
 refine sr (wp 3 (nq (sr (wp 3 (adr hH [(str ([] : Str)), (Vi .i64 (0 : Int))] 99 (fun b => (Vp (some ⟨b, 0, none⟩))) rfl rfl krf fun b1 w2 d6 => ahq d6 0 b1 0 [(str ([] : Str)), (Vi .i64 (0 : Int))] [(str s_0), (Vi .i64 (0 : Int))] 99 [blk b1 [(str s_0), (Vi .i64 (0 : Int))] 99] rfl nbe krf krf rfl krf rfl fun w4 d7 => ?_)))))
 refine nq (sr (wp 1 (nq (ce (lpG (σ := Nat × (List PQ) × Str × Int × (Option Nat) × (Option Addr) × Nat) [2, 3, 4, 5, 6] (fun ⟨b4, a4, a9, b0, a7, a5, a6⟩ => [(6, (Vs a5 a4.length a6))]) (fun ⟨b4, a4, a9, b0, a7, a5, a6⟩ w' => Hp w [] (Zz67 b1 a9 b0 a7 a5 a6 a4) w' ∧ afo fu b4 a4 a9 b0 = some r) (fun ⟨b4, a4, a9, b0, a7, a5, a6⟩ => b4) (fu, ([] : List PQ), s_0, (0 : Int), none, none, 0) (by exact ⟨(Hp.front (Hp.nilrw d7 aaa 65 3 none) 1 _ rfl).kp, hr⟩) ?_ (mc krf (mc krf (mc krf (mc krf (mc (Eq.trans (b := (Vs none 0 0)) krf (aaj lsy)) rfl))))))))))
 rintro ⟨_ | b4, a4, a9, b0, a7, a5, a6⟩ f9 G ⟨b9, a3⟩
 · exact nzz a3
 rw [afo.eq_2] at a3
 refine ce (sr (bi a3 fun a2 d8 a3 => aat 88 #[] (Zz45 b1) _ ent88 krf krf (aet b1 d8 (hG.hp0 b9) (b9.hand (L1 := [blk b1 (Zz8 a9 b0) 99]) (L2 := (Zz10 a7 a5 a6 a4))) (b9.highs hG (fun _ h => absurd h (by simp)) 1 rfl)) ?_))
 rintro _ d9 ⟨rfl, c6⟩
 have c0 : Hp w [] (Zz67 b1 a2.1 a2.2 a7 a5 a6 a4) d9 := Hp.callK (L1 := [blk b1 (Zz8 a9 b0) 99]) (L2 := (Zz10 a7 a5 a6 a4)) b9 c6; clear c6
 refine nq (cs (sr (bi a3 fun g0 e0 a3 => aat 89 #[] (Zz45 b1) _ ent89 krf krf (agn b1 e0 (hG.hp0 c0) (c0.hand (L1 := (Zz40 b1 a2.1 a2.2)) (L2 := (Zz10 a7 a5 a6 a4))) (c0.highs hG (fun _ h => absurd h (by simp)) 1 rfl)) ?_)))
 rintro _ e1 ⟨rfl, c7⟩
 have b5 : Hp w [] (Zz67 b1 a2.1 a2.2 a7 a5 a6 a4) e1 := Hp.callK (L1 := (Zz40 b1 a2.1 a2.2)) (L2 := (Zz10 a7 a5 a6 a4)) c0 c7; clear c7
 refine nq (cb a3 (fun e2 a3 => ?_) (fun e2 a3 => ?_))
 refine sr (wp 4 (nq (ct (st (bt_ (adg (bt_ ?_)))))))
 obtain rfl := oi a3
 refine aqp (Vs a5 a4.length a6) (Vi .i64 (0 : Int)) (bt (0 : UInt8)) rfl krf krf krf ?_
 exact ⟨a7, a5, a6, (by first | rfl | (simp; done) | (simp; omega)), (Hp.front b5 1 _ rfl).kp⟩
 refine ck (qn (cs (sr (bi a3 fun g1 e3 a3 => aat 90 #[] [(Vp (some ⟨b1, 0, none⟩)), (bt (59 : UInt8))] _ ent90 krf krf (act b1 e3 (hG.hp0 b5) (b5.hand (L1 := (Zz40 b1 a2.1 a2.2)) (L2 := (Zz10 a7 a5 a6 a4))) (b5.highs hG (fun _ h => absurd h (by simp)) 1 rfl)) ?_))))
 rintro _ e4 ⟨rfl, c8⟩
 have c2 : Hp w [] (Zz67 b1 a2.1 a2.2 a7 a5 a6 a4) e4 := Hp.callK (L1 := (Zz40 b1 a2.1 a2.2)) (L2 := (Zz10 a7 a5 a6 a4)) b5 c8; clear c8
 refine wp 1 (nq (cb a3 (fun e5 a3 => ?_) (fun e5 a3 => ?_)))
 refine cs (aeh 3 (fun j_ w_ w_' => aay [3, 4] (fun w' => w'.heap[b1]? = some (.cells (Zz8 a2.1 a2.2).toArray 99 (0, 0))) j_ w_ w_' ∧ True) [false, false, false, false, false] (fun _ _ => ⟨aay.same, trivial⟩) krf krf c2 rfl (ade (ade (aak (aam (aak adb))))) fun g2 c9 => rp 2 [0] (aal [true, true, false, false, false] 1 20 (Vi .i64 a2.2) [3, 4] (fun _ _ _ h => h.1) _ rfl rfl krf krf krf krf krf rfl (aba rfl (by intro w hS_; exact (aga b1 1 (Zz8 a2.1 a2.2) 99 (Vi .i64 a2.2) hS_ rfl krf krf))) (by exact c9.blkAt 0 rfl) (rp 0 [2] (adn krf (wp 2 (nq (ct ?_)))))))
 refine st (bt_ (adg (bt_ ?_)))
 obtain rfl := oi a3
 refine aqp (Vs none 0 0) (Vi .i64 a2.2) (bt (5 : UInt8)) rfl krf krf krf ?_
 exact ⟨none, none, 0, (by first | rfl | (simp; done) | (simp; omega)), (Hp.nilrw c9 aaa 65 3 none).kp⟩
 refine ck (qn (sr (wp 1 (abs c2 0 b1 1 (Zz8 a2.1 a2.2) 99 (Vi .i64 a2.2) rfl rfl krf krf (gi a3 fun e6 a3 => aae a2.2 (1 : Int) krf krf e6 (wp 1 (aib c2 0 b1 1 (Zz8 a2.1 a2.2) 99 (Vi .i64 (a2.2 + (1 : Int))) [blk b1 (Zz44 a2.1 a2.2) 99, rwt aaa 65 3 a7 a5 a6 a4] rfl (zaj (zad _) nbe) krf krf rfl krf rfl fun g3 c1 => ?_)))))))
 refine nq (sr (bi a3 fun a8 e7 a3 => aat 88 #[] (Zz45 b1) _ ent88 krf krf (aet b1 e7 (hG.hp0 c1) (c1.hand (L1 := [blk b1 (Zz44 a2.1 a2.2) 99]) (L2 := (Zz10 a7 a5 a6 a4))) (c1.highs hG (fun _ h => absurd h (by simp)) 1 rfl)) ?_))
 rintro _ e8 ⟨rfl, d0⟩
 have b6 : Hp w [] (Zz67 b1 a8.1 a8.2 a7 a5 a6 a4) e8 := Hp.callK (L1 := [blk b1 (Zz44 a2.1 a2.2) 99]) (L2 := (Zz10 a7 a5 a6 a4)) c1 d0; clear d0
 refine nq (sr (wp 1 (abs b6 0 b1 1 (Zz8 a8.1 a8.2) 99 (Vi .i64 a8.2) rfl rfl krf krf (wp 1 (nq (cs ?_))))))
 refine cr (bi a3 fun a1 e9 a3 => aat 91 #[] (Zz45 b1) _ ent91 krf krf (aqu b1 e9 (hG.hp0 b6) (b6.hand (L1 := (Zz40 b1 a8.1 a8.2)) (L2 := (Zz10 a7 a5 a6 a4))) (b6.highs hG (fun _ h => absurd h (by simp)) 1 rfl)) ?_)
 rintro _ f0 ⟨rfl, d1⟩
 have f1 : Hp w [] (Zz67 b1 a1.2.2.2.1 a1.2.2.2.2 a7 a5 a6 a4) f0 := Hp.callK (L1 := (Zz40 b1 a8.1 a8.2)) (L2 := (Zz10 a7 a5 a6 a4)) b6 d1; clear d1
 refine wp 4 (adr f1 (Zz6) 65 (fun b => (Vp (some ⟨b, 0, none⟩))) rfl rfl krf fun b7 g4 f2 => ahq f2 0 b7 0 (Zz6) (Zz42 a1.1.1 a1.1.2.1 a1.1.2.2) 65 [blk b7 (Zz42 a1.1.1 a1.1.2.1 a1.1.2.2) 65, blk b1 (Zz8 a1.2.2.2.1 a1.2.2.2.2) 99, rwt aaa 65 3 a7 a5 a6 a4] rfl nbe krf krf rfl krf rfl fun g5 b2 => wp 2 (nq (bi a3 fun b8 b3 a3 => age b2 [2, 3, 4, 5, 6, 8, 9, 10] [(9, (Vi .i64 b8.1)), (10, (bt b8.2))] ?_ ?_)))
 refine sr (wp 1 (acx a1.2.2.1 (0 : UInt8) krf krf (nq (cd b3 (fun f3 b3 => ?_) (fun f3 b3 => ?_)))))
 refine cr (wp 3 (abs b2 0 b7 0 (Zz42 a1.1.1 a1.1.2.1 a1.1.2.2) 65 (str a1.1.1) rfl rfl krf krf (bi b3 fun g6 f4 b3 => wc ent92 b2 (K_L_address_room a5 a4.length a6 f4 (hG.hp0 b2) rfl (b2.rdrw 2 rfl) (b2.rwcap 2 rfl)) fun g7 f5 => wp 2 (wl (ql ?_)))))
 obtain rfl := oi b3
 exact je (Hp.front (Hp.front (Hp.front f5 2 _ rfl) 2 _ rfl) 2 _ rfl).kp
 refine ck (ql ?_)
 obtain rfl := oi b3
 exact je (Hp.front (Hp.front (Hp.front b2 2 _ rfl) 2 _ rfl) 2 _ rfl).kp
 intro g8 G c3
 refine cs (sr (wp 1 (afp b8.2 (0 : UInt8) krf krf (nq (cn a3 (fun f6 a3 => ?_) (fun f6 a3 => ?_))))))
 refine sr (wp 5 (nq (ct (st (bt_ (adg (bt_ ?_)))))))
 obtain rfl := oi a3
 refine aqp (Vs none 0 0) (Vi .i64 b8.1) (bt b8.2) rfl krf krf krf ?_
 exact ⟨none, none, 0, (by first | rfl | (simp; done) | (simp; omega)), (Hp.nilrw c3 aaa 65 3 none).kp⟩
 refine ck (qn (cr (wp 1 (ant c3 0 b7 0 3 (Zz42 a1.1.1 a1.1.2.1 a1.1.2.2) (Zz42 a1.1.1 a1.1.2.1 a1.1.2.2) 65 rfl rfl rfl krf krf krf (adr c3 (Zz42 a1.1.1 a1.1.2.1 a1.1.2.2) 65 (fun b => (Vs (some ⟨b, 0, none⟩) 1 1)) rfl rfl krf fun c4 g9 d2 => gi a3 fun f7 a3 => adm d2 3 a7 a5 (some ⟨c4, 0, none⟩) a6 1 65 3 40 a4 ([a1.1] : List PQ) aab rfl underlying22 (by unfold TI; kernel_rfl) (by decide) (by decide) krf (Eq.trans (b := (Vs (some ⟨c4, 0, none⟩) 1 1)) krf (aaj (by first | rfl | (simp; done) | omega | (simp; omega) | (rw [zah]; omega)))) (d2.rdblk 0 rfl) f7 fun d3 d4 d5 f8 c5 => ?_)))))
 replace c5 : Hp w [] [blk c4 (Zz42 a1.1.1 a1.1.2.1 a1.1.2.2) 65, blk b7 (Zz42 a1.1.1 a1.1.2.1 a1.1.2.2) 65, blk b1 (Zz8 a1.2.2.2.1 a1.2.2.2.2) 99, rwt aaa 65 3 d3 d4 d5 (a4 ++ ([a1.1] : List PQ))] f8 := c5
 refine wp 1 (wl (bn (ql ?_)))
 exact ⟨(b4, a4 ++ ([a1.1] : List PQ), a1.2.2.2.1, a1.2.2.2.2, d3, d4, d5), _, rfl, by kernel_rfl, ⟨(Hp.front (Hp.front c5 3 _ rfl) 3 _ rfl).kp, a3⟩, zad _⟩
open Go.Value renaming agg → zan, tuple → zak
open List renaming drop → zam, flatMap → zai, length_take → zah
theorem ent27 : Wk.Enters prog 27 := ⟨f27, _, func27, rfl, krf⟩
theorem ent36 : Wk.Enters prog 36 := ⟨f36, _, func36, rfl, krf⟩
theorem ent60 : Wk.Enters prog 60 := ⟨f60, _, func60, rfl, krf⟩
theorem ent84 : Wk.Enters prog 84 := ⟨f84, _, func84, rfl, krf⟩
theorem ent121 : Wk.Enters prog 121 := ⟨f121, _, func121, rfl, krf⟩
theorem ent122 : Wk.Enters prog 122 := ⟨f122, _, func122, rfl, krf⟩
theorem ent165 : Wk.Enters prog 165 := ⟨f165, _, func165, rfl, krf⟩
theorem ent175 : Wk.Enters prog 175 := ⟨f175, _, func175, rfl, krf⟩
theorem ent177 : Wk.Enters prog 177 := ⟨f177, _, func177, rfl, krf⟩
theorem ent216 : Wk.Enters prog 216 := ⟨f216, _, func216, rfl, krf⟩
theorem are {fu : Nat} {s_0 : Str} {w : World} {r : ((Str × (Str × Str × Str × Int × (List PQ) × (List PQ)) × (List PQ)) × Int × UInt8)} (hr : alc fu s_0 = some r) (hG : Gl w) : CR prog 60 [(str s_0)] w fun v w' => ∃ (o0 : Option Nat), ∃ (a0 : Option Addr), ∃ (cap0 : Nat), ∃ (o1 : Option Nat), ∃ (a1 : Option Addr), ∃ (cap1 : Nat), ∃ (o2 : Option Nat), ∃ (a2 : Option Addr), ∃ (cap2 : Nat), v = (zak #[(zan #[(str r.1.1), (str r.1.2.1.1), (str r.1.2.1.2.1), (str r.1.2.1.2.2.1), (Vi .i64 r.1.2.1.2.2.2.1), (Vs a0 r.1.2.1.2.2.2.2.1.length cap0), (Vs a1 r.1.2.1.2.2.2.2.2.length cap1), (Vs a2 r.1.2.2.length cap2)]), (Vi .i64 r.2.1), (bt r.2.2)]) ∧ Hp w [] [rwt aaa 65 3 o0 a0 cap0 r.1.2.1.2.2.2.2.1, rwt aaa 65 3 o1 a1 cap1 r.1.2.1.2.2.2.2.2, rwt aaa 65 3 o2 a2 cap2 r.1.2.2] w' := by
 have hH := Hp.refl w
 refine enter (k := 66) func60 rfl rfl nbe ?_
 unfold alc at hr
 refine sr (adr hH (Zz1) 38 (fun b => (Vp (some ⟨b, 0, none⟩))) rfl rfl krf fun b1 w2 f0 => wp 2 (nq (cs (sr (wp 3 ?_)))))
 refine nq (cd hr (fun h4 hr => ?_) (fun h4 hr => ?_))
 exact nzz hr
 refine ck (qn (sr (wp 3 (adr f0 [(str s_0), (Vi .i64 (0 : Int))] 99 (fun b => (Vp (some ⟨b, 0, none⟩))) rfl rfl krf fun b5 w6 d1 => wp 1 (nq (cs ?_))))))
 refine cr (wp 1 (bi hr fun y8 f1 hr => aat 88 #[] (Zz45 b5) _ ent88 krf krf (aet b5 f1 (hG.hp0 d1) (d1.hand (L1 := [blk b5 [(str s_0), (Vi .i64 (0 : Int))] 99]) (L2 := [blk b1 (Zz1) 38])) (d1.highs hG (fun _ h => absurd h (by simp)) 1 rfl)) ?_))
 rintro _ f2 ⟨rfl, e1⟩
 have f3 : Hp w [] [blk b5 (Zz8 y8.1 y8.2) 99, blk b1 (Zz1) 38] f2 := Hp.callK (L1 := [blk b5 [(str s_0), (Vi .i64 (0 : Int))] 99]) (L2 := [blk b1 (Zz1) 38]) d1 e1; clear e1
 refine nq (sr (adr f3 (Zz1) 38 (fun b => (Vp (some ⟨b, 0, none⟩))) rfl rfl krf fun a5 f4 f5 => nq (sr (wp 2 ?_))))
 refine nq (cs (sr (wp 1 (bi hr fun i1 f6 hr => ?_))))
 have d2 : Hp w [] [blk b5 (Zz8 y8.1 y8.2) 99, blk a5 (Zz1) 38, blk b1 (Zz1) 38] f4 := f5.front 1 _ rfl
 refine aat 90 #[] [(Vp (some ⟨b5, 0, none⟩)), (bt (34 : UInt8))] _ ent90 krf krf (act b5 f6 (hG.hp0 d2) (d2.hand (L1 := (Zz40 b5 y8.1 y8.2)) (L2 := [blk a5 (Zz1) 38, blk b1 (Zz1) 38])) (d2.highs hG (fun _ h => absurd h (by simp)) 1 rfl)) ?_
 rintro _ e2 ⟨rfl, e3⟩
 have e4 : Hp w [] [blk b5 (Zz8 y8.1 y8.2) 99, blk a5 (Zz1) 38, blk b1 (Zz1) 38] e2 := Hp.callK (L1 := (Zz40 b5 y8.1 y8.2)) (L2 := [blk a5 (Zz1) 38, blk b1 (Zz1) 38]) d2 e3; clear e3
 refine nq (cb hr (fun f7 hr => ?_) (fun f7 hr => ?_))
 exact nzz hr
 refine sr (wp 1 (gi hr fun f8 hr => aat 84 #[] [(str s_0), (str ([60] : Str))] _ ent84 krf krf (sh_Contains s_0 ([60] : Str) e2 f8 (hG.hp0 e4)) ?_))
 rintro _ c6 ⟨rfl, e5⟩
 have f9 := e4.call e5; clear e5
 refine nq (cb hr (fun g0 hr => ?_) (fun g0 hr => ?_))
 refine cr (wp 1 ?_)
 have d6 := f9.nilrw aaa 65 3 none
 replace d6 : Hp w [] [rwt aaa 65 3 none none 0 ([] : List PQ), blk b5 (Zz8 y8.1 y8.2) 99, blk a5 (Zz1) 38, blk b1 (Zz1) 38] c6 := d6
 have d7 := d6.nilrw aaa 65 3 none
 replace d7 : Hp w [] [rwt aaa 65 3 none none 0 ([] : List PQ), rwt aaa 65 3 none none 0 ([] : List PQ), blk b5 (Zz8 y8.1 y8.2) 99, blk a5 (Zz1) 38, blk b1 (Zz1) 38] c6 := d7
 have d8 := d7.nilrw aaa 65 3 none
 replace d8 : Hp w [] [rwt aaa 65 3 none none 0 ([] : List PQ), rwt aaa 65 3 none none 0 ([] : List PQ), rwt aaa 65 3 none none 0 ([] : List PQ), blk b5 (Zz8 y8.1 y8.2) 99, blk a5 (Zz1) 38, blk b1 (Zz1) 38] c6 := d8
 refine bi hr fun a4 g1 hr => ?_
 have g2 : Hp w [] [rwt aaa 65 3 none none 0 ([] : List PQ), rwt aaa 65 3 none none 0 ([] : List PQ), rwt aaa 65 3 none none 0 ([] : List PQ), blk b5 (Zz8 y8.1 y8.2) 99, blk a5 (Zz1) 38, blk b1 (Zz1) 38] c6 := d8.front 1 _ rfl
 have g3 : Hp w [] [rwt aaa 65 3 none none 0 ([] : List PQ), rwt aaa 65 3 none none 0 ([] : List PQ), rwt aaa 65 3 none none 0 ([] : List PQ), blk b5 (Zz8 y8.1 y8.2) 99, blk a5 (Zz1) 38, blk b1 (Zz1) 38] c6 := g2.front 2 _ rfl
 have g4 : Hp w [] [blk a5 (Zz1) 38, rwt aaa 65 3 none none 0 ([] : List PQ), rwt aaa 65 3 none none 0 ([] : List PQ), rwt aaa 65 3 none none 0 ([] : List PQ), blk b5 (Zz8 y8.1 y8.2) 99, blk b1 (Zz1) 38] c6 := g3.front 4 _ rfl
 have d3 : Hp w [] [blk b5 (Zz8 y8.1 y8.2) 99, blk a5 (Zz1) 38, rwt aaa 65 3 none none 0 ([] : List PQ), rwt aaa 65 3 none none 0 ([] : List PQ), rwt aaa 65 3 none none 0 ([] : List PQ), blk b1 (Zz1) 38] c6 := g4.front 4 _ rfl
 refine aat 121 #[] (Zz98 b5 a5) _ ent121 krf krf (apj b5 a5 none none 0 none none 0 none none 0 g1 (hG.hp0 d3) (d3.hand (L1 := [blk b5 (Zz8 y8.1 y8.2) 99, blk a5 (Zz1) 38, rwt aaa 65 3 none none 0 ([] : List PQ), rwt aaa 65 3 none none 0 ([] : List PQ), rwt aaa 65 3 none none 0 ([] : List PQ)]) (L2 := [blk b1 (Zz1) 38])) (d3.highs hG (fun _ h => absurd h (by simp)) 5 rfl)) ?_
 rintro _ c7 ⟨c1, b0, b2, c2, b3, b4, c3, b6, b7, rfl, e6⟩
 have g5 : Hp w [] [blk b5 (Zz8 a4.2.2.1.1 a4.2.2.1.2) 99, blk a5 (Zz5 a4.2.2.2.1 a4.2.2.2.2.1.1 a4.2.2.2.2.1.2.1 a4.2.2.2.2.1.2.2.1 a4.2.2.2.2.1.2.2.2.1 b0 a4.2.2.2.2.1.2.2.2.2.1.length b2 b3 a4.2.2.2.2.1.2.2.2.2.2.length b4 b6 a4.2.2.2.2.2.length b7) 38, rwt aaa 65 3 c1 b0 b2 a4.2.2.2.2.1.2.2.2.2.1, rwt aaa 65 3 c2 b3 b4 a4.2.2.2.2.1.2.2.2.2.2, rwt aaa 65 3 c3 b6 b7 a4.2.2.2.2.2, blk b1 (Zz1) 38] c7 := Hp.callK (L1 := [blk b5 (Zz8 y8.1 y8.2) 99, blk a5 (Zz1) 38, rwt aaa 65 3 none none 0 ([] : List PQ), rwt aaa 65 3 none none 0 ([] : List PQ), rwt aaa 65 3 none none 0 ([] : List PQ)]) (L2 := [blk b1 (Zz1) 38]) d3 e6; clear e6
 refine wp 5 (nq (cs (sr (wp 1 (acx a4.2.1 (0 : UInt8) krf krf (nq (cd hr (fun g6 hr => ?_) (fun g6 hr => ?_))))))))
 refine cr (wp 1 (bi hr fun a3 g7 hr => ?_))
 have g8 : Hp w [] [rwt aaa 65 3 c3 b6 b7 a4.2.2.2.2.2, blk b5 (Zz8 a4.2.2.1.1 a4.2.2.1.2) 99, blk a5 (Zz5 a4.2.2.2.1 a4.2.2.2.2.1.1 a4.2.2.2.2.1.2.1 a4.2.2.2.2.1.2.2.1 a4.2.2.2.2.1.2.2.2.1 b0 a4.2.2.2.2.1.2.2.2.2.1.length b2 b3 a4.2.2.2.2.1.2.2.2.2.2.length b4 b6 a4.2.2.2.2.2.length b7) 38, rwt aaa 65 3 c1 b0 b2 a4.2.2.2.2.1.2.2.2.2.1, rwt aaa 65 3 c2 b3 b4 a4.2.2.2.2.1.2.2.2.2.2, blk b1 (Zz1) 38] c7 := g5.front 4 _ rfl
 have g9 : Hp w [] [rwt aaa 65 3 c2 b3 b4 a4.2.2.2.2.1.2.2.2.2.2, rwt aaa 65 3 c3 b6 b7 a4.2.2.2.2.2, blk b5 (Zz8 a4.2.2.1.1 a4.2.2.1.2) 99, blk a5 (Zz5 a4.2.2.2.1 a4.2.2.2.2.1.1 a4.2.2.2.2.1.2.1 a4.2.2.2.2.1.2.2.1 a4.2.2.2.2.1.2.2.2.1 b0 a4.2.2.2.2.1.2.2.2.2.1.length b2 b3 a4.2.2.2.2.1.2.2.2.2.2.length b4 b6 a4.2.2.2.2.2.length b7) 38, rwt aaa 65 3 c1 b0 b2 a4.2.2.2.2.1.2.2.2.2.1, blk b1 (Zz1) 38] c7 := g8.front 4 _ rfl
 have h0 : Hp w [] [rwt aaa 65 3 c1 b0 b2 a4.2.2.2.2.1.2.2.2.2.1, rwt aaa 65 3 c2 b3 b4 a4.2.2.2.2.1.2.2.2.2.2, rwt aaa 65 3 c3 b6 b7 a4.2.2.2.2.2, blk b5 (Zz8 a4.2.2.1.1 a4.2.2.1.2) 99, blk a5 (Zz5 a4.2.2.2.1 a4.2.2.2.2.1.1 a4.2.2.2.2.1.2.1 a4.2.2.2.2.1.2.2.1 a4.2.2.2.2.1.2.2.2.1 b0 a4.2.2.2.2.1.2.2.2.2.1.length b2 b3 a4.2.2.2.2.1.2.2.2.2.2.length b4 b6 a4.2.2.2.2.2.length b7) 38, blk b1 (Zz1) 38] c7 := g9.front 4 _ rfl
 have h1 : Hp w [] [blk a5 (Zz5 a4.2.2.2.1 a4.2.2.2.2.1.1 a4.2.2.2.2.1.2.1 a4.2.2.2.2.1.2.2.1 a4.2.2.2.2.1.2.2.2.1 b0 a4.2.2.2.2.1.2.2.2.2.1.length b2 b3 a4.2.2.2.2.1.2.2.2.2.2.length b4 b6 a4.2.2.2.2.2.length b7) 38, rwt aaa 65 3 c1 b0 b2 a4.2.2.2.2.1.2.2.2.2.1, rwt aaa 65 3 c2 b3 b4 a4.2.2.2.2.1.2.2.2.2.2, rwt aaa 65 3 c3 b6 b7 a4.2.2.2.2.2, blk b5 (Zz8 a4.2.2.1.1 a4.2.2.1.2) 99, blk b1 (Zz1) 38] c7 := h0.front 4 _ rfl
 have d4 : Hp w [] [blk b5 (Zz8 a4.2.2.1.1 a4.2.2.1.2) 99, blk a5 (Zz5 a4.2.2.2.1 a4.2.2.2.2.1.1 a4.2.2.2.2.1.2.1 a4.2.2.2.2.1.2.2.1 a4.2.2.2.2.1.2.2.2.1 b0 a4.2.2.2.2.1.2.2.2.2.1.length b2 b3 a4.2.2.2.2.1.2.2.2.2.2.length b4 b6 a4.2.2.2.2.2.length b7) 38, rwt aaa 65 3 c1 b0 b2 a4.2.2.2.2.1.2.2.2.2.1, rwt aaa 65 3 c2 b3 b4 a4.2.2.2.2.1.2.2.2.2.2, rwt aaa 65 3 c3 b6 b7 a4.2.2.2.2.2, blk b1 (Zz1) 38] c7 := h1.front 4 _ rfl
 refine aat 122 #[] (Zz98 b5 a5) _ ent122 krf krf (aqt b5 a5 c1 b0 b2 c2 b3 b4 c3 b6 b7 g7 (hG.hp0 d4) (d4.hand (L1 := [blk b5 (Zz8 a4.2.2.1.1 a4.2.2.1.2) 99, blk a5 (Zz5 a4.2.2.2.1 a4.2.2.2.2.1.1 a4.2.2.2.2.1.2.1 a4.2.2.2.2.1.2.2.1 a4.2.2.2.2.1.2.2.2.1 b0 a4.2.2.2.2.1.2.2.2.2.1.length b2 b3 a4.2.2.2.2.1.2.2.2.2.2.length b4 b6 a4.2.2.2.2.2.length b7) 38, rwt aaa 65 3 c1 b0 b2 a4.2.2.2.2.1.2.2.2.2.1, rwt aaa 65 3 c2 b3 b4 a4.2.2.2.2.1.2.2.2.2.2, rwt aaa 65 3 c3 b6 b7 a4.2.2.2.2.2]) (L2 := [blk b1 (Zz1) 38])) (d4.highs hG (fun _ h => absurd h (by simp)) 5 rfl)) ?_
 rintro _ h2 ⟨c8, a6, a7, c9, a8, a9, d0, c4, c5, rfl, e7⟩
 have d9 : Hp w [] [blk b5 (Zz8 a3.2.2.1.1 a3.2.2.1.2) 99, blk a5 (Zz5 a3.2.2.2.1 a3.2.2.2.2.1.1 a3.2.2.2.2.1.2.1 a3.2.2.2.2.1.2.2.1 a3.2.2.2.2.1.2.2.2.1 a6 a3.2.2.2.2.1.2.2.2.2.1.length a7 a8 a3.2.2.2.2.1.2.2.2.2.2.length a9 c4 a3.2.2.2.2.2.length c5) 38, rwt aaa 65 3 c8 a6 a7 a3.2.2.2.2.1.2.2.2.2.1, rwt aaa 65 3 c9 a8 a9 a3.2.2.2.2.1.2.2.2.2.2, rwt aaa 65 3 d0 c4 c5 a3.2.2.2.2.2, blk b1 (Zz1) 38] h2 := Hp.callK (L1 := [blk b5 (Zz8 a4.2.2.1.1 a4.2.2.1.2) 99, blk a5 (Zz5 a4.2.2.2.1 a4.2.2.2.2.1.1 a4.2.2.2.2.1.2.1 a4.2.2.2.2.1.2.2.1 a4.2.2.2.2.1.2.2.2.1 b0 a4.2.2.2.2.1.2.2.2.2.1.length b2 b3 a4.2.2.2.2.1.2.2.2.2.2.length b4 b6 a4.2.2.2.2.2.length b7) 38, rwt aaa 65 3 c1 b0 b2 a4.2.2.2.2.1.2.2.2.2.1, rwt aaa 65 3 c2 b3 b4 a4.2.2.2.2.1.2.2.2.2.2, rwt aaa 65 3 c3 b6 b7 a4.2.2.2.2.2]) (L2 := [blk b1 (Zz1) 38]) d4 e7; clear e7
 refine wp 5 (nq (cs (sr (wp 1 (acx a3.2.1 (0 : UInt8) krf krf (nq (cd hr (fun h3 hr => ?_) (fun h3 hr => ?_))))))))
 refine sr (wp 4 (abs d9 0 b5 1 (Zz8 a3.2.2.1.1 a3.2.2.1.2) 99 (Vi .i64 a3.2.2.1.2) rfl rfl krf krf (gi hr fun h5 hr => ahd s_0 .i64 a3.2.2.1.2 underlying9 krf krf h5 (bi hr fun b8 h6 hr => aat 36 #[] [(str (zam (zac a3.2.2.1.2) s_0))] _ ent36 krf krf (aql h6 (hG.hp0 d9)) ?_))))
 rintro _ h7 ⟨d5, b9, c0, rfl, e8⟩
 have h8 : Hp w [] [rwt aaa 65 3 d5 b9 c0 b8.1, blk b5 (Zz8 a3.2.2.1.1 a3.2.2.1.2) 99, blk a5 (Zz5 a3.2.2.2.1 a3.2.2.2.2.1.1 a3.2.2.2.2.1.2.1 a3.2.2.2.2.1.2.2.1 a3.2.2.2.2.1.2.2.2.1 a6 a3.2.2.2.2.1.2.2.2.2.1.length a7 a8 a3.2.2.2.2.1.2.2.2.2.2.length a9 c4 a3.2.2.2.2.2.length c5) 38, rwt aaa 65 3 c8 a6 a7 a3.2.2.2.2.1.2.2.2.2.1, rwt aaa 65 3 c9 a8 a9 a3.2.2.2.2.1.2.2.2.2.2, rwt aaa 65 3 d0 c4 c5 a3.2.2.2.2.2, blk b1 (Zz1) 38] h7 := Hp.callK (L1 := []) (L2 := [blk b5 (Zz8 a3.2.2.1.1 a3.2.2.1.2) 99, blk a5 (Zz5 a3.2.2.2.1 a3.2.2.2.2.1.1 a3.2.2.2.2.1.2.1 a3.2.2.2.2.1.2.2.1 a3.2.2.2.2.1.2.2.2.1 a6 a3.2.2.2.2.1.2.2.2.2.1.length a7 a8 a3.2.2.2.2.1.2.2.2.2.2.length a9 c4 a3.2.2.2.2.2.length c5) 38, rwt aaa 65 3 c8 a6 a7 a3.2.2.2.2.1.2.2.2.2.1, rwt aaa 65 3 c9 a8 a9 a3.2.2.2.2.1.2.2.2.2.2, rwt aaa 65 3 d0 c4 c5 a3.2.2.2.2.2, blk b1 (Zz1) 38]) d9 e8; clear e8
 refine wp 5 (aib h8 2 a5 7 (Zz5 a3.2.2.2.1 a3.2.2.2.2.1.1 a3.2.2.2.2.1.2.1 a3.2.2.2.2.1.2.2.1 a3.2.2.2.2.1.2.2.2.1 a6 a3.2.2.2.2.1.2.2.2.2.1.length a7 a8 a3.2.2.2.2.1.2.2.2.2.2.length a9 c4 a3.2.2.2.2.2.length c5) 38 (Vs b9 b8.1.length c0) [rwt aaa 65 3 d5 b9 c0 b8.1, blk b5 (Zz8 a3.2.2.1.1 a3.2.2.1.2) 99, blk a5 (Zz5 a3.2.2.2.1 a3.2.2.2.2.1.1 a3.2.2.2.2.1.2.1 a3.2.2.2.2.1.2.2.1 a3.2.2.2.2.1.2.2.2.1 a6 a3.2.2.2.2.1.2.2.2.2.1.length a7 a8 a3.2.2.2.2.1.2.2.2.2.2.length a9 b9 b8.1.length c0) 38, rwt aaa 65 3 c8 a6 a7 a3.2.2.2.2.1.2.2.2.2.1, rwt aaa 65 3 c9 a8 a9 a3.2.2.2.2.1.2.2.2.2.2, rwt aaa 65 3 d0 c4 c5 a3.2.2.2.2.2, blk b1 (Zz1) 38] rfl (zaj (zad _) nbe) krf krf rfl krf rfl fun i2 e0 => wp 2 (nq (cr (wp 4 (abs e0 1 b5 1 (Zz8 a3.2.2.1.1 a3.2.2.1.2) 99 (Vi .i64 a3.2.2.1.2) rfl rfl krf krf (gi hr fun h9 hr => aae b8.2.1 a3.2.2.1.2 krf krf h9 ?_))))))
 refine wp 1 (nq (cs (sr (wp 1 (afp b8.2.2 (0 : UInt8) krf krf (nq (cn hr (fun i0 hr => ?_) (fun i0 hr => ?_))))))))
 exact nzz hr
 refine ck (qn (sr (ant e0 2 a5 0 8 (Zz5 a3.2.2.2.1 a3.2.2.2.2.1.1 a3.2.2.2.2.1.2.1 a3.2.2.2.2.1.2.2.1 a3.2.2.2.2.1.2.2.2.1 a6 a3.2.2.2.2.1.2.2.2.2.1.length a7 a8 a3.2.2.2.2.1.2.2.2.2.2.length a9 b9 b8.1.length c0) (Zz5 a3.2.2.2.1 a3.2.2.2.2.1.1 a3.2.2.2.2.1.2.1 a3.2.2.2.2.1.2.2.1 a3.2.2.2.2.1.2.2.2.1 a6 a3.2.2.2.2.1.2.2.2.2.1.length a7 a8 a3.2.2.2.2.1.2.2.2.2.2.length a9 b9 b8.1.length c0) 38 rfl rfl rfl krf krf krf (ahq e0 6 b1 0 (Zz1) (Zz5 a3.2.2.2.1 a3.2.2.2.2.1.1 a3.2.2.2.2.1.2.1 a3.2.2.2.2.1.2.2.1 a3.2.2.2.2.1.2.2.2.1 a6 a3.2.2.2.2.1.2.2.2.2.1.length a7 a8 a3.2.2.2.2.1.2.2.2.2.2.length a9 b9 b8.1.length c0) 38 [rwt aaa 65 3 d5 b9 c0 b8.1, blk b5 (Zz8 a3.2.2.1.1 a3.2.2.1.2) 99, blk a5 (Zz5 a3.2.2.2.1 a3.2.2.2.2.1.1 a3.2.2.2.2.1.2.1 a3.2.2.2.2.1.2.2.1 a3.2.2.2.2.1.2.2.2.1 a6 a3.2.2.2.2.1.2.2.2.2.1.length a7 a8 a3.2.2.2.2.1.2.2.2.2.2.length a9 b9 b8.1.length c0) 38, rwt aaa 65 3 c8 a6 a7 a3.2.2.2.2.1.2.2.2.2.1, rwt aaa 65 3 c9 a8 a9 a3.2.2.2.2.1.2.2.2.2.2, rwt aaa 65 3 d0 c4 c5 a3.2.2.2.2.2, blk b1 (Zz5 a3.2.2.2.1 a3.2.2.2.2.1.1 a3.2.2.2.2.1.2.1 a3.2.2.2.2.1.2.2.1 a3.2.2.2.2.1.2.2.2.1 a6 a3.2.2.2.2.1.2.2.2.2.1.length a7 a8 a3.2.2.2.2.1.2.2.2.2.2.length a9 b9 b8.1.length c0) 38] rfl nbe krf krf rfl krf rfl fun i3 e9 => wp 2 (nq (ct ?_))))))
 obtain rfl := oi hr
 refine aov _ [(zan #[(str a3.2.2.2.1), (str a3.2.2.2.2.1.1), (str a3.2.2.2.2.1.2.1), (str a3.2.2.2.2.1.2.2.1), (Vi .i64 a3.2.2.2.2.1.2.2.2.1), (Vs a6 a3.2.2.2.2.1.2.2.2.2.1.length a7), (Vs a8 a3.2.2.2.2.1.2.2.2.2.2.length a9), (Vs b9 b8.1.length c0)]), (Vi .i64 (0 : Int)), (bt (0 : UInt8))] (zak #[(zan #[(str a3.2.2.2.1), (str a3.2.2.2.2.1.1), (str a3.2.2.2.2.1.2.1), (str a3.2.2.2.2.1.2.2.1), (Vi .i64 a3.2.2.2.2.1.2.2.2.1), (Vs a6 a3.2.2.2.2.1.2.2.2.2.1.length a7), (Vs a8 a3.2.2.2.2.1.2.2.2.2.2.length a9), (Vs b9 b8.1.length c0)]), (Vi .i64 (0 : Int)), (bt (0 : UInt8))]) rfl rfl (abe (ahu e9 6 b1 38 (Zz5 a3.2.2.2.1 a3.2.2.2.2.1.1 a3.2.2.2.2.1.2.1 a3.2.2.2.2.1.2.2.1 a3.2.2.2.2.1.2.2.2.1 a6 a3.2.2.2.2.1.2.2.2.2.1.length a7 a8 a3.2.2.2.2.1.2.2.2.2.2.length a9 b9 b8.1.length c0) rfl krf krf krf) (abe (afd krf) (abe (afd krf) agr))) rfl ?_
 exact ⟨c8, a6, a7, c9, a8, a9, d5, b9, c0, (by first | rfl | (simp; done) | (simp; omega)), (Hp.front (Hp.front e9 4 _ rfl) 4 _ rfl).kp⟩
 exact nzz hr
 exact nzz hr
 exact nzz hr
theorem K_L_header_Address {fu : Nat} {b4 : Str} {w : World} {r : ((Str × (Str × Str × Str × Int × (List PQ) × (List PQ)) × (List PQ)) × UInt8)} (hr : aoy fu b4 = some r) (hG : Gl w) : CR prog 14 [(str b4)] w fun v w' => ∃ (o0 : Option Nat), ∃ (a0 : Option Addr), ∃ (cap0 : Nat), ∃ (o1 : Option Nat), ∃ (a1 : Option Addr), ∃ (cap1 : Nat), ∃ (o2 : Option Nat), ∃ (a2 : Option Addr), ∃ (cap2 : Nat), v = (zak #[(zan #[(str r.1.1), (str r.1.2.1.1), (str r.1.2.1.2.1), (str r.1.2.1.2.2.1), (Vi .i64 r.1.2.1.2.2.2.1), (Vs a0 r.1.2.1.2.2.2.2.1.length cap0), (Vs a1 r.1.2.1.2.2.2.2.2.length cap1), (Vs a2 r.1.2.2.length cap2)]), (bt r.2)]) ∧ Hp w [] [rwt aaa 65 3 o0 a0 cap0 r.1.2.1.2.2.2.2.1, rwt aaa 65 3 o1 a1 cap1 r.1.2.1.2.2.2.2.2, rwt aaa 65 3 o2 a2 cap2 r.1.2.2] w' := by
 have hH := Hp.refl w
 refine enter (k := 16) func14 rfl rfl nbe ?_
 unfold aoy at hr
 refine sr (adr hH (Zz1) 38 (fun b => (Vp (some ⟨b, 0, none⟩))) rfl rfl krf fun b1 w2 b5 => wp 1 (nq (sr (wp 1 (bi hr fun y4 c0 hr => ?_)))))
 refine wc ent27 b5 (anq c0 (hG.hp0 b5)) fun w6 b6 => bi hr fun y9 c1 hr => aat 60 #[] [(str y4)] _ ent60 krf krf (are c1 (hG.hp0 b6)) ?_
 rintro _ c2 ⟨a9, a3, a4, b0, a5, a6, b2, a7, a8, rfl, b7⟩
 have c3 : Hp w [] [rwt aaa 65 3 a9 a3 a4 y9.1.2.1.2.2.2.2.1, rwt aaa 65 3 b0 a5 a6 y9.1.2.1.2.2.2.2.2, rwt aaa 65 3 b2 a7 a8 y9.1.2.2, blk b1 (Zz1) 38] c2 := Hp.callK (L1 := []) (L2 := [blk b1 (Zz1) 38]) b6 b7; clear b7
 refine wp 4 (adr c3 (Zz1) 38 (fun b => (Vp (some ⟨b, 0, none⟩))) rfl rfl krf fun b3 c5 c4 => ahq c4 0 b3 0 (Zz1) (Zz5 y9.1.1 y9.1.2.1.1 y9.1.2.1.2.1 y9.1.2.1.2.2.1 y9.1.2.1.2.2.2.1 a3 y9.1.2.1.2.2.2.2.1.length a4 a5 y9.1.2.1.2.2.2.2.2.length a6 a7 y9.1.2.2.length a8) 38 [blk b3 (Zz5 y9.1.1 y9.1.2.1.1 y9.1.2.1.2.1 y9.1.2.1.2.2.1 y9.1.2.1.2.2.2.1 a3 y9.1.2.1.2.2.2.2.1.length a4 a5 y9.1.2.1.2.2.2.2.2.length a6 a7 y9.1.2.2.length a8) 38, rwt aaa 65 3 a9 a3 a4 y9.1.2.1.2.2.2.2.1, rwt aaa 65 3 b0 a5 a6 y9.1.2.1.2.2.2.2.2, rwt aaa 65 3 b2 a7 a8 y9.1.2.2, blk b1 (Zz1) 38] rfl nbe krf krf rfl krf rfl fun c6 b8 => wp 2 (nq (sr (ant b8 0 b3 0 8 (Zz5 y9.1.1 y9.1.2.1.1 y9.1.2.1.2.1 y9.1.2.1.2.2.1 y9.1.2.1.2.2.2.1 a3 y9.1.2.1.2.2.2.2.1.length a4 a5 y9.1.2.1.2.2.2.2.2.length a6 a7 y9.1.2.2.length a8) (Zz5 y9.1.1 y9.1.2.1.1 y9.1.2.1.2.1 y9.1.2.1.2.2.1 y9.1.2.1.2.2.2.1 a3 y9.1.2.1.2.2.2.2.1.length a4 a5 y9.1.2.1.2.2.2.2.2.length a6 a7 y9.1.2.2.length a8) 38 rfl rfl rfl krf krf krf (wp 1 ?_)))))
 refine ahq b8 4 b1 0 (Zz1) (Zz5 y9.1.1 y9.1.2.1.1 y9.1.2.1.2.1 y9.1.2.1.2.2.1 y9.1.2.1.2.2.2.1 a3 y9.1.2.1.2.2.2.2.1.length a4 a5 y9.1.2.1.2.2.2.2.2.length a6 a7 y9.1.2.2.length a8) 38 [blk b3 (Zz5 y9.1.1 y9.1.2.1.1 y9.1.2.1.2.1 y9.1.2.1.2.2.1 y9.1.2.1.2.2.2.1 a3 y9.1.2.1.2.2.2.2.1.length a4 a5 y9.1.2.1.2.2.2.2.2.length a6 a7 y9.1.2.2.length a8) 38, rwt aaa 65 3 a9 a3 a4 y9.1.2.1.2.2.2.2.1, rwt aaa 65 3 b0 a5 a6 y9.1.2.1.2.2.2.2.2, rwt aaa 65 3 b2 a7 a8 y9.1.2.2, blk b1 (Zz5 y9.1.1 y9.1.2.1.1 y9.1.2.1.2.1 y9.1.2.1.2.2.1 y9.1.2.1.2.2.2.1 a3 y9.1.2.1.2.2.2.2.1.length a4 a5 y9.1.2.1.2.2.2.2.2.length a6 a7 y9.1.2.2.length a8) 38] rfl nbe krf krf rfl krf rfl fun c7 b9 => wp 1 (nq (ct ?_))
 obtain rfl := oi hr
 refine aov _ [(zan #[(str y9.1.1), (str y9.1.2.1.1), (str y9.1.2.1.2.1), (str y9.1.2.1.2.2.1), (Vi .i64 y9.1.2.1.2.2.2.1), (Vs a3 y9.1.2.1.2.2.2.2.1.length a4), (Vs a5 y9.1.2.1.2.2.2.2.2.length a6), (Vs a7 y9.1.2.2.length a8)]), (bt y9.2.2)] (zak #[(zan #[(str y9.1.1), (str y9.1.2.1.1), (str y9.1.2.1.2.1), (str y9.1.2.1.2.2.1), (Vi .i64 y9.1.2.1.2.2.2.1), (Vs a3 y9.1.2.1.2.2.2.2.1.length a4), (Vs a5 y9.1.2.1.2.2.2.2.2.length a6), (Vs a7 y9.1.2.2.length a8)]), (bt y9.2.2)]) rfl rfl (abe (ahu b9 4 b1 38 (Zz5 y9.1.1 y9.1.2.1.1 y9.1.2.1.2.1 y9.1.2.1.2.2.1 y9.1.2.1.2.2.2.1 a3 y9.1.2.1.2.2.2.2.1.length a4 a5 y9.1.2.1.2.2.2.2.2.length a6 a7 y9.1.2.2.length a8) rfl krf krf krf) (abe (afd krf) agr)) rfl ?_
 exact ⟨a9, a3, a4, b0, a5, a6, b2, a7, a8, (by first | rfl | (simp; done) | (simp; omega)), (Hp.front (Hp.front (Hp.front b9 3 _ rfl) 3 _ rfl) 3 _ rfl).kp⟩
theorem K_L_lexis_Quote {fu : Nat} {s_0 : Str} {w : World} {r : (Str × UInt8)} (hr : alx fu s_0 = some r) (hG : Gl w) : CR prog 69 [(str s_0)] w fun v w' => v = (zak #[(str r.1), (bt r.2)]) ∧ Hp w [] [] w' := by
 have hH := Hp.refl w
 refine enter (k := 44) func69 rfl rfl nbe ?_
 unfold alx at hr
 refine sr (wp 2 (nq (sr (wp 2 (gi hr fun g1 hr => aae (s_0.length : Int) (2 : Int) krf krf g1 ?_)))))
 refine gi hr fun g2 hr => w_makeT (f := eB) hH 5 1 1 .i64 .i64 ((s_0.length : Int) + (2 : Int)) underlying85 (by unfold TI; kernel_rfl) (by decide) krf krf g2 fun o3 a4 cap5 w6 e6 => wp 1 (nq (sr (wp 1 (adr e6 [(bt (34 : UInt8))] 5 (fun b => (Vs (some ⟨b, 0, none⟩) 1 1)) rfl rfl krf fun b8 w9 c8 => gi hr fun e7 hr => ?_))))
 refine adm c8 1 o3 a4 (some ⟨b8, 0, none⟩) cap5 1 5 1 1 ([] : List UInt8) ([(34 : UInt8)] : List UInt8) akh rfl underlying85 (by unfold TI; kernel_rfl) (by decide) (by decide) (Eq.trans (b := (Vs a4 0 cap5)) krf (aaj (by first | rfl | (simp; done) | omega | (simp; omega) | (rw [zah]; omega)))) (Eq.trans (b := (Vs (some ⟨b8, 0, none⟩) 1 1)) krf (aaj (by first | rfl | (simp; done) | omega | (simp; omega) | (rw [zah]; omega)))) (c8.rdblk 0 rfl) e7 fun c9 d0 d1 e8 c1 => ?_
 replace c1 : Hp w [] [blk b8 [(bt (34 : UInt8))] 5, rwt eB 5 1 c9 d0 d1 (([] : List UInt8) ++ ([(34 : UInt8)] : List UInt8))] e8 := c1
 refine wp 1 (nq (bi hr fun d2 e9 hr => cut (σ := (List UInt8) × (Option Nat) × (Option Addr) × Nat) [2, 3, 4] (fun ⟨a3, b6, b1, b2⟩ => [(4, (Vs b1 a3.length b2))]) (fun ⟨a3, b6, b1, b2⟩ w' => Hp w [] [rwt eB 5 1 b6 b1 b2 a3] w' ∧ .inl a3 = d2) ?_ ?_))
 refine sr (wp 3 (nq (ce (lpG (σ := Nat × (List UInt8) × Int × (Option Nat) × (Option Addr) × Nat) [0, 2, 3, 4, 15, 16] (fun ⟨b0, a2, a1, a9, a6, a7⟩ => [(4, (Vs a6 a2.length a7)), (16, (Vi .i64 a1))]) (fun ⟨b0, a2, a1, a9, a6, a7⟩ w' => Hp w [] [rwt eB 5 1 a9 a6 a7 a2] w' ∧ afl fu s_0 b0 a2 a1 = some d2) (fun ⟨b0, a2, a1, a9, a6, a7⟩ => b0) (fu, ([] : List UInt8) ++ ([(34 : UInt8)] : List UInt8), (0 : Int), c9, d0, d1) (by exact ⟨(Hp.front c1 1 _ rfl).kp, e9⟩) ?_))))
 rintro ⟨_ | b0, a2, a1, a9, a6, a7⟩ h0 G ⟨c2, a0⟩
 · exact nzz a0
 rw [afl.eq_2] at a0
 refine sr (wp 1 (nq (cs (cd a0 (fun f0 a0 => ?_) (fun f0 a0 => ?_)))))
 refine ck (qn (cs (ce (sr (wp 2 (nq (cs ?_)))))))
 refine cr (wp 2 (gi a0 fun f1 a0 => abi s_0 .i64 a1 underlying9 krf krf f1 (wp 1 (nq (cs (sr ?_))))))
 refine wp 1 (bi a0 fun h1 f2 a0 => wc ent135 c2 (anu f2 (hG.hp0 c2)) fun h2 b7 => nq (cb a0 (fun f3 a0 => ?_) (fun f3 a0 => ?_)))
 refine sr (wp 2 (nq (ct (st (bt_ (st (adg ?_)))))))
 refine bt_ (adg ?_)
 obtain rfl := oi a0
 obtain rfl := oi hr
 exact rv b7.kp
 refine ck (qn (bi a0 fun f4 a5 a0 => cut (σ := (List UInt8) × (Option Nat) × (Option Addr) × Nat) [0, 2, 3, 4, 5, 15, 16] (fun ⟨a8, b9, b3, b4⟩ => [(4, (Vs b3 a8.length b4))]) (fun ⟨a8, b9, b3, b4⟩ w' => Hp w [] [rwt eB 5 1 b9 b3 b4 a8] w' ∧ a8 = f4) ?_ ?_))
 refine bi a5 fun f5 b5 a5 => age b7 [0, 2, 3, 4, 5, 15, 16, 29] [(29, (Vb f5))] ?_ ?_
 refine cr (wp 1 (acx (at_ s_0 a1) (34 : UInt8) krf krf (wd b5 (fun f6 b5 => ?_) (fun f6 b5 => ?_))))
 refine wp 3 (wl (ql ?_))
 obtain rfl := oi b5
 exact je b7.kp
 refine wp 1 (gy 26 (acx (at_ s_0 a1) (92 : UInt8) krf krf (wp 1 (wl (ql ?_)))))
 obtain rfl := oi b5
 exact je b7.kp
 intro h3 G d3
 refine cb a5 (fun f7 a5 => ?_) (fun f7 a5 => ?_)
 refine cr (wp 1 (adr d3 [(bt (92 : UInt8))] 5 (fun b => (Vs (some ⟨b, 0, none⟩) 1 1)) rfl rfl krf fun c3 h4 d4 => gi a5 fun f8 a5 => adm d4 1 a9 a6 (some ⟨c3, 0, none⟩) a7 1 5 1 1 a2 ([(92 : UInt8)] : List UInt8) akh rfl underlying85 (by unfold TI; kernel_rfl) (by decide) (by decide) krf (Eq.trans (b := (Vs (some ⟨c3, 0, none⟩) 1 1)) krf (aaj (by first | rfl | (simp; done) | omega | (simp; omega) | (rw [zah]; omega)))) (d4.rdblk 0 rfl) f8 fun d5 d6 d7 f9 c4 => ?_))
 replace c4 : Hp w [] [blk c3 [(bt (92 : UInt8))] 5, rwt eB 5 1 d5 d6 d7 (a2 ++ ([(92 : UInt8)] : List UInt8))] f9 := c4
 refine wp 1 (wl (ql ?_))
 obtain rfl := oi a5
 exact ⟨(a2 ++ ([(92 : UInt8)] : List UInt8), d5, d6, d7), _, rfl, by kernel_rfl, (Hp.front c4 1 _ rfl).kp, rfl⟩
 refine ck (ql ?_)
 obtain rfl := oi a5
 exact ⟨(a2, a9, a6, a7), _, rfl, by kernel_rfl, d3.kp, rfl⟩
 rintro ⟨a8, b9, b3, b4⟩ h5 G ⟨g0, rfl⟩
 refine cr (wp 3 (gi a0 fun g3 a0 => abi s_0 .i64 a1 underlying9 krf krf g3 (adr g0 [(bt (at_ s_0 a1))] 5 (fun b => (Vs (some ⟨b, 0, none⟩) 1 1)) rfl rfl krf fun c5 h6 d8 => gi a0 fun g4 a0 => adm d8 1 b9 b3 (some ⟨c5, 0, none⟩) b4 1 5 1 1 a8 ([at_ s_0 a1] : List UInt8) akh rfl underlying85 (by unfold TI; kernel_rfl) (by decide) (by decide) krf (Eq.trans (b := (Vs (some ⟨c5, 0, none⟩) 1 1)) krf (aaj (by first | rfl | (simp; done) | omega | (simp; omega) | (rw [zah]; omega)))) (d8.rdblk 0 rfl) g4 fun d9 e0 e1 g5 c6 => ?_)))
 replace c6 : Hp w [] [blk c5 [(bt (at_ s_0 a1))] 5, rwt eB 5 1 d9 e0 e1 (a8 ++ ([at_ s_0 a1] : List UInt8))] g5 := c6
 refine wp 1 (wl (bn (qn (cr (gi a0 fun g6 a0 => aae a1 (1 : Int) krf krf g6 (wp 1 (wl (ql ?_))))))))
 exact ⟨(b0, a8 ++ ([at_ s_0 a1] : List UInt8), a1 + (1 : Int), d9, e0, e1), _, rfl, by kernel_rfl, ⟨(Hp.front c6 1 _ rfl).kp, a0⟩, zad _⟩
 refine abq (abp (aby (abr (ql ?_))))
 obtain rfl := oi a0
 exact ⟨(a2, a9, a6, a7), _, rfl, by kernel_rfl, c2.kp, rfl⟩
 rintro ⟨a3, b6, b1, b2⟩ h7 G ⟨g7, rfl⟩
 refine sr (wp 1 (adr g7 [(bt (34 : UInt8))] 5 (fun b => (Vs (some ⟨b, 0, none⟩) 1 1)) rfl rfl krf fun c7 h8 e2 => gi hr fun g8 hr => adm e2 1 b6 b1 (some ⟨c7, 0, none⟩) b2 1 5 1 1 a3 ([(34 : UInt8)] : List UInt8) akh rfl underlying85 (by unfold TI; kernel_rfl) (by decide) (by decide) krf (Eq.trans (b := (Vs (some ⟨c7, 0, none⟩) 1 1)) krf (aaj (by first | rfl | (simp; done) | omega | (simp; omega) | (rw [zah]; omega)))) (e2.rdblk 0 rfl) g8 fun g9 e3 e4 e5 c0 => ?_))
 replace c0 : Hp w [] [blk c7 [(bt (34 : UInt8))] 5, rwt eB 5 1 g9 e3 e4 (a3 ++ ([(34 : UInt8)] : List UInt8))] e5 := c0
 refine aes (v := (str (a3 ++ ([(34 : UInt8)] : List UInt8)))) (w' := e5) rfl rfl (apn (a3 ++ ([(34 : UInt8)] : List UInt8)) e3 ((a3 ++ ([(34 : UInt8)] : List UInt8)).length) e4 5 (Rd.bytes (c0.rdrw 1 rfl)) (by first | rfl | (simp; done) | omega | (simp; omega) | (rw [zah]; omega)) underlying85 underlying9 underlying5 krf) (wp 2 (nq (ct ?_)))
 obtain rfl := oi hr
 exact rv c0.kp
theorem K_L_address_control {fu : Nat} {a0 : UInt8} {w : World} {r : Bool} (hr : aoe fu a0 = some r) (hG : Gl w) : CR prog 216 [(bt a0)] w fun v w' => v = (Vb r) ∧ Hp w [] [] w' := by
 have hH := Hp.refl w
 refine enter (k := 13) func216 rfl rfl nbe ?_
 unfold aoe at hr
 refine sr (wp 1 (nq (bi hr fun v4 a1 hr => age hH [2] [(2, (Vb (decide (a0 = (127 : UInt8)))))] ?_ ?_)))
 refine cr (wp 1 (w8_lss a0 (32 : UInt8) krf krf (wd a1 (fun h5 a1 => ?_) (fun h5 a1 => ?_))))
 exact nzz a1
 refine wp 5 (gy 9 (acx a0 (127 : UInt8) krf krf (wp 2 (wl (ql ?_)))))
 obtain rfl := oi a1
 exact je hH.kp
 intro w6 G a2
 refine ct ?_
 obtain rfl := oi hr
 exact rv a2.kp
theorem amf {fu : Nat} {s_0 : Str} {w : World} {r : Bool} (hr : alu fu s_0 = some r) (hG : Gl w) : CR prog 175 [(str s_0)] w fun v w' => v = (Vb r) ∧ Hp w [] [] w' := by
 have hH := Hp.refl w
 refine enter (k := 14) func175 rfl rfl nbe ?_
 unfold alu at hr
 refine sr (wp 1 (nq (bi hr fun b2 a4 hr => age hH [2] [] ?_ ?_)))
 refine sr (wp 3 (nq (ce (lpS (fun a3 a1 => akm fu s_0 a3 a1) (0 : Int) hH a4 [0, 2, 5, 6] (fun a1 => [(6, (Vi .i64 a1))]) (fun _ => rfl) ?_))))
 rintro a3 a1 b3 G a2 a0
 rw [akm.eq_2] at a0
 refine sr (wp 1 (nq (cs (cd a0 (fun a5 a0 => ?_) (fun a5 a0 => ?_)))))
 refine ck (qn (cs (ce (sr (wp 2 (nq (cs ?_)))))))
 refine cr (wp 2 (gi a0 fun a6 a0 => abi s_0 .i64 a1 underlying9 krf krf a6 (bi a0 fun b4 a7 a0 => wc ent216 a2 (K_L_address_control a7 (hG.hp0 a2)) fun b5 a8 => nq (cb a0 (fun a9 a0 => ?_) (fun a9 a0 => ?_)))))
 exact nzz a0
 exact ck (bn (qn (cr (gi a0 fun b0 a0 => aae a1 (1 : Int) krf krf b0 (wp 1 (wl (ql (le' (a1 + (1 : Int)) a8.kp a0))))))))
 refine abq (abp (aby (abr (ql ?_))))
 obtain rfl := oi a0
 exact je a2.kp
 intro b6 G b1
 refine sr (wp 1 (nq (ct ?_)))
 obtain rfl := oi hr
 exact rv b1.kp
theorem alk {fu : Nat} {a2 : List PQ} {c3 : Int} (b9 : Option Addr) (c4 : Nat) (c5 : Nat) {w : World} {r : ((List PQ) × Bool)} (hr : amq fu a2 c3 = some r) (hG : Gl w) (e2 : c4 = a2.length) (d2 : Rd w b9 (zai aaa a2)) (g8 : c4 ≤ c5) : CR prog 177 [(Vs b9 c4 c5), (Vi .i64 c3)] w fun v w' => ∃ (o0 : Option Nat), ∃ (a0 : Option Addr), ∃ (cap0 : Nat), v = (zak #[(Vs a0 r.1.length cap0), (Vb r.2)]) ∧ Hp w [] [rwt aaa 65 3 o0 a0 cap0 r.1] w' := by
 subst e2
 have hH := Hp.refl w
 refine enter (k := 69) func177 rfl rfl nbe ?_
 unfold amq at hr
 refine sr (wp 2 (nq (cs (sr (wp 3 (wl ?_))))))
 refine qn (cd hr (fun h1 hr => ?_) (fun h1 hr => ?_))
 exact nzz hr
 refine ck (qn (sr (wp 1 (nq (bi hr fun d3 e3 hr => cut (σ := (List PQ) × (Option Nat) × (Option Addr) × Nat) [4, 5, 6] (fun ⟨b0, b6, b2, b3⟩ => [(6, (Vs b2 b0.length b3))]) (fun ⟨b0, b6, b2, b3⟩ w' => Hp w [] (Zz10 b6 b2 b3 b0) w' ∧ b0 = d3) ?_ ?_)))))
 refine sr (wp 3 (nq (ce (lpG (σ := Nat × (List PQ) × Int × (Option Nat) × (Option Addr) × Nat) [1, 4, 5, 6, 12, 13, 14] (fun ⟨b5, a6, a1, b4, a8, a9⟩ => [(6, (Vs a8 a6.length a9)), (14, (Vi .i64 a1))]) (fun ⟨b5, a6, a1, b4, a8, a9⟩ w' => Hp w [] (Zz10 b4 a8 a9 a6) w' ∧ ajr fu a2 c3 b5 a6 a1 = some d3) (fun ⟨b5, a6, a1, b4, a8, a9⟩ => b5) (fu, ([] : List PQ), (0 : Int), none, none, 0) (by exact ⟨(Hp.nilrw hH aaa 65 3 none).kp, e3⟩) ?_ (mc krf (mc krf (mc krf (mc (Eq.trans (b := (Vs none 0 0)) krf (aaj lsy)) (mc krf (mc krf (mc krf rfl)))))))))))
 rintro ⟨_ | b5, a6, a1, b4, a8, a9⟩ g9 G ⟨c0, a3⟩
 · exact nzz a3
 rw [ajr.eq_2] at a3
 refine sr (wp 1 (nq (cs (cd a3 (fun e4 a3 => ?_) (fun e4 a3 => ?_)))))
 refine ck (qn (cs (ce (sr (gi a3 fun e5 a3 => ahl b9 a2.length c5 65 3 .i64 a1 underlying22 krf krf krf a2 rfl e5 (d2.hp c0) aab (by decide) (gi a3 fun e6 a3 => ajh b9 aaa a2 3 a1 aab (d2.hp c0) (Zz0 a2 a1) e6 krf krf krf krf (by decide) ?_))))))
 refine adr c0 (Zz6) 65 (fun b => (Vp (some ⟨b, 0, none⟩))) rfl rfl krf fun a7 h0 e7 => ahq e7 0 a7 0 (Zz6) (Zz0 a2 a1) 65 [blk a7 (Zz0 a2 a1) 65, rwt aaa 65 3 b4 a8 a9 a6] rfl nbe krf krf rfl krf rfl fun h2 c6 => nq (sr (wp 1 (abs c6 0 a7 0 (Zz0 a2 a1) 65 (str ((el a2 a1).1)) rfl rfl krf krf (bi a3 fun a4 e8 a3 => wc ent67 c6 (adu e8 (hG.hp0 c6)) fun h3 e9 => ?_))))
 refine wp 1 (aib e9 0 a7 0 (Zz0 a2 a1) 65 (str a4) [blk a7 (Zz41 a4 a2 a1) 65, rwt aaa 65 3 b4 a8 a9 a6] rfl (zaj (zad _) nbe) krf krf rfl krf rfl fun h4 b7 => nq (cs (bi a3 fun f0 a5 a3 => age b7 [1, 4, 5, 6, 8, 12, 13, 14, 42] [(42, (Vb f0))] ?_ ?_)))
 refine cr (wp 1 (abs b7 0 a7 0 (Zz41 a4 a2 a1) 65 (str a4) rfl rfl krf krf (wp 1 (wd a5 (fun f1 a5 => ?_) (fun f1 a5 => ?_)))))
 exact nzz a5
 refine wp 1 (gy 25 (abs b7 0 a7 0 (Zz41 a4 a2 a1) 65 (str a4) rfl rfl krf krf (gy 25 (bi a5 fun h5 f2 a5 => wc ent175 b7 (amf f2 (hG.hp0 b7)) fun h6 c7 => wp 2 (wb a5 (fun f3 a5 => ?_) (fun f3 a5 => ?_))))))
 exact nzz a5
 refine wp 1 (gy 31 (abs c7 0 a7 1 (Zz41 a4 a2 a1) 65 (str ((el a2 a1).2.1)) rfl rfl krf krf (gy 31 (bi a5 fun h7 f4 a5 => wc ent175 c7 (amf f4 (hG.hp0 c7)) fun h8 b8 => wp 2 (wb a5 (fun f5 a5 => ?_) (fun f5 a5 => ?_))))))
 exact nzz a5
 refine wp 2 (gy 37 (abs b8 0 a7 0 (Zz41 a4 a2 a1) 65 (str a4) rfl rfl krf krf (gy 37 (bi a5 fun h9 f6 a5 => wc ent103 b8 (aoi a8 a6.length a9 f6 (hG.hp0 b8) rfl (b8.rdrw 1 rfl) (b8.rwcap 1 rfl)) fun i0 f7 => wp 1 (wl (ql ?_))))))
 obtain rfl := oi a5
 exact je (Hp.front (Hp.front f7 1 _ rfl) 1 _ rfl).kp
 intro i1 G c1
 refine cb a3 (fun f8 a3 => ?_) (fun f8 a3 => ?_)
 exact nzz a3
 refine ck (qn (cs (bi a3 fun i2 b1 a3 => age c1 [1, 4, 5, 6, 8, 12, 13, 14, 61] [(61, (Vb (!(((el a2 a1).2.2) == (!decide (((el a2 a1).2.1) = ([] : Str)))))))] ?_ ?_)))
 refine cr (wp 2 (wd b1 (fun f9 b1 => ?_) (fun f9 b1 => ?_)))
 exact nzz b1
 refine wp 7 (gy 50 (wd b1 (fun g0 b1 => ?_) (fun g0 b1 => ?_)))
 refine wp 1 (gy 53 (abs c1 0 a7 2 (Zz41 a4 a2 a1) 65 (Vb ((el a2 a1).2.2)) rfl rfl krf krf (wp 1 (gy 53 (abs c1 0 a7 1 (Zz41 a4 a2 a1) 65 (str ((el a2 a1).2.1)) rfl rfl krf krf (wp 1 (gy 53 (w_neb ((el a2 a1).2.2) (!decide (((el a2 a1).2.1) = ([] : Str))) underlying4 krf krf (wp 2 ?_)))))))))
 refine wl (ql ?_)
 obtain rfl := oi b1
 exact je (Hp.front (Hp.front c1 1 _ rfl) 1 _ rfl).kp
 exact nzz b1
 intro i3 G d4
 refine cb a3 (fun g1 a3 => ?_) (fun g1 a3 => ?_)
 exact nzz a3
 refine ck (qn (cr (wp 1 (ant d4 0 a7 0 3 (Zz41 a4 a2 a1) (Zz41 a4 a2 a1) 65 rfl rfl rfl krf krf krf (adr d4 (Zz41 a4 a2 a1) 65 (fun b => (Vs (some ⟨b, 0, none⟩) 1 1)) rfl rfl krf fun c8 i4 d5 => gi a3 fun g2 a3 => adm d5 2 b4 a8 (some ⟨c8, 0, none⟩) a9 1 65 3 40 a6 ([(a4, (el a2 a1).2.1, ((el a2 a1).2.2))] : List PQ) aab rfl underlying22 (by unfold TI; kernel_rfl) (by decide) (by decide) krf (Eq.trans (b := (Vs (some ⟨c8, 0, none⟩) 1 1)) krf (aaj (by first | rfl | (simp; done) | omega | (simp; omega) | (rw [zah]; omega)))) (d5.rdblk 0 rfl) g2 fun d6 d7 d8 g3 c9 => ?_)))))
 replace c9 : Hp w [] [blk c8 (Zz41 a4 a2 a1) 65, blk a7 (Zz41 a4 a2 a1) 65, rwt aaa 65 3 d6 d7 d8 (a6 ++ ([(a4, (el a2 a1).2.1, ((el a2 a1).2.2))] : List PQ))] g3 := c9
 refine wp 1 (wl (bn (qn (cr (gi a3 fun g4 a3 => aae a1 (1 : Int) krf krf g4 (wp 1 (wl (ql ?_))))))))
 exact ⟨(b5, a6 ++ ([(a4, (el a2 a1).2.1, ((el a2 a1).2.2))] : List PQ), a1 + (1 : Int), d6, d7, d8), _, rfl, by kernel_rfl, ⟨(Hp.front c9 2 _ rfl).kp, a3⟩, zad _⟩
 refine abq (abp (aby (abr (ql ?_))))
 obtain rfl := oi a3
 exact ⟨(a6, b4, a8, a9), _, rfl, by kernel_rfl, c0.kp, rfl⟩
 rintro ⟨b0, b6, b2, b3⟩ i5 G ⟨c2, rfl⟩
 refine sr (wp 1 (bi hr fun d9 g5 hr => aat 70 #[] [(Vs b2 b0.length b3)] _ ent70 krf krf (alj b2 b0.length b3 g5 (hG.hp0 c2) rfl (c2.rdrw 0 rfl) (c2.rwcap 0 rfl)) ?_))
 rintro _ g6 ⟨e0, d0, d1, rfl, e1⟩
 have g7 : Hp w [] [rwt aaa 65 3 e0 d0 d1 d9, rwt aaa 65 3 b6 b2 b3 b0] g6 := Hp.callK (L1 := []) (L2 := (Zz10 b6 b2 b3 b0)) c2 e1; clear e1
 refine wp 2 (nq (ct ?_))
 obtain rfl := oi hr
 refine r_two (Vs d0 d9.length d1) (Vb true) rfl krf krf ?_
 exact ⟨e0, d0, d1, (by first | rfl | (simp; done) | (simp; omega)), g7.kp⟩
theorem K_L_address_Normal {fu : Nat} {a2 : (Str × Str × Str × Int × (List PQ) × (List PQ))} (a3 : Option Addr) (e1 : Nat) (a4 : Nat) (a5 : Option Addr) (e2 : Nat) (a6 : Nat) {w : World} {r : ((Str × Str × Str × Int × (List PQ) × (List PQ)) × UInt8)} (hr : aoz fu a2 = some r) (hG : Gl w) (f8 : e1 = a2.2.2.2.2.1.length) (e5 : Rd w a3 (zai aaa a2.2.2.2.2.1)) (e6 : e1 ≤ a4) (f9 : e2 = a2.2.2.2.2.2.length) (e7 : Rd w a5 (zai aaa a2.2.2.2.2.2)) (e8 : e2 ≤ a6) : CR prog 127 [(zan #[(str a2.1), (str a2.2.1), (str a2.2.2.1), (Vi .i64 a2.2.2.2.1), (Vs a3 e1 a4), (Vs a5 e2 a6)])] w fun v w' => ∃ (o0 : Option Nat), ∃ (a0 : Option Addr), ∃ (cap0 : Nat), ∃ (o1 : Option Nat), ∃ (a1 : Option Addr), ∃ (cap1 : Nat), v = (zak #[(zan #[(str r.1.1), (str r.1.2.1), (str r.1.2.2.1), (Vi .i64 r.1.2.2.2.1), (Vs a0 r.1.2.2.2.2.1.length cap0), (Vs a1 r.1.2.2.2.2.2.length cap1)]), (bt r.2)]) ∧ Hp w [] [rwt aaa 65 3 o0 a0 cap0 r.1.2.2.2.2.1, rwt aaa 65 3 o1 a1 cap1 r.1.2.2.2.2.2] w' := by
 subst f8
 subst f9
 have hH := Hp.refl w
 refine enter (k := 95) func127 rfl rfl nbe ?_
 unfold aoz at hr
 refine sr (adr hH (Zz2 a2.1 a2.2.1 a2.2.2.1 a2.2.2.2.1 a3 a2.2.2.2.2.1.length a4 a5 a2.2.2.2.2.2.length a6) 36 (fun b => (Vp (some ⟨b, 0, none⟩))) rfl rfl krf fun b1 w2 g0 => adr g0 (Zz3) 36 (fun b => (Vp (some ⟨b, 0, none⟩))) rfl rfl krf fun b4 w5 g1 => wp 1 (nq (cs (bi hr fun y7 e9 hr => aeh 9 (fun j_ w_ w_' => aay [2, 7, 9] (fun w' => w'.heap[b1]? = some (.cells (Zz2 a2.1 a2.2.1 a2.2.2.1 a2.2.2.2.1 a3 a2.2.2.2.2.1.length a4 a5 a2.2.2.2.2.2.length a6).toArray 36 (0, 0))) j_ w_ w_' ∧ aay [7, 9] (fun w' => w'.heap[b1]? = some (.cells (Zz2 a2.1 a2.2.1 a2.2.2.1 a2.2.2.2.1 a3 a2.2.2.2.2.1.length a4 a5 a2.2.2.2.2.2.length a6).toArray 36 (0, 0))) j_ w_ w_' ∧ True) (Zz77) (fun _ _ => ⟨aay.same, aay.same, trivial⟩) krf krf g1 rfl (ade adb) fun k2 c9 => ?_))))
 refine rp 8 [0] (aal [true, true, false, false, false, false, false, false, false, false] 1 11 (str a2.1) [2, 7, 9] (fun _ _ _ h => h.1) _ rfl rfl krf krf krf krf krf rfl (aba rfl (by intro w hS_; exact (aga b1 0 (Zz2 a2.1 a2.2.1 a2.2.2.1 a2.2.2.2.1 a3 a2.2.2.2.2.1.length a4 a5 a2.2.2.2.2.2.length a6) 36 (str a2.1) hS_ rfl krf krf))) (by exact c9.blkAt 1 rfl) (rp 6 [3] (aal [true, true, false, true, true, false, false, false, false, false] 4 14 (str a2.2.1) [7, 9] (fun _ _ _ h => h.2.1) _ rfl rfl krf krf krf krf krf rfl (aba rfl (by intro w hS_; exact (aga b1 1 (Zz2 a2.1 a2.2.1 a2.2.2.1 a2.2.2.2.1 a3 a2.2.2.2.2.1.length a4 a5 a2.2.2.2.2.2.length a6) 36 (str a2.2.1) hS_ rfl krf krf))) (by exact c9.blkAt 1 rfl) (rp 4 [5] (aal [true, true, false, true, true, true, true, false, false, false] 6 16 (Vi .i64 a2.2.2.2.1) [7, 9] (fun _ _ _ h => h.2.1) _ rfl rfl krf krf krf krf krf rfl (aba rfl (by intro w hS_; exact (aga b1 3 (Zz2 a2.1 a2.2.1 a2.2.2.1 a2.2.2.2.1 a3 a2.2.2.2.2.1.length a4 a5 a2.2.2.2.2.2.length a6) 36 (Vi .i64 a2.2.2.2.1) hS_ rfl krf krf))) (by exact c9.blkAt 1 rfl) (r_one2 [true, true, true, true, true, true, true, false, false, false] [true, true, false, true, true, true, true, false, true, false] 2 8 _ _ rfl rfl krf krf krf rfl rfl ?_ ?_))))))
 refine wc ent67 c9 (adu e9 (hG.hp0 c9)) fun w9 d2 => wl (abu (by exact ⟨aay.out rfl, aay.new (d2.blkAt 1 rfl), trivial⟩) (rp 1 [7] (ro 8 rfl (adr d2 (Zz3) 36 (fun b => (Vp (some ⟨b, 0, none⟩))) rfl rfl krf fun a7 g2 c6 => wl (abu (by exact ⟨aay.new (c6.blkAt 2 rfl), aay.new (c6.blkAt 2 rfl), trivial⟩) (adn krf (ahq c6 0 a7 0 (Zz3) (Zz36 y7 a2.2.1 a2.2.2.2.1) 36 [blk a7 (Zz36 y7 a2.2.1 a2.2.2.2.1) 36, blk b4 (Zz3) 36, blk b1 (Zz2 a2.1 a2.2.1 a2.2.2.1 a2.2.2.2.1 a3 a2.2.2.2.2.1.length a4 a5 a2.2.2.2.2.2.length a6) 36] rfl nbe krf krf rfl krf rfl fun k3 d5 => ?_)))))))
 refine nq (sr (wp 1 (nq (cs (sr ?_)))))
 refine wp 1 (abs d5 0 a7 0 (Zz36 y7 a2.2.1 a2.2.2.2.1) 36 (str y7) rfl rfl krf krf (nq (ce (cs (sr (wp 2 (wl ?_)))))))
 refine qn (cd hr (fun g3 hr => ?_) (fun g3 hr => ?_))
 refine ck (qn (cd hr (fun g4 hr => ?_) (fun g4 hr => ?_)))
 refine sr (wp 1 (abs d5 2 b1 2 (Zz2 a2.1 a2.2.1 a2.2.2.1 a2.2.2.2.1 a3 a2.2.2.2.2.1.length a4 a5 a2.2.2.2.2.2.length a6) 36 (str a2.2.2.1) rfl rfl krf krf (bi hr fun b3 g5 hr => wc ent34 d5 (ahy g5 (hG.hp0 d5)) fun k4 g6 => wp 4 (aib g6 0 a7 2 (Zz36 y7 a2.2.1 a2.2.2.2.1) 36 (str b3.1) [blk a7 (Zz26 y7 a2.2.1 b3.1 a2.2.2.2.1) 36, blk b4 (Zz3) 36, blk b1 (Zz2 a2.1 a2.2.1 a2.2.2.1 a2.2.2.2.1 a3 a2.2.2.2.2.1.length a4 a5 a2.2.2.2.2.2.length a6) 36] rfl (zaj (zad _) nbe) krf krf rfl krf rfl fun k5 d3 => wp 1 (wl ?_)))))
 refine qn (cr (wp 1 (wb hr (fun g7 hr => ?_) (fun g7 hr => ?_))))
 refine wp 1 (gy 31 (abs d3 2 b1 3 (Zz2 a2.1 a2.2.1 a2.2.2.1 a2.2.2.2.1 a3 a2.2.2.2.2.1.length a4 a5 a2.2.2.2.2.2.length a6) 36 (Vi .i64 a2.2.2.2.1) rfl rfl krf krf (wp 2 (wd hr (fun g8 hr => ?_) (fun g8 hr => ?_)))))
 refine wp 1 (gy 36 (abs d3 2 b1 3 (Zz2 a2.1 a2.2.1 a2.2.2.1 a2.2.2.2.1 a3 a2.2.2.2.2.1.length a4 a5 a2.2.2.2.2.2.length a6) 36 (Vi .i64 a2.2.2.2.1) rfl rfl krf krf (wp 2 (wd hr (fun g9 hr => ?_) (fun g9 hr => ?_)))))
 refine wp 1 (gy 41 (abs d3 2 b1 1 (Zz2 a2.1 a2.2.1 a2.2.2.1 a2.2.2.2.1 a3 a2.2.2.2.2.1.length a4 a5 a2.2.2.2.2.2.length a6) 36 (str a2.2.1) rfl rfl krf krf (gy 41 (bi hr fun k6 h0 hr => wc ent175 d3 (amf h0 (hG.hp0 d3)) fun k7 d6 => wp 2 (wl (bn (qn ?_)))))))
 refine sr (wp 1 (abs d6 2 b1 4 (Zz2 a2.1 a2.2.1 a2.2.2.1 a2.2.2.2.1 a3 a2.2.2.2.2.1.length a4 a5 a2.2.2.2.2.2.length a6) 36 (Vs a3 a2.2.2.2.2.1.length a4) rfl rfl krf krf (bi hr fun b5 h1 hr => aat 177 #[] [(Vs a3 a2.2.2.2.2.1.length a4), (Vi .i64 (1 : Int))] _ ent177 krf krf (alk a3 a2.2.2.2.2.1.length a4 h1 (hG.hp0 d6) rfl (e5.hp d6) e6) ?_)))
 rintro _ h2 ⟨c7, a8, a9, rfl, f0⟩
 have d7 : Hp w [] [rwt aaa 65 3 c7 a8 a9 b5.1, blk a7 (Zz26 y7 a2.2.1 b3.1 a2.2.2.2.1) 36, blk b4 (Zz3) 36, blk b1 (Zz2 a2.1 a2.2.1 a2.2.2.1 a2.2.2.2.1 a3 a2.2.2.2.2.1.length a4 a5 a2.2.2.2.2.2.length a6) 36] h2 := Hp.callK (L1 := []) (L2 := [blk a7 (Zz26 y7 a2.2.1 b3.1 a2.2.2.2.1) 36, blk b4 (Zz3) 36, blk b1 (Zz2 a2.1 a2.2.1 a2.2.2.1 a2.2.2.2.1 a3 a2.2.2.2.2.1.length a4 a5 a2.2.2.2.2.2.length a6) 36]) d6 f0; clear f0
 refine wp 5 (nq (sr (wp 1 (abs d7 3 b1 5 (Zz2 a2.1 a2.2.1 a2.2.2.1 a2.2.2.2.1 a3 a2.2.2.2.2.1.length a4 a5 a2.2.2.2.2.2.length a6) 36 (Vs a5 a2.2.2.2.2.2.length a6) rfl rfl krf krf (bi hr fun b8 h3 hr => aat 177 #[] [(Vs a5 a2.2.2.2.2.2.length a6), (Vi .i64 (2 : Int))] _ ent177 krf krf (alk a5 a2.2.2.2.2.2.length a6 h3 (hG.hp0 d7) rfl (e7.hp d7) e8) ?_)))))
 rintro _ h4 ⟨d0, b9, c0, rfl, f1⟩
 have h5 : Hp w [] [rwt aaa 65 3 d0 b9 c0 b8.1, rwt aaa 65 3 c7 a8 a9 b5.1, blk a7 (Zz26 y7 a2.2.1 b3.1 a2.2.2.2.1) 36, blk b4 (Zz3) 36, blk b1 (Zz2 a2.1 a2.2.1 a2.2.2.1 a2.2.2.2.1 a3 a2.2.2.2.2.1.length a4 a5 a2.2.2.2.2.2.length a6) 36] h4 := Hp.callK (L1 := []) (L2 := [rwt aaa 65 3 c7 a8 a9 b5.1, blk a7 (Zz26 y7 a2.2.1 b3.1 a2.2.2.2.1) 36, blk b4 (Zz3) 36, blk b1 (Zz2 a2.1 a2.2.1 a2.2.2.1 a2.2.2.2.1 a3 a2.2.2.2.2.1.length a4 a5 a2.2.2.2.2.2.length a6) 36]) d7 f1; clear f1
 refine wp 5 (nq (cs (bi hr fun h6 c4 hr => cut (σ := Unit) [2, 3, 4, 6, 8, 88] (fun e3 => [(88, (Vb (!b8.2)))]) (fun e3 w' => Hp w [] [rwt aaa 65 3 d0 b9 c0 b8.1, rwt aaa 65 3 c7 a8 a9 b5.1, blk a7 (Zz26 y7 a2.2.1 b3.1 a2.2.2.2.1) 36, blk b4 (Zz3) 36] w' ∧ e3 = h6) ?_ ?_)))
 refine cr (wp 2 (wb c4 (fun h7 c4 => ?_) (fun h7 c4 => ?_)))
 exact nzz c4
 refine wp 3 (wb c4 (fun h8 c4 => ?_) (fun h8 c4 => ?_))
 exact nzz c4
 refine wp 3 (wl (ql ?_))
 obtain rfl := oi c4
 exact ⟨(), _, rfl, by kernel_rfl, (Hp.front (Hp.front (Hp.front (Hp.front h5 3 _ rfl) 3 _ rfl) 3 _ rfl) 3 _ rfl).kp, rfl⟩
 rintro e3 k8 G ⟨h9, rfl⟩
 refine cb hr (fun i0 hr => ?_) (fun i0 hr => ?_)
 exact nzz hr
 refine ck (qn (sr (wp 3 (aib h9 2 a7 4 (Zz26 y7 a2.2.1 b3.1 a2.2.2.2.1) 36 (Vs a8 b5.1.length a9) [rwt aaa 65 3 d0 b9 c0 b8.1, rwt aaa 65 3 c7 a8 a9 b5.1, blk a7 (Zz84 y7 a2.2.1 b3.1 a2.2.2.2.1 a8 b5.1.length a9) 36, blk b4 (Zz3) 36] rfl (zaj (zad _) nbe) krf krf rfl krf rfl fun k9 i1 => wp 1 (aib i1 2 a7 5 (Zz84 y7 a2.2.1 b3.1 a2.2.2.2.1 a8 b5.1.length a9) 36 (Vs b9 b8.1.length c0) [rwt aaa 65 3 d0 b9 c0 b8.1, rwt aaa 65 3 c7 a8 a9 b5.1, blk a7 (Zz2 y7 a2.2.1 b3.1 a2.2.2.2.1 a8 b5.1.length a9 b9 b8.1.length c0) 36, blk b4 (Zz3) 36] rfl (zaj (zad _) nbe) krf krf rfl krf rfl fun l0 f2 => nq ?_)))))
 refine sr (ant f2 2 a7 0 6 (Zz2 y7 a2.2.1 b3.1 a2.2.2.2.1 a8 b5.1.length a9 b9 b8.1.length c0) (Zz2 y7 a2.2.1 b3.1 a2.2.2.2.1 a8 b5.1.length a9 b9 b8.1.length c0) 36 rfl rfl rfl krf krf krf (ahq f2 3 b4 0 (Zz3) (Zz2 y7 a2.2.1 b3.1 a2.2.2.2.1 a8 b5.1.length a9 b9 b8.1.length c0) 36 [rwt aaa 65 3 d0 b9 c0 b8.1, rwt aaa 65 3 c7 a8 a9 b5.1, blk a7 (Zz2 y7 a2.2.1 b3.1 a2.2.2.2.1 a8 b5.1.length a9 b9 b8.1.length c0) 36, blk b4 (Zz2 y7 a2.2.1 b3.1 a2.2.2.2.1 a8 b5.1.length a9 b9 b8.1.length c0) 36] rfl nbe krf krf rfl krf rfl fun l1 f3 => wp 1 (nq (ct ?_))))
 obtain rfl := oi hr
 refine aov _ [(zan #[(str y7), (str a2.2.1), (str b3.1), (Vi .i64 a2.2.2.2.1), (Vs a8 b5.1.length a9), (Vs b9 b8.1.length c0)]), (bt (0 : UInt8))] (zak #[(zan #[(str y7), (str a2.2.1), (str b3.1), (Vi .i64 a2.2.2.2.1), (Vs a8 b5.1.length a9), (Vs b9 b8.1.length c0)]), (bt (0 : UInt8))]) rfl rfl (abe (ahu f3 3 b4 36 (Zz2 y7 a2.2.1 b3.1 a2.2.2.2.1 a8 b5.1.length a9 b9 b8.1.length c0) rfl krf krf krf) (abe (afd krf) agr)) rfl ?_
 exact ⟨c7, a8, a9, d0, b9, c0, (by first | rfl | (simp; done) | (simp; omega)), (Hp.front f3 1 _ rfl).kp⟩
 exact nzz hr
 exact nzz hr
 exact nzz hr
 exact nzz hr
 exact nzz hr
 refine adr c9 (Zz3) 36 (fun b => (Vp (some ⟨b, 0, none⟩))) rfl rfl krf fun a7 g2 c6 => wl (abu (by exact ⟨aay.new (c6.blkAt 2 rfl), aay.new (c6.blkAt 2 rfl), trivial⟩) (ro 2 rfl (wc ent67 c6 (adu e9 (hG.hp0 c6)) fun w9 d2 => wl (abu (by exact ⟨aay.out rfl, aay.new (d2.blkAt 2 rfl), trivial⟩) (rp 0 [7] (adn krf (ahq d2 0 a7 0 (Zz3) (Zz36 y7 a2.2.1 a2.2.2.2.1) 36 [blk a7 (Zz36 y7 a2.2.1 a2.2.2.2.1) 36, blk b4 (Zz3) 36, blk b1 (Zz2 a2.1 a2.2.1 a2.2.2.1 a2.2.2.2.1 a3 a2.2.2.2.2.1.length a4 a5 a2.2.2.2.2.2.length a6) 36] rfl nbe krf krf rfl krf rfl fun l2 d8 => ?_)))))))
 refine nq (sr (wp 1 (nq (cs (sr ?_)))))
 refine wp 1 (abs d8 0 a7 0 (Zz36 y7 a2.2.1 a2.2.2.2.1) 36 (str y7) rfl rfl krf krf (nq (ce (cs (sr (wp 2 (wl ?_)))))))
 refine qn (cd hr (fun i2 hr => ?_) (fun i2 hr => ?_))
 refine ck (qn (cd hr (fun i3 hr => ?_) (fun i3 hr => ?_)))
 refine sr (wp 1 (abs d8 2 b1 2 (Zz2 a2.1 a2.2.1 a2.2.2.1 a2.2.2.2.1 a3 a2.2.2.2.2.1.length a4 a5 a2.2.2.2.2.2.length a6) 36 (str a2.2.2.1) rfl rfl krf krf (bi hr fun b6 i4 hr => wc ent34 d8 (ahy i4 (hG.hp0 d8)) fun l3 i5 => wp 4 (aib i5 0 a7 2 (Zz36 y7 a2.2.1 a2.2.2.2.1) 36 (str b6.1) [blk a7 (Zz26 y7 a2.2.1 b6.1 a2.2.2.2.1) 36, blk b4 (Zz3) 36, blk b1 (Zz2 a2.1 a2.2.1 a2.2.2.1 a2.2.2.2.1 a3 a2.2.2.2.2.1.length a4 a5 a2.2.2.2.2.2.length a6) 36] rfl (zaj (zad _) nbe) krf krf rfl krf rfl fun l4 d4 => wp 1 (wl ?_)))))
 refine qn (cr (wp 1 (wb hr (fun i6 hr => ?_) (fun i6 hr => ?_))))
 refine wp 1 (gy 31 (abs d4 2 b1 3 (Zz2 a2.1 a2.2.1 a2.2.2.1 a2.2.2.2.1 a3 a2.2.2.2.2.1.length a4 a5 a2.2.2.2.2.2.length a6) 36 (Vi .i64 a2.2.2.2.1) rfl rfl krf krf (wp 2 (wd hr (fun i7 hr => ?_) (fun i7 hr => ?_)))))
 refine wp 1 (gy 36 (abs d4 2 b1 3 (Zz2 a2.1 a2.2.1 a2.2.2.1 a2.2.2.2.1 a3 a2.2.2.2.2.1.length a4 a5 a2.2.2.2.2.2.length a6) 36 (Vi .i64 a2.2.2.2.1) rfl rfl krf krf (wp 2 (wd hr (fun i9 hr => ?_) (fun i9 hr => ?_)))))
 refine wp 1 (gy 41 (abs d4 2 b1 1 (Zz2 a2.1 a2.2.1 a2.2.2.1 a2.2.2.2.1 a3 a2.2.2.2.2.1.length a4 a5 a2.2.2.2.2.2.length a6) 36 (str a2.2.1) rfl rfl krf krf (gy 41 (bi hr fun l5 j0 hr => wc ent175 d4 (amf j0 (hG.hp0 d4)) fun l6 d9 => wp 2 (wl (bn (qn ?_)))))))
 refine sr (wp 1 (abs d9 2 b1 4 (Zz2 a2.1 a2.2.1 a2.2.2.1 a2.2.2.2.1 a3 a2.2.2.2.2.1.length a4 a5 a2.2.2.2.2.2.length a6) 36 (Vs a3 a2.2.2.2.2.1.length a4) rfl rfl krf krf (bi hr fun b7 j1 hr => aat 177 #[] [(Vs a3 a2.2.2.2.2.1.length a4), (Vi .i64 (1 : Int))] _ ent177 krf krf (alk a3 a2.2.2.2.2.1.length a4 j1 (hG.hp0 d9) rfl (e5.hp d9) e6) ?_)))
 rintro _ j2 ⟨c8, b0, b2, rfl, f4⟩
 have e0 : Hp w [] [rwt aaa 65 3 c8 b0 b2 b7.1, blk a7 (Zz26 y7 a2.2.1 b6.1 a2.2.2.2.1) 36, blk b4 (Zz3) 36, blk b1 (Zz2 a2.1 a2.2.1 a2.2.2.1 a2.2.2.2.1 a3 a2.2.2.2.2.1.length a4 a5 a2.2.2.2.2.2.length a6) 36] j2 := Hp.callK (L1 := []) (L2 := [blk a7 (Zz26 y7 a2.2.1 b6.1 a2.2.2.2.1) 36, blk b4 (Zz3) 36, blk b1 (Zz2 a2.1 a2.2.1 a2.2.2.1 a2.2.2.2.1 a3 a2.2.2.2.2.1.length a4 a5 a2.2.2.2.2.2.length a6) 36]) d9 f4; clear f4
 refine wp 5 (nq (sr (wp 1 (abs e0 3 b1 5 (Zz2 a2.1 a2.2.1 a2.2.2.1 a2.2.2.2.1 a3 a2.2.2.2.2.1.length a4 a5 a2.2.2.2.2.2.length a6) 36 (Vs a5 a2.2.2.2.2.2.length a6) rfl rfl krf krf (bi hr fun c1 j3 hr => aat 177 #[] [(Vs a5 a2.2.2.2.2.2.length a6), (Vi .i64 (2 : Int))] _ ent177 krf krf (alk a5 a2.2.2.2.2.2.length a6 j3 (hG.hp0 e0) rfl (e7.hp e0) e8) ?_)))))
 rintro _ j4 ⟨d1, c2, c3, rfl, f5⟩
 have j5 : Hp w [] [rwt aaa 65 3 d1 c2 c3 c1.1, rwt aaa 65 3 c8 b0 b2 b7.1, blk a7 (Zz26 y7 a2.2.1 b6.1 a2.2.2.2.1) 36, blk b4 (Zz3) 36, blk b1 (Zz2 a2.1 a2.2.1 a2.2.2.1 a2.2.2.2.1 a3 a2.2.2.2.2.1.length a4 a5 a2.2.2.2.2.2.length a6) 36] j4 := Hp.callK (L1 := []) (L2 := [rwt aaa 65 3 c8 b0 b2 b7.1, blk a7 (Zz26 y7 a2.2.1 b6.1 a2.2.2.2.1) 36, blk b4 (Zz3) 36, blk b1 (Zz2 a2.1 a2.2.1 a2.2.2.1 a2.2.2.2.1 a3 a2.2.2.2.2.1.length a4 a5 a2.2.2.2.2.2.length a6) 36]) e0 f5; clear f5
 refine wp 5 (nq (cs (bi hr fun j6 c5 hr => cut (σ := Unit) [2, 3, 4, 6, 8, 88] (fun e4 => [(88, (Vb (!c1.2)))]) (fun e4 w' => Hp w [] [rwt aaa 65 3 d1 c2 c3 c1.1, rwt aaa 65 3 c8 b0 b2 b7.1, blk a7 (Zz26 y7 a2.2.1 b6.1 a2.2.2.2.1) 36, blk b4 (Zz3) 36] w' ∧ e4 = j6) ?_ ?_)))
 refine cr (wp 2 (wb c5 (fun j7 c5 => ?_) (fun j7 c5 => ?_)))
 exact nzz c5
 refine wp 3 (wb c5 (fun j8 c5 => ?_) (fun j8 c5 => ?_))
 exact nzz c5
 refine wp 3 (wl (ql ?_))
 obtain rfl := oi c5
 exact ⟨(), _, rfl, by kernel_rfl, (Hp.front (Hp.front (Hp.front (Hp.front j5 3 _ rfl) 3 _ rfl) 3 _ rfl) 3 _ rfl).kp, rfl⟩
 rintro e4 l7 G ⟨j9, rfl⟩
 refine cb hr (fun k0 hr => ?_) (fun k0 hr => ?_)
 exact nzz hr
 refine ck (qn (sr (wp 3 (aib j9 2 a7 4 (Zz26 y7 a2.2.1 b6.1 a2.2.2.2.1) 36 (Vs b0 b7.1.length b2) [rwt aaa 65 3 d1 c2 c3 c1.1, rwt aaa 65 3 c8 b0 b2 b7.1, blk a7 (Zz84 y7 a2.2.1 b6.1 a2.2.2.2.1 b0 b7.1.length b2) 36, blk b4 (Zz3) 36] rfl (zaj (zad _) nbe) krf krf rfl krf rfl fun l8 k1 => wp 1 (aib k1 2 a7 5 (Zz84 y7 a2.2.1 b6.1 a2.2.2.2.1 b0 b7.1.length b2) 36 (Vs c2 c1.1.length c3) [rwt aaa 65 3 d1 c2 c3 c1.1, rwt aaa 65 3 c8 b0 b2 b7.1, blk a7 (Zz2 y7 a2.2.1 b6.1 a2.2.2.2.1 b0 b7.1.length b2 c2 c1.1.length c3) 36, blk b4 (Zz3) 36] rfl (zaj (zad _) nbe) krf krf rfl krf rfl fun l9 f6 => nq ?_)))))
 refine sr (ant f6 2 a7 0 6 (Zz2 y7 a2.2.1 b6.1 a2.2.2.2.1 b0 b7.1.length b2 c2 c1.1.length c3) (Zz2 y7 a2.2.1 b6.1 a2.2.2.2.1 b0 b7.1.length b2 c2 c1.1.length c3) 36 rfl rfl rfl krf krf krf (ahq f6 3 b4 0 (Zz3) (Zz2 y7 a2.2.1 b6.1 a2.2.2.2.1 b0 b7.1.length b2 c2 c1.1.length c3) 36 [rwt aaa 65 3 d1 c2 c3 c1.1, rwt aaa 65 3 c8 b0 b2 b7.1, blk a7 (Zz2 y7 a2.2.1 b6.1 a2.2.2.2.1 b0 b7.1.length b2 c2 c1.1.length c3) 36, blk b4 (Zz2 y7 a2.2.1 b6.1 a2.2.2.2.1 b0 b7.1.length b2 c2 c1.1.length c3) 36] rfl nbe krf krf rfl krf rfl fun m0 f7 => wp 1 (nq (ct ?_))))
 obtain rfl := oi hr
 refine aov _ [(zan #[(str y7), (str a2.2.1), (str b6.1), (Vi .i64 a2.2.2.2.1), (Vs b0 b7.1.length b2), (Vs c2 c1.1.length c3)]), (bt (0 : UInt8))] (zak #[(zan #[(str y7), (str a2.2.1), (str b6.1), (Vi .i64 a2.2.2.2.1), (Vs b0 b7.1.length b2), (Vs c2 c1.1.length c3)]), (bt (0 : UInt8))]) rfl rfl (abe (ahu f7 3 b4 36 (Zz2 y7 a2.2.1 b6.1 a2.2.2.2.1 b0 b7.1.length b2 c2 c1.1.length c3) rfl krf krf krf) (abe (afd krf) agr)) rfl ?_
 exact ⟨c8, b0, b2, d1, c2, c3, (by first | rfl | (simp; done) | (simp; omega)), (Hp.front f7 1 _ rfl).kp⟩
 exact nzz hr
 exact nzz hr
 exact nzz hr
 exact nzz hr
 exact nzz hr
theorem adl {fu : Nat} {a2 : (Unit × (List UInt8))} {a7 : Str} (a1 : Nat) (a6 : Bool) (a5 : Option Nat) (a3 : Option Addr) (a4 : Nat) {w : World} {r : (Int × Unit × (Unit × (List UInt8)))} (hr : acf fu a2 a7 = some r) (hG : Gl w) (hM : Hp w (abh [blk a1 [(Vp (bif a6 then some ⟨a1, 0, none⟩ else none)), (Vs a3 a2.2.length a4)] 111, rwt eB 5 1 a5 a3 a4 a2.2]) [blk a1 [(Vp (bif a6 then some ⟨a1, 0, none⟩ else none)), (Vs a3 a2.2.length a4)] 111, rwt eB 5 1 a5 a3 a4 a2.2] w) (hS : ∀ b ∈ abh [blk a1 [(Vp (bif a6 then some ⟨a1, 0, none⟩ else none)), (Vs a3 a2.2.length a4)] 111, rwt eB 5 1 a5 a3 a4 a2.2], 9 ≤ b) : CR prog 104 [(Vp (some ⟨a1, 0, none⟩)), (str a7)] w fun v w' => ∃ (o0 : Option Nat), ∃ (a0 : Option Addr), ∃ (cap0 : Nat), v = (zak #[(Vi .i64 r.1), Value.nilIface]) ∧ Hp w (abh [blk a1 [(Vp (bif a6 then some ⟨a1, 0, none⟩ else none)), (Vs a3 a2.2.length a4)] 111, rwt eB 5 1 a5 a3 a4 a2.2]) [blk a1 [(Vp (some ⟨a1, 0, none⟩)), (Vs a0 r.2.2.2.length cap0)] 111, rwt eB 5 1 o0 a0 cap0 r.2.2.2] w' := by
 have hH : Hp w (abh (Zz69 a1 a6 a3 a2.2.length a4 a5 a2.2)) (Zz69 a1 a6 a3 a2.2.length a4 a5 a2.2) w := hM
 refine enter (k := 19) func104 rfl rfl nbe ?_
 unfold acf at hr
 refine sr (wp 2 (nq (sr (wp 1 (aat 165 #[] (Zz45 a1) _ ent165 krf krf (sh_copyCheck a1 a6 (Vs a3 a2.2.length a4) w (hH.hand (L1 := [blk a1 (Zz33 a6 a1 a3 a2.2.length a4) 111]) (L2 := [rwt eB 5 1 a5 a3 a4 a2.2]))) ?_)))))
 rintro _ w4 ⟨rfl, b1⟩
 have b2 : Hp w (abh (Zz69 a1 a6 a3 a2.2.length a4 a5 a2.2)) (Zz46 a1 a3 a2.2.length a4 a5 a2.2) w4 := Hp.callK (L1 := [blk a1 (Zz33 a6 a1 a3 a2.2.length a4) 111]) (L2 := [rwt eB 5 1 a5 a3 a4 a2.2]) hH b1; clear b1
 refine nq (sr (wp 4 (abs b2 0 a1 1 (Zz20 a1 a3 a2.2.length a4) 111 (Vs a3 a2.2.length a4) rfl rfl krf krf (wp 1 (gi hr fun g7 hr => w_appS b2 1 a5 a3 a4 5 a2.2 a7 rfl underlying85 underlying9 (by unfold TI; kernel_rfl) krf krf krf g7 fun o8 a9 a8 b3 b0 => ?_)))))
 replace b0 : Hp w (abh (Zz69 a1 a6 a3 a2.2.length a4 a5 a2.2)) [blk a1 (Zz20 a1 a3 a2.2.length a4) 111, rwt eB 5 1 o8 a9 a8 (a2.2 ++ a7)] b3 := b0
 refine wp 2 (aib b0 0 a1 1 (Zz20 a1 a3 a2.2.length a4) 111 (Vs a9 ((a2.2 ++ a7).length) a8) [blk a1 [(Vp (some ⟨a1, 0, none⟩)), (Vs a9 ((a2.2 ++ a7).length) a8)] 111, rwt eB 5 1 o8 a9 a8 (a2.2 ++ a7)] rfl (zaj (zad _) nbe) krf krf rfl krf rfl fun b5 b4 => nq (sr (wp 4 (nq (ct ?_)))))
 obtain rfl := oi hr
 refine r_two (Vi .i64 (a7.length : Int)) Value.nilIface rfl krf krf ?_
 exact ⟨o8, a9, a8, (by first | rfl | (simp; done) | (simp; omega)), (Hp.front (Hp.front b4 1 _ rfl) 1 _ rfl).kp⟩
theorem ent14 : Wk.Enters prog 14 := ⟨f14, _, func14, rfl, krf⟩
theorem ent24 : Wk.Enters prog 24 := ⟨f24, _, func24, rfl, krf⟩
theorem ent25 : Wk.Enters prog 25 := ⟨f25, _, func25, rfl, krf⟩
theorem ent29 : Wk.Enters prog 29 := ⟨f29, _, func29, rfl, krf⟩
theorem ent48 : Wk.Enters prog 48 := ⟨f48, _, func48, rfl, krf⟩
theorem ent56 : Wk.Enters prog 56 := ⟨f56, _, func56, rfl, krf⟩
theorem ent57 : Wk.Enters prog 57 := ⟨f57, _, func57, rfl, krf⟩
theorem ent58 : Wk.Enters prog 58 := ⟨f58, _, func58, rfl, krf⟩
theorem ent62 : Wk.Enters prog 62 := ⟨f62, _, func62, rfl, krf⟩
theorem ent69 : Wk.Enters prog 69 := ⟨f69, _, func69, rfl, krf⟩
theorem ent104 : Wk.Enters prog 104 := ⟨f104, _, func104, rfl, krf⟩
theorem ent105 : Wk.Enters prog 105 := ⟨f105, _, func105, rfl, krf⟩
theorem ent114 : Wk.Enters prog 114 := ⟨f114, _, func114, rfl, krf⟩
theorem ent127 : Wk.Enters prog 127 := ⟨f127, _, func127, rfl, krf⟩
theorem ent128 : Wk.Enters prog 128 := ⟨f128, _, func128, rfl, krf⟩
theorem aqm {fu : Nat} {s_0 : Str} {b1 : Int} {w : World} {r : Str} (hr : amr fu s_0 b1 = some r) (hG : Gl w) : CR prog 128 [(str s_0), (Vi .i64 b1)] w fun v w' => v = (str r) ∧ Hp w [] [] w' := by
 have hH := Hp.refl w
 refine enter (k := 42) func128 rfl rfl nbe ?_
 unfold amr at hr
 refine sr (wp 1 (nq (sr (wp 2 (gi hr fun g1 hr => w_makeT (f := eB) hH 5 1 1 .i64 .i64 (s_0.length : Int) underlying85 (by unfold TI; kernel_rfl) (by decide) krf krf g1 fun o2 a3 cap4 w5 c2 => ?_)))))
 refine wp 1 (nq (bi hr fun b6 c3 hr => cut (σ := (List UInt8) × (Option Nat) × (Option Addr) × Nat) [4, 5] (fun ⟨a4, b2, a9, b0⟩ => [(5, (Vs a9 a4.length b0))]) (fun ⟨a4, b2, a9, b0⟩ w' => Hp w [] [rwt eB 5 1 b2 a9 b0 a4] w' ∧ a4 = b6) ?_ ?_))
 refine sr (wp 3 (nq (ce (lpG (σ := Nat × (List UInt8) × Int × (Option Nat) × (Option Addr) × Nat) [0, 1, 4, 5, 11, 12] (fun ⟨a7, a2, a1, a8, a5, a6⟩ => [(5, (Vs a5 a2.length a6)), (12, (Vi .i64 a1))]) (fun ⟨a7, a2, a1, a8, a5, a6⟩ w' => Hp w [] [rwt eB 5 1 a8 a5 a6 a2] w' ∧ ajs fu s_0 b1 a7 a2 a1 = some b6) (fun ⟨a7, a2, a1, a8, a5, a6⟩ => a7) (fu, ([] : List UInt8), (0 : Int), o2, a3, cap4) (by exact ⟨c2.kp, c3⟩) ?_ (mc krf (mc krf (mc krf (mc (Eq.trans (b := (Vs a3 0 cap4)) krf (aaj lsy)) (mc krf (mc krf rfl))))))))))
 rintro ⟨_ | a7, a2, a1, a8, a5, a6⟩ d4 G ⟨b3, a0⟩
 · exact nzz a0
 rw [ajs.eq_2] at a0
 refine sr (wp 1 (nq (cs (cd a0 (fun c4 a0 => ?_) (fun c4 a0 => ?_)))))
 refine ck (qn (cs (ce (sr (wp 2 (nq (cs ?_)))))))
 refine cr (wp 2 (gi a0 fun c5 a0 => abi s_0 .i64 a1 underlying9 krf krf c5 (wp 1 (bi a0 fun d5 c6 a0 => wc ent178 b3 (aqb c6 (hG.hp0 b3)) fun d6 c7 => nq (cb a0 (fun c8 a0 => ?_) (fun c8 a0 => ?_))))))
 refine cr (wp 3 (gi a0 fun c9 a0 => abi s_0 .i64 a1 underlying9 krf krf c9 (adr c7 [(bt (at_ s_0 a1))] 5 (fun b => (Vs (some ⟨b, 0, none⟩) 1 1)) rfl rfl krf fun b4 d7 b7 => gi a0 fun d0 a0 => adm b7 1 a8 a5 (some ⟨b4, 0, none⟩) a6 1 5 1 1 a2 ([at_ s_0 a1] : List UInt8) akh rfl underlying85 (by unfold TI; kernel_rfl) (by decide) (by decide) krf (Eq.trans (b := (Vs (some ⟨b4, 0, none⟩) 1 1)) krf (aaj (by first | rfl | (simp; done) | omega | (simp; omega) | (rw [zah]; omega)))) (b7.rdblk 0 rfl) d0 fun b8 b9 c0 d1 b5 => ?_)))
 replace b5 : Hp w [] [blk b4 [(bt (at_ s_0 a1))] 5, rwt eB 5 1 b8 b9 c0 (a2 ++ ([at_ s_0 a1] : List UInt8))] d1 := b5
 refine wp 1 (wl (bn (qn (cr (gi a0 fun d2 a0 => aae a1 (1 : Int) krf krf d2 (wp 1 (wl (ql ?_))))))))
 exact ⟨(a7, a2 ++ ([at_ s_0 a1] : List UInt8), a1 + (1 : Int), b8, b9, c0), _, rfl, by kernel_rfl, ⟨(Hp.front b5 1 _ rfl).kp, a0⟩, zad _⟩
 exact nzz a0
 refine abq (abp (aby (abr (ql ?_))))
 obtain rfl := oi a0
 exact ⟨(a2, a8, a5, a6), _, rfl, by kernel_rfl, b3.kp, rfl⟩
 rintro ⟨a4, b2, a9, b0⟩ d3 G ⟨c1, rfl⟩
 refine sr (wp 1 (aes (v := (str a4)) (w' := d3) rfl rfl (apn a4 a9 a4.length b0 5 (Rd.bytes (c1.rdrw 0 rfl)) (by first | rfl | (simp; done) | omega | (simp; omega) | (rw [zah]; omega)) underlying85 underlying9 underlying5 krf) (wp 1 (nq (ct ?_)))))
 obtain rfl := oi hr
 exact rv c1.kp
theorem K_L_address_Print {fu : Nat} {a0 : (Str × Str × Str × Int × (List PQ) × (List PQ))} (b0 : Option Addr) (e3 : Nat) (b2 : Nat) (b3 : Option Addr) (e4 : Nat) (b4 : Nat) {w : World} {r : (Str × UInt8)} (hr : apx fu a0 = some r) (hG : Gl w) (h8 : e3 = a0.2.2.2.2.1.length) (h9 : Rd w b0 (zai aaa a0.2.2.2.2.1)) (i0 : e3 ≤ b2) (i1 : e4 = a0.2.2.2.2.2.length) (i2 : Rd w b3 (zai aaa a0.2.2.2.2.2)) (i3 : e4 ≤ b4) : CR prog 62 [(zan #[(str a0.1), (str a0.2.1), (str a0.2.2.1), (Vi .i64 a0.2.2.2.1), (Vs b0 e3 b2), (Vs b3 e4 b4)])] w fun v w' => v = (zak #[(str r.1), (bt r.2)]) ∧ Hp w [] [] w' := by
 subst h8
 subst i1
 have hH := Hp.refl w
 refine enter (k := 91) func62 rfl rfl nbe ?_
 unfold apx at hr
 refine sr (adr hH (Zz2 a0.1 a0.2.1 a0.2.2.1 a0.2.2.2.1 b0 a0.2.2.2.2.1.length b2 b3 a0.2.2.2.2.2.length b4) 36 (fun b => (Vp (some ⟨b, 0, none⟩))) rfl rfl krf fun b1 w2 d6 => wp 2 (nq (sr (ant d6 0 b1 0 6 (Zz2 a0.1 a0.2.1 a0.2.2.1 a0.2.2.2.1 b0 a0.2.2.2.2.1.length b2 b3 a0.2.2.2.2.2.length b4) (Zz2 a0.1 a0.2.1 a0.2.2.1 a0.2.2.2.1 b0 a0.2.2.2.2.1.length b2 b3 a0.2.2.2.2.2.length b4) 36 rfl rfl rfl krf krf krf (bi hr fun y4 i4 hr => ?_)))))
 refine aat 127 #[] [(zan #[(str a0.1), (str a0.2.1), (str a0.2.2.1), (Vi .i64 a0.2.2.2.1), (Vs b0 a0.2.2.2.2.1.length b2), (Vs b3 a0.2.2.2.2.2.length b4)])] _ ent127 krf krf (K_L_address_Normal b0 a0.2.2.2.2.1.length b2 b3 a0.2.2.2.2.2.length b4 i4 (hG.hp0 d6) rfl (h9.hp d6) i0 rfl (i2.hp d6) i3) ?_
 rintro _ w6 ⟨o9, a1, a2, a8, a3, a4, rfl, f8⟩
 have i5 : Hp w [] [rwt aaa 65 3 o9 a1 a2 y4.1.2.2.2.2.1, rwt aaa 65 3 a8 a3 a4 y4.1.2.2.2.2.2, blk b1 (Zz2 a0.1 a0.2.1 a0.2.2.1 a0.2.2.2.1 b0 a0.2.2.2.2.1.length b2 b3 a0.2.2.2.2.2.length b4) 36] w6 := Hp.callK (L1 := []) (L2 := [blk b1 (Zz2 a0.1 a0.2.1 a0.2.2.1 a0.2.2.2.1 b0 a0.2.2.2.2.1.length b2 b3 a0.2.2.2.2.2.length b4) 36]) d6 f8; clear f8
 refine wp 3 (adr i5 (Zz3) 36 (fun b => (Vp (some ⟨b, 0, none⟩))) rfl rfl krf fun a7 m5 i6 => ahq i6 0 a7 0 (Zz3) (Zz2 y4.1.1 y4.1.2.1 y4.1.2.2.1 y4.1.2.2.2.1 a1 y4.1.2.2.2.2.1.length a2 a3 y4.1.2.2.2.2.2.length a4) 36 [blk a7 (Zz2 y4.1.1 y4.1.2.1 y4.1.2.2.1 y4.1.2.2.2.1 a1 y4.1.2.2.2.2.1.length a2 a3 y4.1.2.2.2.2.2.length a4) 36, rwt aaa 65 3 o9 a1 a2 y4.1.2.2.2.2.1, rwt aaa 65 3 a8 a3 a4 y4.1.2.2.2.2.2, blk b1 (Zz2 a0.1 a0.2.1 a0.2.2.1 a0.2.2.2.1 b0 a0.2.2.2.2.1.length b2 b3 a0.2.2.2.2.2.length b4) 36] rfl nbe krf krf rfl krf rfl fun m6 i7 => wp 1 (nq (cs (sr (wp 1 ?_)))))
 refine afp y4.2 (0 : UInt8) krf krf (nq (cn hr (fun i9 hr => ?_) (fun i9 hr => ?_)))
 exact nzz hr
 refine ck (qn (sr (adr i7 (Zz97) 111 (fun b => (Vp (some ⟨b, 0, none⟩))) rfl rfl krf fun a5 f9 g0 => nq (sr (wp 1 ?_)))))
 refine abs g0 1 a7 0 (Zz2 y4.1.1 y4.1.2.1 y4.1.2.2.1 y4.1.2.2.2.1 a1 y4.1.2.2.2.2.1.length a2 a3 y4.1.2.2.2.2.2.length a4) 36 (str y4.1.1) rfl rfl krf krf (gi hr fun j0 hr => adf y4.1.1 ([58] : Str) krf krf j0 ?_)
 have e5 := g0.nilrw eB 5 1 none
 replace e5 : Hp w [] [rwt eB 5 1 none none 0 ([] : List UInt8), blk a5 (Zz97) 111, blk a7 (Zz2 y4.1.1 y4.1.2.1 y4.1.2.2.1 y4.1.2.2.2.1 a1 y4.1.2.2.2.2.1.length a2 a3 y4.1.2.2.2.2.2.length a4) 36, rwt aaa 65 3 o9 a1 a2 y4.1.2.2.2.2.1, rwt aaa 65 3 a8 a3 a4 y4.1.2.2.2.2.2, blk b1 (Zz2 a0.1 a0.2.1 a0.2.2.1 a0.2.2.2.1 b0 a0.2.2.2.2.1.length b2 b3 a0.2.2.2.2.2.length b4) 36] f9 := e5
 refine bi hr fun c4 j1 hr => ?_
 have d8 : Hp w [] [blk a5 (Zz97) 111, rwt eB 5 1 none none 0 ([] : List UInt8), blk a7 (Zz2 y4.1.1 y4.1.2.1 y4.1.2.2.1 y4.1.2.2.2.1 a1 y4.1.2.2.2.2.1.length a2 a3 y4.1.2.2.2.2.2.length a4) 36, rwt aaa 65 3 o9 a1 a2 y4.1.2.2.2.2.1, rwt aaa 65 3 a8 a3 a4 y4.1.2.2.2.2.2, blk b1 (Zz2 a0.1 a0.2.1 a0.2.2.1 a0.2.2.2.1 b0 a0.2.2.2.2.1.length b2 b3 a0.2.2.2.2.2.length b4) 36] f9 := e5.front 1 _ rfl
 refine aat 104 #[] [(Vp (some ⟨a5, 0, none⟩)), (str (y4.1.1 ++ ([58] : Str)))] _ ent104 krf krf (adl a5 false none none 0 j1 (hG.hp0 d8) (d8.hand (L1 := [blk a5 (Zz97) 111, rwt eB 5 1 none none 0 ([] : List UInt8)]) (L2 := [blk a7 (Zz2 y4.1.1 y4.1.2.1 y4.1.2.2.1 y4.1.2.2.2.1 a1 y4.1.2.2.2.2.1.length a2 a3 y4.1.2.2.2.2.2.length a4) 36, rwt aaa 65 3 o9 a1 a2 y4.1.2.2.2.2.1, rwt aaa 65 3 a8 a3 a4 y4.1.2.2.2.2.2, blk b1 (Zz2 a0.1 a0.2.1 a0.2.2.1 a0.2.2.2.1 b0 a0.2.2.2.2.1.length b2 b3 a0.2.2.2.2.2.length b4) 36])) (d8.highs hG (fun _ h => absurd h (by simp)) 2 rfl)) ?_
 rintro _ j2 ⟨d1, c2, c3, rfl, g1⟩
 have d3 : Hp w [] [blk a5 (Zz20 a5 c2 c4.2.2.2.length c3) 111, rwt eB 5 1 d1 c2 c3 c4.2.2.2, blk a7 (Zz2 y4.1.1 y4.1.2.1 y4.1.2.2.1 y4.1.2.2.2.1 a1 y4.1.2.2.2.2.1.length a2 a3 y4.1.2.2.2.2.2.length a4) 36, rwt aaa 65 3 o9 a1 a2 y4.1.2.2.2.2.1, rwt aaa 65 3 a8 a3 a4 y4.1.2.2.2.2.2, blk b1 (Zz2 a0.1 a0.2.1 a0.2.2.1 a0.2.2.2.1 b0 a0.2.2.2.2.1.length b2 b3 a0.2.2.2.2.2.length b4) 36] j2 := Hp.callK (L1 := [blk a5 (Zz97) 111, rwt eB 5 1 none none 0 ([] : List UInt8)]) (L2 := [blk a7 (Zz2 y4.1.1 y4.1.2.1 y4.1.2.2.1 y4.1.2.2.2.1 a1 y4.1.2.2.2.2.1.length a2 a3 y4.1.2.2.2.2.2.length a4) 36, rwt aaa 65 3 o9 a1 a2 y4.1.2.2.2.2.1, rwt aaa 65 3 a8 a3 a4 y4.1.2.2.2.2.2, blk b1 (Zz2 a0.1 a0.2.1 a0.2.2.1 a0.2.2.2.1 b0 a0.2.2.2.2.1.length b2 b3 a0.2.2.2.2.2.length b4) 36]) d8 g1; clear g1
 refine nq (bi hr fun j3 b8 hr => cut (σ := (List UInt8) × (Option Nat) × (Option Addr) × Nat) [2, 3, 4, 6] (fun ⟨b9, d0, c0, c1⟩ => []) (fun ⟨b9, d0, c0, c1⟩ w' => Hp w [] [blk a5 (Zz20 a5 c0 b9.length c1) 111, blk a7 (Zz2 y4.1.1 y4.1.2.1 y4.1.2.2.1 y4.1.2.2.2.1 a1 y4.1.2.2.2.2.1.length a2 a3 y4.1.2.2.2.2.2.length a4) 36, rwt aaa 65 3 o9 a1 a2 y4.1.2.2.2.2.1, rwt aaa 65 3 a8 a3 a4 y4.1.2.2.2.2.2, rwt eB 5 1 d0 c0 c1 b9] w' ∧ b9 = j3) ?_ ?_)
 refine sr (wp 1 (abs d3 2 a7 0 (Zz2 y4.1.1 y4.1.2.1 y4.1.2.2.1 y4.1.2.2.2.1 a1 y4.1.2.2.2.2.1.length a2 a3 y4.1.2.2.2.2.2.length a4) 36 (str y4.1.1) rfl rfl krf krf (wp 1 (nq (cd b8 (fun j4 b8 => ?_) (fun j4 b8 => ?_))))))
 exact nzz b8
 refine sr (wp 1 (abs d3 2 a7 1 (Zz2 y4.1.1 y4.1.2.1 y4.1.2.2.1 y4.1.2.2.2.1 a1 y4.1.2.2.2.2.1.length a2 a3 y4.1.2.2.2.2.2.length a4) 36 (str y4.1.2.1) rfl rfl krf krf (wp 1 (nq (cn b8 (fun j5 b8 => ?_) (fun j5 b8 => ?_))))))
 refine cr (wp 1 (abs d3 2 a7 1 (Zz2 y4.1.1 y4.1.2.1 y4.1.2.2.1 y4.1.2.2.2.1 a1 y4.1.2.2.2.2.1.length a2 a3 y4.1.2.2.2.2.2.length a4) 36 (str y4.1.2.1) rfl rfl krf krf (bi b8 fun g2 j6 b8 => wc ent128 d3 (aqm j6 (hG.hp0 d3)) fun g3 j7 => gi b8 fun j8 b8 => adf g2 ([64] : Str) krf krf j8 (bi b8 fun e6 j9 b8 => ?_))))
 have k0 : Hp w [] [rwt eB 5 1 d1 c2 c3 c4.2.2.2, blk a5 (Zz20 a5 c2 c4.2.2.2.length c3) 111, blk a7 (Zz2 y4.1.1 y4.1.2.1 y4.1.2.2.1 y4.1.2.2.2.1 a1 y4.1.2.2.2.2.1.length a2 a3 y4.1.2.2.2.2.2.length a4) 36, rwt aaa 65 3 o9 a1 a2 y4.1.2.2.2.2.1, rwt aaa 65 3 a8 a3 a4 y4.1.2.2.2.2.2, blk b1 (Zz2 a0.1 a0.2.1 a0.2.2.1 a0.2.2.2.1 b0 a0.2.2.2.2.1.length b2 b3 a0.2.2.2.2.2.length b4) 36] g3 := j7.front 1 _ rfl
 have d9 : Hp w [] [blk a5 (Zz20 a5 c2 c4.2.2.2.length c3) 111, rwt eB 5 1 d1 c2 c3 c4.2.2.2, blk a7 (Zz2 y4.1.1 y4.1.2.1 y4.1.2.2.1 y4.1.2.2.2.1 a1 y4.1.2.2.2.2.1.length a2 a3 y4.1.2.2.2.2.2.length a4) 36, rwt aaa 65 3 o9 a1 a2 y4.1.2.2.2.2.1, rwt aaa 65 3 a8 a3 a4 y4.1.2.2.2.2.2, blk b1 (Zz2 a0.1 a0.2.1 a0.2.2.1 a0.2.2.2.1 b0 a0.2.2.2.2.1.length b2 b3 a0.2.2.2.2.2.length b4) 36] g3 := k0.front 1 _ rfl
 refine aat 104 #[] [(Vp (some ⟨a5, 0, none⟩)), (str (g2 ++ ([64] : Str)))] _ ent104 krf krf (adl a5 true d1 c2 c3 j9 (hG.hp0 d9) (d9.hand (L1 := (Zz46 a5 c2 c4.2.2.2.length c3 d1 c4.2.2.2)) (L2 := [blk a7 (Zz2 y4.1.1 y4.1.2.1 y4.1.2.2.1 y4.1.2.2.2.1 a1 y4.1.2.2.2.2.1.length a2 a3 y4.1.2.2.2.2.2.length a4) 36, rwt aaa 65 3 o9 a1 a2 y4.1.2.2.2.2.1, rwt aaa 65 3 a8 a3 a4 y4.1.2.2.2.2.2, blk b1 (Zz2 a0.1 a0.2.1 a0.2.2.1 a0.2.2.2.1 b0 a0.2.2.2.2.1.length b2 b3 a0.2.2.2.2.2.length b4) 36])) (d9.highs hG (fun _ h => absurd h (by simp)) 2 rfl)) ?_
 rintro _ k1 ⟨g4, e7, e8, rfl, g5⟩
 have k2 : Hp w [] [blk a5 (Zz20 a5 e7 e6.2.2.2.length e8) 111, rwt eB 5 1 g4 e7 e8 e6.2.2.2, blk a7 (Zz2 y4.1.1 y4.1.2.1 y4.1.2.2.1 y4.1.2.2.2.1 a1 y4.1.2.2.2.2.1.length a2 a3 y4.1.2.2.2.2.2.length a4) 36, rwt aaa 65 3 o9 a1 a2 y4.1.2.2.2.2.1, rwt aaa 65 3 a8 a3 a4 y4.1.2.2.2.2.2, blk b1 (Zz2 a0.1 a0.2.1 a0.2.2.1 a0.2.2.2.1 b0 a0.2.2.2.2.1.length b2 b3 a0.2.2.2.2.2.length b4) 36] k1 := Hp.callK (L1 := (Zz46 a5 c2 c4.2.2.2.length c3 d1 c4.2.2.2)) (L2 := [blk a7 (Zz2 y4.1.1 y4.1.2.1 y4.1.2.2.1 y4.1.2.2.2.1 a1 y4.1.2.2.2.2.1.length a2 a3 y4.1.2.2.2.2.2.length a4) 36, rwt aaa 65 3 o9 a1 a2 y4.1.2.2.2.2.1, rwt aaa 65 3 a8 a3 a4 y4.1.2.2.2.2.2, blk b1 (Zz2 a0.1 a0.2.1 a0.2.2.1 a0.2.2.2.1 b0 a0.2.2.2.2.1.length b2 b3 a0.2.2.2.2.2.length b4) 36]) d9 g5; clear g5
 refine wl (ql ?_)
 obtain rfl := oi b8
 exact ⟨(e6.2.2.2, g4, e7, e8), _, rfl, by kernel_rfl, (Hp.front (Hp.front (Hp.front (Hp.front (Hp.front k2 1 _ rfl) 4 _ rfl) 4 _ rfl) 4 _ rfl) 4 _ rfl).kp, rfl⟩
 refine ck (ql ?_)
 obtain rfl := oi b8
 exact ⟨(c4.2.2.2, d1, c2, c3), _, rfl, by kernel_rfl, (Hp.front (Hp.front (Hp.front (Hp.front (Hp.front d3 1 _ rfl) 4 _ rfl) 4 _ rfl) 4 _ rfl) 4 _ rfl).kp, rfl⟩
 rintro ⟨b9, d0, c0, c1⟩ g6 G ⟨g7, rfl⟩
 refine sr (wp 1 (abs g7 1 a7 2 (Zz2 y4.1.1 y4.1.2.1 y4.1.2.2.1 y4.1.2.2.2.1 a1 y4.1.2.2.2.2.1.length a2 a3 y4.1.2.2.2.2.2.length a4) 36 (str y4.1.2.2.1) rfl rfl krf krf (bi hr fun e9 k3 hr => ?_)))
 have k4 : Hp w [] [rwt eB 5 1 d0 c0 c1 b9, blk a5 (Zz20 a5 c0 b9.length c1) 111, blk a7 (Zz2 y4.1.1 y4.1.2.1 y4.1.2.2.1 y4.1.2.2.2.1 a1 y4.1.2.2.2.2.1.length a2 a3 y4.1.2.2.2.2.2.length a4) 36, rwt aaa 65 3 o9 a1 a2 y4.1.2.2.2.2.1, rwt aaa 65 3 a8 a3 a4 y4.1.2.2.2.2.2] g6 := g7.front 4 _ rfl
 have e0 : Hp w [] [blk a5 (Zz20 a5 c0 b9.length c1) 111, rwt eB 5 1 d0 c0 c1 b9, blk a7 (Zz2 y4.1.1 y4.1.2.1 y4.1.2.2.1 y4.1.2.2.2.1 a1 y4.1.2.2.2.2.1.length a2 a3 y4.1.2.2.2.2.2.length a4) 36, rwt aaa 65 3 o9 a1 a2 y4.1.2.2.2.2.1, rwt aaa 65 3 a8 a3 a4 y4.1.2.2.2.2.2] g6 := k4.front 1 _ rfl
 refine aat 104 #[] [(Vp (some ⟨a5, 0, none⟩)), (str y4.1.2.2.1)] _ ent104 krf krf (adl a5 true d0 c0 c1 k3 (hG.hp0 e0) (e0.hand (L1 := (Zz46 a5 c0 b9.length c1 d0 b9)) (L2 := [blk a7 (Zz2 y4.1.1 y4.1.2.1 y4.1.2.2.1 y4.1.2.2.2.1 a1 y4.1.2.2.2.2.1.length a2 a3 y4.1.2.2.2.2.2.length a4) 36, rwt aaa 65 3 o9 a1 a2 y4.1.2.2.2.2.1, rwt aaa 65 3 a8 a3 a4 y4.1.2.2.2.2.2])) (e0.highs hG (fun _ h => absurd h (by simp)) 2 rfl)) ?_
 rintro _ k5 ⟨g8, f0, f1, rfl, g9⟩
 have f2 : Hp w [] [blk a5 (Zz20 a5 f0 e9.2.2.2.length f1) 111, rwt eB 5 1 g8 f0 f1 e9.2.2.2, blk a7 (Zz2 y4.1.1 y4.1.2.1 y4.1.2.2.1 y4.1.2.2.2.1 a1 y4.1.2.2.2.2.1.length a2 a3 y4.1.2.2.2.2.2.length a4) 36, rwt aaa 65 3 o9 a1 a2 y4.1.2.2.2.2.1, rwt aaa 65 3 a8 a3 a4 y4.1.2.2.2.2.2] k5 := Hp.callK (L1 := (Zz46 a5 c0 b9.length c1 d0 b9)) (L2 := [blk a7 (Zz2 y4.1.1 y4.1.2.1 y4.1.2.2.1 y4.1.2.2.2.1 a1 y4.1.2.2.2.2.1.length a2 a3 y4.1.2.2.2.2.2.length a4) 36, rwt aaa 65 3 o9 a1 a2 y4.1.2.2.2.2.1, rwt aaa 65 3 a8 a3 a4 y4.1.2.2.2.2.2]) e0 g9; clear g9
 refine nq (cs (sr (wp 1 (abs f2 2 a7 3 (Zz2 y4.1.1 y4.1.2.1 y4.1.2.2.1 y4.1.2.2.2.1 a1 y4.1.2.2.2.2.1.length a2 a3 y4.1.2.2.2.2.2.length a4) 36 (Vi .i64 y4.1.2.2.2.1) rfl rfl krf krf (wp 1 (nq (cn hr (fun k6 hr => ?_) (fun k6 hr => ?_))))))))
 exact nzz hr
 refine ck (qn (bi hr fun h0 k7 hr => cut (σ := (List UInt8) × (Option Nat) × (Option Addr) × Nat) [2, 3, 4, 6] (fun ⟨c6, d4, c7, c8⟩ => []) (fun ⟨c6, d4, c7, c8⟩ w' => Hp w [] [blk a5 (Zz20 a5 c7 c6.length c8) 111, blk a7 (Zz2 y4.1.1 y4.1.2.1 y4.1.2.2.1 y4.1.2.2.2.1 a1 y4.1.2.2.2.2.1.length a2 a3 y4.1.2.2.2.2.2.length a4) 36, rwt aaa 65 3 o9 a1 a2 y4.1.2.2.2.2.1, rwt aaa 65 3 a8 a3 a4 y4.1.2.2.2.2.2, rwt eB 5 1 d4 c7 c8 c6] w' ∧ c6 = h0) ?_ ?_))
 refine sr (wp 1 (abs f2 2 a7 4 (Zz2 y4.1.1 y4.1.2.1 y4.1.2.2.1 y4.1.2.2.2.1 a1 y4.1.2.2.2.2.1.length a2 a3 y4.1.2.2.2.2.2.length a4) 36 (Vs a1 y4.1.2.2.2.2.1.length a2) rfl rfl krf krf (wp 2 (nq (ce (lpG (σ := Nat × Int × (List UInt8) × (Option Nat) × (Option Addr) × Nat) [2, 3, 4, 6, 49, 50, 51] (fun ⟨d5, a6, b5, c5, b6, b7⟩ => [(51, (Vi .i64 a6))]) (fun ⟨d5, a6, b5, c5, b6, b7⟩ w' => Hp w [] [blk a5 (Zz20 a5 b6 b5.length b7) 111, blk a7 (Zz2 y4.1.1 y4.1.2.1 y4.1.2.2.1 y4.1.2.2.2.1 a1 y4.1.2.2.2.2.1.length a2 a3 y4.1.2.2.2.2.2.length a4) 36, rwt aaa 65 3 o9 a1 a2 y4.1.2.2.2.2.1, rwt aaa 65 3 a8 a3 a4 y4.1.2.2.2.2.2, rwt eB 5 1 c5 b6 b7 b5] w' ∧ akn fu y4 d5 a6 b5 = some h0) (fun ⟨d5, a6, b5, c5, b6, b7⟩ => d5) (fu, (0 : Int), e9.2.2.2, g8, f0, f1) (by exact ⟨(Hp.front (Hp.front (Hp.front (Hp.front (Hp.front f2 1 _ rfl) 4 _ rfl) 4 _ rfl) 4 _ rfl) 4 _ rfl).kp, k7⟩) ?_))))))
 rintro ⟨_ | d5, a6, b5, c5, b6, b7⟩ m7 G ⟨e1, a9⟩
 · exact nzz a9
 rw [akn.eq_2] at a9
 refine sr (wp 1 (nq (cs (cd a9 (fun k8 a9 => ?_) (fun k8 a9 => ?_)))))
 refine ck (qn (cs (ce (sr (gi a9 fun k9 a9 => ahl a1 y4.1.2.2.2.2.1.length a2 65 3 .i64 a6 underlying22 krf krf krf y4.1.2.2.2.2.1 rfl k9 (e1.rdrw 2 rfl) aab (by decide) (gi a9 fun l0 a9 => ajh a1 aaa y4.1.2.2.2.2.1 3 a6 aab (e1.rdrw 2 rfl) (Zz0 y4.1.2.2.2.2.1 a6) l0 krf krf krf krf (by decide) ?_))))))
 refine adr e1 (Zz6) 65 (fun b => (Vp (some ⟨b, 0, none⟩))) rfl rfl krf fun c9 m8 l1 => ahq l1 0 c9 0 (Zz6) (Zz0 y4.1.2.2.2.2.1 a6) 65 [blk c9 (Zz0 y4.1.2.2.2.2.1 a6) 65, blk a5 (Zz20 a5 b6 b5.length b7) 111, blk a7 (Zz2 y4.1.1 y4.1.2.1 y4.1.2.2.1 y4.1.2.2.2.1 a1 y4.1.2.2.2.2.1.length a2 a3 y4.1.2.2.2.2.2.length a4) 36, rwt aaa 65 3 o9 a1 a2 y4.1.2.2.2.2.1, rwt aaa 65 3 a8 a3 a4 y4.1.2.2.2.2.2, rwt eB 5 1 c5 b6 b7 b5] rfl nbe krf krf rfl krf rfl fun m9 f3 => nq (sr (wp 1 (abs f3 0 c9 0 (Zz0 y4.1.2.2.2.2.1 a6) 65 (str ((el y4.1.2.2.2.2.1 a6).1)) rfl rfl krf krf (bi a9 fun h1 l2 a9 => wc ent128 f3 (aqm l2 (hG.hp0 f3)) fun h2 l3 => ?_))))
 refine gi a9 fun l4 a9 => adf ([59] : Str) h1 krf krf l4 (bi a9 fun f4 l5 a9 => ?_)
 have l6 : Hp w [] [rwt eB 5 1 c5 b6 b7 b5, blk c9 (Zz0 y4.1.2.2.2.2.1 a6) 65, blk a5 (Zz20 a5 b6 b5.length b7) 111, blk a7 (Zz2 y4.1.1 y4.1.2.1 y4.1.2.2.1 y4.1.2.2.2.1 a1 y4.1.2.2.2.2.1.length a2 a3 y4.1.2.2.2.2.2.length a4) 36, rwt aaa 65 3 o9 a1 a2 y4.1.2.2.2.2.1, rwt aaa 65 3 a8 a3 a4 y4.1.2.2.2.2.2] h2 := l3.front 5 _ rfl
 have e2 : Hp w [] [blk a5 (Zz20 a5 b6 b5.length b7) 111, rwt eB 5 1 c5 b6 b7 b5, blk c9 (Zz0 y4.1.2.2.2.2.1 a6) 65, blk a7 (Zz2 y4.1.1 y4.1.2.1 y4.1.2.2.1 y4.1.2.2.2.1 a1 y4.1.2.2.2.2.1.length a2 a3 y4.1.2.2.2.2.2.length a4) 36, rwt aaa 65 3 o9 a1 a2 y4.1.2.2.2.2.1, rwt aaa 65 3 a8 a3 a4 y4.1.2.2.2.2.2] h2 := l6.front 2 _ rfl
 refine aat 104 #[] [(Vp (some ⟨a5, 0, none⟩)), (str (([59] : Str) ++ h1))] _ ent104 krf krf (adl a5 true c5 b6 b7 l5 (hG.hp0 e2) (e2.hand (L1 := (Zz46 a5 b6 b5.length b7 c5 b5)) (L2 := [blk c9 (Zz0 y4.1.2.2.2.2.1 a6) 65, blk a7 (Zz2 y4.1.1 y4.1.2.1 y4.1.2.2.1 y4.1.2.2.2.1 a1 y4.1.2.2.2.2.1.length a2 a3 y4.1.2.2.2.2.2.length a4) 36, rwt aaa 65 3 o9 a1 a2 y4.1.2.2.2.2.1, rwt aaa 65 3 a8 a3 a4 y4.1.2.2.2.2.2])) (e2.highs hG (fun _ h => absurd h (by simp)) 2 rfl)) ?_
 rintro _ l7 ⟨h3, f5, f6, rfl, h4⟩
 have h5 : Hp w [] [blk a5 (Zz20 a5 f5 f4.2.2.2.length f6) 111, rwt eB 5 1 h3 f5 f6 f4.2.2.2, blk c9 (Zz0 y4.1.2.2.2.2.1 a6) 65, blk a7 (Zz2 y4.1.1 y4.1.2.1 y4.1.2.2.1 y4.1.2.2.2.1 a1 y4.1.2.2.2.2.1.length a2 a3 y4.1.2.2.2.2.2.length a4) 36, rwt aaa 65 3 o9 a1 a2 y4.1.2.2.2.2.1, rwt aaa 65 3 a8 a3 a4 y4.1.2.2.2.2.2] l7 := Hp.callK (L1 := (Zz46 a5 b6 b5.length b7 c5 b5)) (L2 := [blk c9 (Zz0 y4.1.2.2.2.2.1 a6) 65, blk a7 (Zz2 y4.1.1 y4.1.2.1 y4.1.2.2.1 y4.1.2.2.2.1 a1 y4.1.2.2.2.2.1.length a2 a3 y4.1.2.2.2.2.2.length a4) 36, rwt aaa 65 3 o9 a1 a2 y4.1.2.2.2.2.1, rwt aaa 65 3 a8 a3 a4 y4.1.2.2.2.2.2]) e2 h4; clear h4
 refine nq (sr (wp 1 (abs h5 2 c9 2 (Zz0 y4.1.2.2.2.2.1 a6) 65 (Vb ((el y4.1.2.2.2.2.1 a6).2.2)) rfl rfl krf krf (nq (cb a9 (fun l8 a9 => ?_) (fun l8 a9 => ?_))))))
 exact nzz a9
 refine ck (bn (qn (cr (gi a9 fun l9 a9 => aae a6 (1 : Int) krf krf l9 (wp 1 (wl (ql ?_)))))))
 exact ⟨(d5, a6 + (1 : Int), f4.2.2.2, h3, f5, f6), _, rfl, by kernel_rfl, ⟨(Hp.front (Hp.front (Hp.front (Hp.front (Hp.front h5 1 _ rfl) 5 _ rfl) 5 _ rfl) 5 _ rfl) 4 _ rfl).kp, a9⟩, zad _⟩
 refine abq (abp (aby (abr (ql ?_))))
 obtain rfl := oi a9
 exact ⟨(b5, c5, b6, b7), _, rfl, by kernel_rfl, (Hp.front (Hp.front (Hp.front (Hp.front (Hp.front e1 4 _ rfl) 4 _ rfl) 4 _ rfl) 4 _ rfl) 4 _ rfl).kp, rfl⟩
 rintro ⟨c6, d4, c7, c8⟩ n0 G ⟨h6, rfl⟩
 refine bi hr fun h7 m0 hr => cut (σ := Unit) [2, 3, 6] (fun f7 => []) (fun f7 w' => Hp w [] (Zz46 a5 c7 c6.length c8 d4 c6) w' ∧ f7 = h7) ?_ ?_
 refine sr (wp 1 (abs h6 1 a7 5 (Zz2 y4.1.1 y4.1.2.1 y4.1.2.2.1 y4.1.2.2.2.1 a1 y4.1.2.2.2.2.1.length a2 a3 y4.1.2.2.2.2.2.length a4) 36 (Vs a3 y4.1.2.2.2.2.2.length a4) rfl rfl krf krf (wp 2 (nq (ce (lpG (σ := Nat) [2, 3, 6, 69, 70, 71] (fun d7 => []) (fun d7 w' => Hp w [] [blk a5 (Zz20 a5 c7 c6.length c8) 111, rwt aaa 65 3 a8 a3 a4 y4.1.2.2.2.2.2, rwt eB 5 1 d4 c7 c8 c6] w' ∧ amu fu y4 d7 = some h7) (fun d7 => d7) fu (by exact ⟨(Hp.front (Hp.front (Hp.front h6 4 _ rfl) 4 _ rfl) 2 _ rfl).kp, m0⟩) ?_))))))
 rintro (_ | d7) n1 G ⟨m1, d2⟩
 · exact nzz d2
 rw [amu.eq_2] at d2
 refine sr (wp 1 (nq (cs (cd d2 (fun m2 d2 => ?_) (fun m2 d2 => ?_)))))
 exact nzz d2
 refine abq (abp (aby (abr (ql ?_))))
 obtain rfl := oi d2
 exact ⟨(), _, rfl, by kernel_rfl, (Hp.front (Hp.front m1 2 _ rfl) 1 _ rfl).kp, rfl⟩
 rintro f7 n2 G ⟨m3, rfl⟩
 refine sr (gi hr fun n3 hr => aat 105 #[] (Zz45 a5) _ ent105 krf krf (sh_BString a5 true d4 c7 c8 c6 m3 0 1 rfl rfl (by decide)) ?_)
 rintro _ n4 ⟨rfl, m4⟩
 refine wp 2 (nq (ct ?_))
 obtain rfl := oi hr
 exact rv m4.kp
theorem anr {fu : Nat} {a1 : List PQ} (b9 : Option Addr) (d8 : Nat) (c2 : Nat) {w : World} {r : (Str × UInt8)} (hr : acu fu a1 = some r) (hG : Gl w) (g3 : d8 = a1.length) (d9 : Rd w b9 (zai aaa a1)) (f0 : d8 ≤ c2) : CR prog 48 [(Vs b9 d8 c2)] w fun v w' => v = (zak #[(str r.1), (bt r.2)]) ∧ Hp w [] [] w' := by
 subst g3
 have hH := Hp.refl w
 refine enter (k := 89) func48 rfl rfl nbe ?_
 unfold acu at hr
 refine sr (wp 2 (nq (cs (sr (wp 3 (wl ?_))))))
 refine qn (cd hr (fun h1 hr => ?_) (fun h1 hr => ?_))
 refine sr (wp 2 (nq (ct (st ?_))))
 obtain rfl := oi hr
 exact rv hH.kp
 refine ck (qn (sr (adr hH (Zz97) 111 (fun b => (Vp (some ⟨b, 0, none⟩))) rfl rfl krf fun b2 w3 g4 => nq (bi hr fun f1 g5 hr => cut (σ := (List UInt8) × Bool × (Option Nat) × (Option Addr) × Nat) [2, 3, 4] (fun ⟨c3, c8, c9, c6, c7⟩ => []) (fun ⟨c3, c8, c9, c6, c7⟩ w' => Hp w [] (Zz69 b2 c8 c6 c3.length c7 c9 c3) w' ∧ .inl c3 = f1) ?_ ?_))))
 refine sr (wp 3 (nq (ce (lpG (σ := Nat × Int × (List UInt8) × Bool × (Option Nat) × (Option Addr) × Nat) [0, 2, 3, 4, 15, 16, 17] (fun ⟨c0, a0, a5, b5, b6, a6, a7⟩ => [(17, (Vi .i64 a0))]) (fun ⟨c0, a0, a5, b5, b6, a6, a7⟩ w' => Hp w [] (Zz69 b2 b5 a6 a5.length a7 b6 a5) w' ∧ aco fu a1 c0 a0 a5 = some f1) (fun ⟨c0, a0, a5, b5, b6, a6, a7⟩ => c0) (fu, (0 : Int), ([] : List UInt8), false, none, none, 0) (by exact ⟨(Hp.front (Hp.nilrw g4 eB 5 1 none) 1 _ rfl).kp, g5⟩) ?_))))
 rintro ⟨_ | c0, a0, a5, b5, b6, a6, a7⟩ k4 G ⟨d0, a2⟩
 · exact nzz a2
 rw [aco.eq_2] at a2
 refine sr (wp 1 (nq (cs (cd a2 (fun g6 a2 => ?_) (fun g6 a2 => ?_)))))
 refine ck (qn (cs (ce (sr (wp 1 (gi a2 fun g7 a2 => ahl b9 a1.length c2 65 3 .i64 a0 underlying22 krf krf krf a1 rfl g7 (d9.hp d0) aab (by decide) (gi a2 fun g8 a2 => ?_)))))))
 refine ajh b9 aaa a1 3 a0 aab (d9.hp d0) (Zz0 a1 a0) g8 krf krf krf krf (by decide) (adr d0 (Zz6) 65 (fun b => (Vp (some ⟨b, 0, none⟩))) rfl rfl krf fun a3 k5 g9 => wp 1 (ahq g9 0 a3 0 (Zz6) (Zz0 a1 a0) 65 [blk a3 (Zz0 a1 a0) 65, blk b2 (Zz33 b5 b2 a6 a5.length a7) 111, rwt eB 5 1 b6 a6 a7 a5] rfl nbe krf krf rfl krf rfl fun k6 d1 => nq (cs (bi a2 fun h0 a4 a2 => age d1 [0, 2, 3, 4, 6, 15, 16, 17, 41] [(41, (Vb h0))] ?_ ?_))))
 refine bi a4 fun d2 e0 a4 => ?_
 rcases Bool.eq_false_or_eq_true (!d2) with c4 | c4
 replace a4 := cft c4 a4
 refine aeh 18 (fun j_ w_ w_' => aay (Zz52) (fun w' => w'.heap[a3]? = some (.cells (Zz0 a1 a0).toArray 65 (0, 0))) j_ w_ w_' ∧ True) (Zz54) (fun _ _ => ⟨aay.same, trivial⟩) krf krf d1 rfl (aam (ade (aak (ade (aam (aak (aam adb))))))) fun k7 e1 => rp 17 [0] (aal (Zz55) 1 23 (str ((el a1 a0).1)) (Zz52) (fun _ _ _ h => h.1) _ rfl rfl krf krf krf krf krf rfl (aba rfl (by intro w hS_; exact (aga a3 0 (Zz0 a1 a0) 65 (str ((el a1 a0).1)) hS_ rfl krf krf))) (by exact e1.blkAt 0 rfl) (ro 2 rfl (wc ent47 e1 (aio e0 (hG.hp0 e1)) fun f2 a8 => wl (abu (by exact ⟨aay.out rfl, trivial⟩) (rp 14 [3] (rt 4 (Vb true) rfl rfl (aba rfl (by intro w hS_; exact Eq.trans (b := Result.ok (Next.value (.bool (!d2))) w) krf (congrArg (fun b => Result.ok (Next.value (.bool b)) w) c4))) (rp 9 [5, 6, 7, 8] ?_)))))))
 refine ro 9 rfl (wp 1 (wl (abu (by exact ⟨aay.same, trivial⟩) (rp 0 [10, 11, 12, 13, 14, 15, 16, 17] (adn krf (wp 2 (wl (ql ?_))))))))
 obtain rfl := oi a4
 exact je (Hp.front (Hp.front (Hp.front a8 2 _ rfl) 2 _ rfl) 2 _ rfl).kp
 replace a4 := cff c4 a4
 refine bi a4 fun e2 f3 a4 => ?_
 by_cases d3 : ((el a1 a0).1) = e2
 replace a4 := ift d3 a4
 refine gi a4 fun f4 a4 => aeh 18 (fun j_ w_ w_' => aay (Zz52) (fun w' => w'.heap[a3]? = some (.cells (Zz0 a1 a0).toArray 65 (0, 0))) j_ w_ w_' ∧ aay (Zz89) (fun w' => w'.heap[a3]? = some (.cells (Zz0 a1 a0).toArray 65 (0, 0))) j_ w_ w_' ∧ aay (Zz85) (fun w' => w'.heap[a3]? = some (.cells (Zz0 a1 a0).toArray 65 (0, 0))) j_ w_ w_' ∧ aay [18, 19] (fun w' => w'.heap[a3]? = some (.cells (Zz0 a1 a0).toArray 65 (0, 0))) j_ w_ w_' ∧ True) (Zz54) (fun _ _ => ⟨aay.same, aay.same, aay.same, aay.same, trivial⟩) krf krf d1 rfl (aam (ade (aak (ade (aam (aak (aam adb))))))) fun k8 e3 => rp 17 [0] (aal (Zz55) 1 23 (str ((el a1 a0).1)) (Zz52) (fun _ _ _ h => h.1) _ rfl rfl krf krf krf krf krf rfl (aba rfl (by intro w hS_; exact (aga a3 0 (Zz0 a1 a0) 65 (str ((el a1 a0).1)) hS_ rfl krf krf))) (by exact e3.blkAt 0 rfl) (ro 2 rfl (wc ent47 e3 (aio e0 (hG.hp0 e3)) fun f2 a8 => wl (abu (by exact ⟨aay.out rfl, aay.new (a8.blkAt 0 rfl), aay.new (a8.blkAt 0 rfl), aay.new (a8.blkAt 0 rfl), trivial⟩) (rp 14 [3] (rt 4 (Vb false) rfl rfl (aba rfl (by intro w hS_; exact Eq.trans (b := Result.ok (Next.value (.bool (!d2))) w) krf (congrArg (fun b => Result.ok (Next.value (.bool b)) w) c4))) ?_))))))
 refine rp 12 [5] (aal (Zz78) 6 28 (str ((el a1 a0).1)) (Zz89) (fun _ _ _ h => h.2.1) _ rfl rfl krf krf krf krf krf rfl (aei 26 krf krf krf (by intro w hS_; exact (aga a3 0 (Zz0 a1 a0) 65 (str ((el a1 a0).1)) hS_ rfl krf krf))) (by exact a8.blkAt 0 rfl) (rp 10 [7] (aal (Zz79) 8 30 (str ((el a1 a0).1)) (Zz85) (fun _ _ _ h => h.2.2.1) _ rfl rfl krf krf krf krf krf rfl (aei 26 krf krf krf (by intro w hS_; exact (aga a3 0 (Zz0 a1 a0) 65 (str ((el a1 a0).1)) hS_ rfl krf krf))) (by exact a8.blkAt 0 rfl) (ro 9 rfl (gy 26 (wc ent67 a8 (adu f3 (hG.hp0 a8)) fun h2 b7 => wl (abu (by exact ⟨aay.out rfl, aay.new (b7.blkAt 0 rfl), aay.out rfl, aay.new (b7.blkAt 0 rfl), trivial⟩) (rp 6 [10, 11] ?_))))))))
 refine rt 12 (Vb false) rfl rfl (aba rfl (by intro w hS_; exact Eq.trans (b := Result.ok (Next.value (.bool (!decide (((el a1 a0).1) = e2)))) w) krf (congrArg (fun b => Result.ok (Next.value (.bool b)) w) (by rw [decide_eq_true d3]; rfl)))) (rp 3 [13, 14] (rt 15 (Vs b9 (zac a0) c2) rfl rfl (aei 34 krf krf krf (by intro w hS_; exact (x_slTo b9 a1.length c2 65 3 .i64 a0 underlying22 krf krf krf a1 rfl f4 f0))) (rp 1 [16] (aal [true, true, true, true, true, true, true, true, true, true, true, true, true, true, true, true, true, true, false, false] 17 39 (str ((el a1 a0).1)) [18, 19] (fun _ _ _ h => h.2.2.2.1) _ rfl rfl krf krf krf krf krf rfl (aei 34 krf krf krf (by intro w hS_; exact (aga a3 0 (Zz0 a1 a0) 65 (str ((el a1 a0).1)) hS_ rfl krf krf))) (by exact b7.blkAt 0 rfl) (adn krf (gy 34 (bi a4 fun k9 h3 a4 => wc ent103 b7 (aoi b9 (zac a0) c2 h3 (hG.hp0 b7) (by first | rfl | (simp; done) | omega | (simp; omega) | (rw [zah]; omega)) (Rd.takeT aab (zac a0) (d9.hp b7)) (toNat_le f4 f0)) fun l0 h4 => wp 1 ?_)))))))
 refine wl (ql ?_)
 obtain rfl := oi a4
 exact je (Hp.front (Hp.front (Hp.front h4 2 _ rfl) 2 _ rfl) 2 _ rfl).kp
 replace a4 := ifn d3 a4
 refine aeh 18 (fun j_ w_ w_' => aay (Zz52) (fun w' => w'.heap[a3]? = some (.cells (Zz0 a1 a0).toArray 65 (0, 0))) j_ w_ w_' ∧ aay (Zz89) (fun w' => w'.heap[a3]? = some (.cells (Zz0 a1 a0).toArray 65 (0, 0))) j_ w_ w_' ∧ aay (Zz85) (fun w' => w'.heap[a3]? = some (.cells (Zz0 a1 a0).toArray 65 (0, 0))) j_ w_ w_' ∧ aay [18, 19] (fun w' => w'.heap[a3]? = some (.cells (Zz0 a1 a0).toArray 65 (0, 0))) j_ w_ w_' ∧ True) (Zz54) (fun _ _ => ⟨aay.same, aay.same, aay.same, aay.same, trivial⟩) krf krf d1 rfl (aam (ade (aak (ade (aam (aak (aam adb))))))) fun l1 e4 => rp 17 [0] (aal (Zz55) 1 23 (str ((el a1 a0).1)) (Zz52) (fun _ _ _ h => h.1) _ rfl rfl krf krf krf krf krf rfl (aba rfl (by intro w hS_; exact (aga a3 0 (Zz0 a1 a0) 65 (str ((el a1 a0).1)) hS_ rfl krf krf))) (by exact e4.blkAt 0 rfl) (ro 2 rfl (wc ent47 e4 (aio e0 (hG.hp0 e4)) fun f2 a8 => wl (abu (by exact ⟨aay.out rfl, aay.new (a8.blkAt 0 rfl), aay.new (a8.blkAt 0 rfl), aay.new (a8.blkAt 0 rfl), trivial⟩) (rp 14 [3] (rt 4 (Vb false) rfl rfl (aba rfl (by intro w hS_; exact Eq.trans (b := Result.ok (Next.value (.bool (!d2))) w) krf (congrArg (fun b => Result.ok (Next.value (.bool b)) w) c4))) (rp 12 [5] ?_)))))))
 refine aal (Zz78) 6 28 (str ((el a1 a0).1)) (Zz89) (fun _ _ _ h => h.2.1) _ rfl rfl krf krf krf krf krf rfl (aei 26 krf krf krf (by intro w hS_; exact (aga a3 0 (Zz0 a1 a0) 65 (str ((el a1 a0).1)) hS_ rfl krf krf))) (by exact a8.blkAt 0 rfl) (rp 10 [7] (aal (Zz79) 8 30 (str ((el a1 a0).1)) (Zz85) (fun _ _ _ h => h.2.2.1) _ rfl rfl krf krf krf krf krf rfl (aei 26 krf krf krf (by intro w hS_; exact (aga a3 0 (Zz0 a1 a0) 65 (str ((el a1 a0).1)) hS_ rfl krf krf))) (by exact a8.blkAt 0 rfl) (ro 9 rfl (gy 26 (wc ent67 a8 (adu f3 (hG.hp0 a8)) fun h2 b7 => wl (abu (by exact ⟨aay.out rfl, aay.new (b7.blkAt 0 rfl), aay.out rfl, aay.new (b7.blkAt 0 rfl), trivial⟩) (rp 6 [10, 11] (rt 12 (Vb true) rfl rfl (aba rfl (by intro w hS_; exact Eq.trans (b := Result.ok (Next.value (.bool (!decide (((el a1 a0).1) = e2)))) w) krf (congrArg (fun b => Result.ok (Next.value (.bool b)) w) (by rw [decide_eq_false d3]; rfl)))) ?_))))))))
 refine rp 0 [13, 14, 15, 16, 17] (adn krf (wp 2 (wl (ql ?_))))
 obtain rfl := oi a4
 exact je (Hp.front (Hp.front (Hp.front b7 2 _ rfl) 2 _ rfl) 2 _ rfl).kp
 intro f5 G e5
 refine cb a2 (fun h5 a2 => ?_) (fun h5 a2 => ?_)
 refine sr (wp 2 (nq (ct (st (bt_ (st (adg ?_)))))))
 refine bt_ (adg ?_)
 obtain rfl := oi a2
 obtain rfl := oi hr
 exact rv e5.kp
 refine ck (qn (sr (wp 1 (abs e5 0 a3 0 (Zz0 a1 a0) 65 (str ((el a1 a0).1)) rfl rfl krf krf (gi a2 fun h6 a2 => adf ([59] : Str) ((el a1 a0).1) krf krf h6 (bi a2 fun b3 h7 a2 => ?_))))))
 have h8 : Hp w [] [rwt eB 5 1 b6 a6 a7 a5, blk a3 (Zz0 a1 a0) 65, blk b2 (Zz33 b5 b2 a6 a5.length a7) 111] f5 := e5.front 2 _ rfl
 have d4 : Hp w [] [blk b2 (Zz33 b5 b2 a6 a5.length a7) 111, rwt eB 5 1 b6 a6 a7 a5, blk a3 (Zz0 a1 a0) 65] f5 := h8.front 2 _ rfl
 refine aat 104 #[] [(Vp (some ⟨b2, 0, none⟩)), (str (([59] : Str) ++ ((el a1 a0).1)))] _ ent104 krf krf (adl b2 b5 b6 a6 a7 h7 (hG.hp0 d4) (d4.hand (L1 := (Zz69 b2 b5 a6 a5.length a7 b6 a5)) (L2 := [blk a3 (Zz0 a1 a0) 65])) (d4.highs hG (fun _ h => absurd h (by simp)) 2 rfl)) ?_
 rintro _ h9 ⟨b8, b0, b1, rfl, f6⟩
 have c1 : Hp w [] [blk b2 (Zz20 b2 b0 b3.2.2.2.length b1) 111, rwt eB 5 1 b8 b0 b1 b3.2.2.2, blk a3 (Zz0 a1 a0) 65] h9 := Hp.callK (L1 := (Zz69 b2 b5 a6 a5.length a7 b6 a5)) (L2 := [blk a3 (Zz0 a1 a0) 65]) d4 f6; clear f6
 refine nq (cs (sr (wp 1 (abs c1 2 a3 2 (Zz0 a1 a0) 65 (Vb ((el a1 a0).2.2)) rfl rfl krf krf (wp 1 (nq (cb a2 (fun i0 a2 => ?_) (fun i0 a2 => ?_))))))))
 refine cs (sr (wp 1 (abs c1 2 a3 1 (Zz0 a1 a0) 65 (str ((el a1 a0).2.1)) rfl rfl krf krf (wp 1 (nq (cn a2 (fun i1 a2 => ?_) (fun i1 a2 => ?_)))))))
 refine sr (wp 2 (nq (ct (st (st (bt_ (st ?_)))))))
 refine adg (bt_ (adg ?_))
 obtain rfl := oi a2
 obtain rfl := oi hr
 exact rv c1.kp
 refine ck (qn (abq (abp (abr (qn (cr (gi a2 fun i2 a2 => aae a0 (1 : Int) krf krf i2 (wp 1 ?_))))))))
 refine wl (ql ?_)
 exact ⟨(c0, a0 + (1 : Int), b3.2.2.2, true, b8, b0, b1), _, rfl, by kernel_rfl, ⟨(Hp.front (Hp.front c1 1 _ rfl) 1 _ rfl).kp, a2⟩, zad _⟩
 refine ck (qn (sr (wp 1 (abs c1 2 a3 1 (Zz0 a1 a0) 65 (str ((el a1 a0).2.1)) rfl rfl krf krf (wp 1 (nq (bi a2 fun i3 b4 a2 => cut (σ := Str) [0, 2, 3, 4, 7, 15, 16, 17] (fun c5 => [(7, (str c5))]) (fun c5 w' => Hp w [] (Zz46 b2 b0 b3.2.2.2.length b1 b8 b3.2.2.2) w' ∧ .inl c5 = i3) ?_ ?_)))))))
 refine sr (wp 1 (bi b4 fun l2 i4 b4 => wc ent34 c1 (ahy i4 (hG.hp0 c1)) fun l3 f7 => wp 5 (nq (bi b4 fun i5 a9 b4 => cut (σ := Bool) [0, 2, 3, 4, 7, 15, 16, 17, 75] (fun d5 => [(75, (Vb d5))]) (fun d5 w' => Hp w [] (Zz46 b2 b0 b3.2.2.2.length b1 b8 b3.2.2.2) w' ∧ d5 = i5) ?_ ?_))))
 refine cr (wp 1 (bi a9 fun l4 i6 a9 => wc ent47 f7 (aio i6 (hG.hp0 f7)) fun l5 d6 => wp 1 (wb a9 (fun i7 a9 => ?_) (fun i7 a9 => ?_))))
 refine wp 1 (gy 62 (wb a9 (fun i9 a9 => ?_) (fun i9 a9 => ?_)))
 refine wp 4 (gy 62 (wd a9 (fun j0 a9 => ?_) (fun j0 a9 => ?_)))
 refine wp 1 (gy 69 (gi a9 fun j1 a9 => abi ((el a1 a0).2.1) .i64 (0 : Int) underlying9 krf krf j1 (gy 69 (acx (at_ ((el a1 a0).2.1) (0 : Int)) (91 : UInt8) krf krf (wp 3 (wl (ql ?_)))))))
 obtain rfl := oi a9
 exact ⟨(!decide ((at_ ((el a1 a0).2.1) (0 : Int)) = (91 : UInt8))), _, rfl, by kernel_rfl, (Hp.front (Hp.front d6 1 _ rfl) 1 _ rfl).kp, rfl⟩
 refine wp 6 (wl (ql ?_))
 obtain rfl := oi a9
 exact ⟨true, _, rfl, by kernel_rfl, (Hp.front (Hp.front d6 1 _ rfl) 1 _ rfl).kp, rfl⟩
 refine wp 11 (wl (ql ?_))
 obtain rfl := oi a9
 exact ⟨true, _, rfl, by kernel_rfl, (Hp.front (Hp.front d6 1 _ rfl) 1 _ rfl).kp, rfl⟩
 refine wp 13 (wl (ql ?_))
 obtain rfl := oi a9
 exact ⟨false, _, rfl, by kernel_rfl, (Hp.front (Hp.front d6 1 _ rfl) 1 _ rfl).kp, rfl⟩
 rintro d5 l6 G ⟨e6, rfl⟩
 refine cb b4 (fun j2 b4 => ?_) (fun j2 b4 => ?_)
 refine sr (wp 1 (bi b4 fun f8 j3 b4 => wc ent69 e6 (K_L_lexis_Quote j3 (hG.hp0 e6)) fun l7 f9 => wp 5 (nq (cs (cs ?_)))))
 refine cr (wp 1 (afp f8.2 (0 : UInt8) krf krf (nq (cn b4 (fun j4 b4 => ?_) (fun j4 b4 => ?_)))))
 refine sr (wp 2 (nq (ct (st (adg ?_)))))
 obtain rfl := oi b4
 refine bt_ (st (adg (bt_ (adg ?_))))
 obtain rfl := oi a2
 obtain rfl := oi hr
 exact rv f9.kp
 refine ck (qn (cr (wp 2 (wl (ql ?_)))))
 obtain rfl := oi b4
 exact ⟨f8.1, _, rfl, by kernel_rfl, (Hp.front (Hp.front f9 1 _ rfl) 1 _ rfl).kp, rfl⟩
 refine ck (ql ?_)
 obtain rfl := oi b4
 exact ⟨(el a1 a0).2.1, _, rfl, by kernel_rfl, (Hp.front (Hp.front e6 1 _ rfl) 1 _ rfl).kp, rfl⟩
 rintro c5 g0 G ⟨j5, rfl⟩
 refine cr (wp 1 (gi a2 fun j6 a2 => adf ([61] : Str) c5 krf krf j6 (bi a2 fun e7 j7 a2 => ?_)))
 have j8 : Hp w [] [rwt eB 5 1 b8 b0 b1 b3.2.2.2, blk b2 (Zz20 b2 b0 b3.2.2.2.length b1) 111] g0 := j5.front 1 _ rfl
 have d7 : Hp w [] (Zz46 b2 b0 b3.2.2.2.length b1 b8 b3.2.2.2) g0 := j8.front 1 _ rfl
 refine aat 104 #[] [(Vp (some ⟨b2, 0, none⟩)), (str (([61] : Str) ++ c5))] _ ent104 krf krf (adl b2 true b8 b0 b1 j7 (hG.hp0 d7) (d7.hand (L1 := (Zz46 b2 b0 b3.2.2.2.length b1 b8 b3.2.2.2)) (L2 := [])) (d7.highs hG (fun _ h => absurd h (by simp)) 2 rfl)) ?_
 rintro _ j9 ⟨g1, e8, e9, rfl, g2⟩
 have k0 : Hp w [] (Zz46 b2 e8 e7.2.2.2.length e9 g1 e7.2.2.2) j9 := Hp.callK (L1 := (Zz46 b2 b0 b3.2.2.2.length b1 b8 b3.2.2.2)) (L2 := []) d7 g2; clear g2
 refine wl (bn (qn (cr (gi a2 fun k1 a2 => aae a0 (1 : Int) krf krf k1 (wp 1 (wl (ql ?_)))))))
 exact ⟨(c0, a0 + (1 : Int), e7.2.2.2, true, g1, e8, e9), _, rfl, by kernel_rfl, ⟨(Hp.front (Hp.front k0 1 _ rfl) 1 _ rfl).kp, a2⟩, zad _⟩
 refine abq (abp (aby (abr (ql ?_))))
 obtain rfl := oi a2
 exact ⟨(a5, b5, b6, a6, a7), _, rfl, by kernel_rfl, (Hp.front (Hp.front d0 1 _ rfl) 1 _ rfl).kp, rfl⟩
 rintro ⟨c3, c8, c9, c6, c7⟩ l8 G ⟨k2, rfl⟩
 refine sr (gi hr fun l9 hr => aat 105 #[] (Zz45 b2) _ ent105 krf krf (sh_BString b2 c8 c9 c6 c7 c3 k2 0 1 rfl rfl (by decide)) ?_)
 rintro _ m0 ⟨rfl, k3⟩
 refine wp 2 (nq (ct ?_))
 obtain rfl := oi hr
 exact rv k3.kp
theorem ard {fu : Nat} {a0 : (Str × (Str × Str × Str × Int × (List PQ) × (List PQ)) × (List PQ))} (a3 : Option Addr) (b2 : Nat) (a4 : Nat) (a5 : Option Addr) (b3 : Nat) (a6 : Nat) (a1 : Option Addr) (b4 : Nat) (a2 : Nat) {w : World} {r : (Str × UInt8)} (hr : alb fu a0 = some r) (hG : Gl w) (c2 : b2 = a0.2.1.2.2.2.2.1.length) (c3 : Rd w a3 (zai aaa a0.2.1.2.2.2.2.1)) (c4 : b2 ≤ a4) (c5 : b3 = a0.2.1.2.2.2.2.2.length) (c6 : Rd w a5 (zai aaa a0.2.1.2.2.2.2.2)) (c7 : b3 ≤ a6) (c8 : b4 = a0.2.2.length) (c9 : Rd w a1 (zai aaa a0.2.2)) (d0 : b4 ≤ a2) : CR prog 24 [(zan #[(str a0.1), (str a0.2.1.1), (str a0.2.1.2.1), (str a0.2.1.2.2.1), (Vi .i64 a0.2.1.2.2.2.1), (Vs a3 b2 a4), (Vs a5 b3 a6), (Vs a1 b4 a2)])] w fun v w' => v = (zak #[(str r.1), (bt r.2)]) ∧ Hp w [] [] w' := by
 subst c2
 subst c5
 subst c8
 have hH := Hp.refl w
 refine enter (k := 48) func24 rfl rfl nbe ?_
 unfold alb at hr
 refine sr (adr hH (Zz5 a0.1 a0.2.1.1 a0.2.1.2.1 a0.2.1.2.2.1 a0.2.1.2.2.2.1 a3 a0.2.1.2.2.2.2.1.length a4 a5 a0.2.1.2.2.2.2.2.length a6 a1 a0.2.2.length a2) 38 (fun b => (Vp (some ⟨b, 0, none⟩))) rfl rfl krf fun b1 w2 b5 => wp 2 (nq (sr (wp 1 (abs b5 0 b1 0 (Zz5 a0.1 a0.2.1.1 a0.2.1.2.1 a0.2.1.2.2.1 a0.2.1.2.2.2.1 a3 a0.2.1.2.2.2.2.1.length a4 a5 a0.2.1.2.2.2.2.2.length a6 a1 a0.2.2.length a2) 38 (str a0.1) rfl rfl krf krf ?_)))))
 refine bi hr fun y4 d1 hr => wc ent69 b5 (K_L_lexis_Quote d1 (hG.hp0 b5)) fun w6 a8 => wp 5 (nq (cs (sr (wp 1 (afp y4.2 (0 : UInt8) krf krf ?_)))))
 refine nq (cn hr (fun h9 hr => ?_) (fun h9 hr => ?_))
 exact nzz hr
 refine ck (qn (sr (wp 1 (ant a8 0 b1 1 6 (Zz5 a0.1 a0.2.1.1 a0.2.1.2.1 a0.2.1.2.2.1 a0.2.1.2.2.2.1 a3 a0.2.1.2.2.2.2.1.length a4 a5 a0.2.1.2.2.2.2.2.length a6 a1 a0.2.2.length a2) (Zz2 a0.2.1.1 a0.2.1.2.1 a0.2.1.2.2.1 a0.2.1.2.2.2.1 a3 a0.2.1.2.2.2.2.1.length a4 a5 a0.2.1.2.2.2.2.2.length a6) 38 rfl rfl rfl krf krf krf (bi hr fun a7 d2 hr => wc ent62 a8 (K_L_address_Print a3 a0.2.1.2.2.2.2.1.length a4 a5 a0.2.1.2.2.2.2.2.length a6 d2 (hG.hp0 a8) rfl (c3.hp a8) c4 rfl (c6.hp a8) c7) fun e7 a9 => wp 5 (wl ?_))))))
 refine qn (cs (sr (wp 1 (afp a7.2 (0 : UInt8) krf krf (nq (cn hr (fun d3 hr => ?_) (fun d3 hr => ?_)))))))
 exact nzz hr
 refine ck (qn (sr (wp 1 (abs a9 0 b1 7 (Zz5 a0.1 a0.2.1.1 a0.2.1.2.1 a0.2.1.2.2.1 a0.2.1.2.2.2.1 a3 a0.2.1.2.2.2.2.1.length a4 a5 a0.2.1.2.2.2.2.2.length a6 a1 a0.2.2.length a2) 38 (Vs a1 a0.2.2.length a2) rfl rfl krf krf (bi hr fun b8 d4 hr => aat 70 #[] [(Vs a1 a0.2.2.length a2)] _ ent70 krf krf (alj a1 a0.2.2.length a2 d4 (hG.hp0 a9) rfl (c9.hp a9) d0) ?_)))))
 rintro _ d5 ⟨d6, b9, c0, rfl, c1⟩
 have b0 : Hp w [] [rwt aaa 65 3 d6 b9 c0 b8, blk b1 (Zz5 a0.1 a0.2.1.1 a0.2.1.2.1 a0.2.1.2.2.1 a0.2.1.2.2.2.1 a3 a0.2.1.2.2.2.2.1.length a4 a5 a0.2.1.2.2.2.2.2.length a6 a1 a0.2.2.length a2) 38] d5 := Hp.callK (L1 := []) (L2 := [blk b1 (Zz5 a0.1 a0.2.1.1 a0.2.1.2.1 a0.2.1.2.2.1 a0.2.1.2.2.2.1 a3 a0.2.1.2.2.2.2.1.length a4 a5 a0.2.1.2.2.2.2.2.length a6 a1 a0.2.2.length a2) 38]) a9 c1; clear c1
 refine bi hr fun b6 d7 hr => wc ent48 b0 (anr b9 b8.length c0 d7 (hG.hp0 b0) rfl (b0.rdrw 0 rfl) (b0.rwcap 0 rfl)) fun e8 b7 => wp 5 (nq (cs (sr (wp 1 (afp b6.2 (0 : UInt8) krf krf ?_)))))
 refine nq (cn hr (fun d8 hr => ?_) (fun d8 hr => ?_))
 exact nzz hr
 refine ck (qn (cs (sr (wp 1 (abs b7 1 b1 0 (Zz5 a0.1 a0.2.1.1 a0.2.1.2.1 a0.2.1.2.2.1 a0.2.1.2.2.2.1 a3 a0.2.1.2.2.2.2.1.length a4 a5 a0.2.1.2.2.2.2.2.length a6 a1 a0.2.2.length a2) 38 (str a0.1) rfl rfl krf krf (wp 1 (nq (cd hr (fun d9 hr => ?_) (fun d9 hr => ?_)))))))))
 refine sr (wp 1 (gi hr fun e0 hr => adf ([60] : Str) a7.1 krf krf e0 (gi hr fun e1 hr => adf (([60] : Str) ++ a7.1) ([62] : Str) krf krf e1 (wp 1 (gi hr fun e2 hr => adf ((([60] : Str) ++ a7.1) ++ ([62] : Str)) b6.1 krf krf e2 ?_)))))
 refine wp 2 (nq (ct (st ?_)))
 obtain rfl := oi hr
 exact rv b7.kp
 refine ck (qn (sr (wp 1 (gi hr fun e3 hr => adf y4.1 ([32, 60] : Str) krf krf e3 (wp 1 (gi hr fun e4 hr => adf (y4.1 ++ ([32, 60] : Str)) a7.1 krf krf e4 ?_))))))
 refine gi hr fun e5 hr => adf ((y4.1 ++ ([32, 60] : Str)) ++ a7.1) ([62] : Str) krf krf e5 (wp 1 (gi hr fun e6 hr => adf (((y4.1 ++ ([32, 60] : Str)) ++ a7.1) ++ ([62] : Str)) b6.1 krf krf e6 (wp 2 (nq (ct ?_)))))
 obtain rfl := oi hr
 exact rv b7.kp
theorem K_L_header_tidy {fu : Nat} {b2 : Str} {a9 : Str} {w : World} {r : (Str × UInt8)} (hr : arr fu b2 a9 = some r) (hG : Gl w) : CR prog 57 [(str b2), (str a9)] w fun v w' => v = (zak #[(str r.1), (bt r.2)]) ∧ Hp w [] [] w' := by
 have hH := Hp.refl w
 refine enter (k := 134) func57 rfl rfl nbe ?_
 unfold arr at hr
 refine sr (wp 2 (nq (cs (sr (wp 1 (bi hr fun d2 b8 hr => ?_))))))
 refine wc ent114 hH (K_L_header_kindOf b8 (hG.hp0 hH)) fun d3 b0 => nq (ce (sr (wp 2 (nq (cd hr (fun b9 hr => ?_) (fun b9 hr => ?_))))))
 refine cs (bi hr fun c0 a2 hr => age b0 [1, 4, 5, 33] [(33, (Vb c0))] ?_ ?_)
 refine cr (wp 2 (wd a2 (fun c1 a2 => ?_) (fun c1 a2 => ?_)))
 refine wp 1 (gy 29 (bi a2 fun d4 c2 a2 => wc ent27 b0 (anq c2 (hG.hp0 b0)) fun d5 c3 => wp 2 (wl (ql ?_))))
 obtain rfl := oi a2
 exact je c3.kp
 exact nzz a2
 intro d6 G b3
 refine cb hr (fun c4 hr => ?_) (fun c4 hr => ?_)
 exact nzz hr
 refine ck (qn (sr (wp 1 (bi hr fun a0 c5 hr => aat 14 #[] [(str a9)] _ ent14 krf krf (K_L_header_Address c5 (hG.hp0 b3)) ?_))))
 rintro _ c6 ⟨b4, a3, a4, b5, a5, a6, b6, a7, a8, rfl, b7⟩
 have c7 : Hp w [] [rwt aaa 65 3 b4 a3 a4 a0.1.2.1.2.2.2.2.1, rwt aaa 65 3 b5 a5 a6 a0.1.2.1.2.2.2.2.2, rwt aaa 65 3 b6 a7 a8 a0.1.2.2] c6 := Hp.callK (L1 := []) (L2 := []) b3 b7; clear b7
 refine wp 3 (adr c7 (Zz1) 38 (fun b => (Vp (some ⟨b, 0, none⟩))) rfl rfl krf fun b1 d7 c8 => ahq c8 0 b1 0 (Zz1) (Zz5 a0.1.1 a0.1.2.1.1 a0.1.2.1.2.1 a0.1.2.1.2.2.1 a0.1.2.1.2.2.2.1 a3 a0.1.2.1.2.2.2.2.1.length a4 a5 a0.1.2.1.2.2.2.2.2.length a6 a7 a0.1.2.2.length a8) 38 [blk b1 (Zz5 a0.1.1 a0.1.2.1.1 a0.1.2.1.2.1 a0.1.2.1.2.2.1 a0.1.2.1.2.2.2.1 a3 a0.1.2.1.2.2.2.2.1.length a4 a5 a0.1.2.1.2.2.2.2.2.length a6 a7 a0.1.2.2.length a8) 38, rwt aaa 65 3 b4 a3 a4 a0.1.2.1.2.2.2.2.1, rwt aaa 65 3 b5 a5 a6 a0.1.2.1.2.2.2.2.2, rwt aaa 65 3 b6 a7 a8 a0.1.2.2] rfl nbe krf krf rfl krf rfl fun d8 a1 => wp 1 (nq (cs (sr (wp 1 ?_)))))
 refine afp a0.2 (0 : UInt8) krf krf (nq (cn hr (fun c9 hr => ?_) (fun c9 hr => ?_)))
 exact nzz hr
 refine ck (qn (sr (ant a1 0 b1 0 8 (Zz5 a0.1.1 a0.1.2.1.1 a0.1.2.1.2.1 a0.1.2.1.2.2.1 a0.1.2.1.2.2.2.1 a3 a0.1.2.1.2.2.2.2.1.length a4 a5 a0.1.2.1.2.2.2.2.2.length a6 a7 a0.1.2.2.length a8) (Zz5 a0.1.1 a0.1.2.1.1 a0.1.2.1.2.1 a0.1.2.1.2.2.1 a0.1.2.1.2.2.2.1 a3 a0.1.2.1.2.2.2.2.1.length a4 a5 a0.1.2.1.2.2.2.2.2.length a6 a7 a0.1.2.2.length a8) 38 rfl rfl rfl krf krf krf (bi hr fun d9 d0 hr => wc ent24 a1 (ard a3 a0.1.2.1.2.2.2.2.1.length a4 a5 a0.1.2.1.2.2.2.2.2.length a6 a7 a0.1.2.2.length a8 d0 (hG.hp0 a1) rfl (a1.rdrw 1 rfl) (a1.rwcap 1 rfl) rfl (a1.rdrw 2 rfl) (a1.rwcap 2 rfl) rfl (a1.rdrw 3 rfl) (a1.rwcap 3 rfl)) fun e0 d1 => wp 4 (nq ?_)))))
 refine ct (bt_ (st ?_))
 obtain rfl := oi hr
 exact rv d1.kp
 exact nzz hr
theorem K_L_header_Tidy {fu : Nat} {b4 : Str} {b1 : Str} {w : World} {r : (Str × UInt8)} (hr : art fu b4 b1 = some r) (hG : Gl w) : CR prog 13 [(str b4), (str b1)] w fun v w' => v = (zak #[(str r.1), (bt r.2)]) ∧ Hp w [] [] w' := by
 have hH := Hp.refl w
 refine enter (k := 56) func13 rfl rfl nbe ?_
 unfold art at hr
 refine sr (wp 2 (nq (sr (wp 1 (bi hr fun y1 c1 hr => wc ent25 hH (K_L_header_Canon c1 (hG.hp0 hH)) fun w3 b5 => ?_)))))
 refine wp 5 (nq (cs (sr (wp 1 (afp y1.2 (0 : UInt8) krf krf (nq (cn hr (fun h6 hr => ?_) (fun h6 hr => ?_))))))))
 exact nzz hr
 refine ck (qn (cs (sr (wp 1 (bi hr fun y7 c2 hr => wc ent56 b5 (K_L_header_many c2 (hG.hp0 b5)) fun w9 b6 => wp 1 (wl ?_))))))
 refine qn (cb hr (fun c3 hr => ?_) (fun c3 hr => ?_))
 exact nzz hr
 refine ck (qn (sr (wp 1 (bi hr fun a6 c4 hr => aat 58 #[] [(str b1)] _ ent58 krf krf (K_L_header_List c4 (hG.hp0 b6)) ?_))))
 rintro _ c5 ⟨a8, a2, a3, rfl, b7⟩
 have c6 : Hp w [] [rwt eS 9 1 a8 a2 a3 a6.1] c5 := Hp.callK (L1 := []) (L2 := []) b6 b7; clear b7
 refine wp 5 (nq (cs (sr (wp 1 (afp a6.2 (0 : UInt8) krf krf (nq (cn hr (fun c7 hr => ?_) (fun c7 hr => ?_))))))))
 exact nzz hr
 refine ck (qn (bi hr fun b8 c8 hr => cut (σ := (List Str)) [4, 5, 8] (fun a5 => [(8, (Vs a2 a5.length a3))]) (fun a5 w' => Hp w [] [rwt eS 9 1 a8 a2 a3 a5] w' ∧ a5.length = a6.1.length ∧ a5 = b8) ?_ ?_))
 refine sr (wp 3 (nq (ce (lpG (σ := Nat × (List Str) × Int) [4, 5, 6, 8, 34, 35, 36] (fun ⟨a7, a1, a4⟩ => [(8, (Vs a2 a1.length a3)), (34, (Vs a2 a1.length a3)), (36, (Vi .i64 a4))]) (fun ⟨a7, a1, a4⟩ w' => Hp w [] [rwt eS 9 1 a8 a2 a3 a1] w' ∧ a1.length = a6.1.length ∧ aly fu y1 a6 a7 a1 a4 = some b8) (fun ⟨a7, a1, a4⟩ => a7) (fu, a6.1, (0 : Int)) (by exact ⟨c6.kp, lsz, c8⟩) ?_))))
 rintro ⟨_ | a7, a1, a4⟩ e1 G ⟨a9, e2, a0⟩
 · exact nzz a0
 rw [aly.eq_2] at a0
 refine sr (wp 1 (nq (cs (cd a0 (fun c9 a0 => ?_) (fun c9 a0 => ?_)))))
 refine ck (qn (cs (ce (sr (wp 1 (gi a0 fun d0 a0 => ahl a2 a1.length a3 9 1 .i64 a4 underlying70 krf krf krf a1 rfl d0 (a9.rdrw 0 rfl) apr (by decide) (gi a0 fun d1 a0 => ?_)))))))
 refine apo a2 eS a1 1 a4 apr (a9.rdrw 0 rfl) (str (el a1 a4)) d1 (by decide) krf krf krf (wp 2 (nq (sr (wp 4 (bi a0 fun b0 d2 a0 => wc ent57 a9 (K_L_header_tidy d2 (hG.hp0 a9)) fun e3 b9 => wp 3 ?_)))))
 refine gi a0 fun d3 a0 => ahl a2 a1.length a3 9 1 .i64 a4 underlying70 krf krf krf a1 rfl d3 (b9.rdrw 0 rfl) apr (by decide) (gi a0 fun d4 a0 => w_stE1 b9 0 a8 a2 a3 9 a4 a1 b0.1 rfl apr (str b0.1) d4 krf krf krf krf fun d5 b2 => ?_)
 replace b2 : Hp w [] [rwt eS 9 1 a8 a2 a3 (zal a1 (zac a4) b0.1)] d5 := b2
 refine wp 1 (nq (sr (wp 1 (afp b0.2 (0 : UInt8) krf krf (nq (cn a0 (fun d6 a0 => ?_) (fun d6 a0 => ?_)))))))
 exact nzz a0
 refine ck (bn (qn (cr (gi a0 fun d7 a0 => aae a4 (1 : Int) krf krf d7 (wp 1 (wl (ql ?_)))))))
 exact ⟨(a7, zal a1 (zac a4) b0.1, a4 + (1 : Int)), _, rfl, (mc krf (mc krf (mc krf (mc (Eq.trans (b := (Vs a2 a1.length a3)) krf (aaj lsy)) (mc (Eq.trans (b := (Vs a2 a1.length a3)) krf (aaj lsy)) (mc krf (mc krf rfl))))))), ⟨b2.kp, lsz, a0⟩, zad _⟩
 refine abq (abp (aby (abr (ql ?_))))
 obtain rfl := oi a0
 exact ⟨a1, _, rfl, by kernel_rfl, a9.kp, lsz, rfl⟩
 rintro a5 d8 G ⟨b3, e4, rfl⟩
 refine sr (wp 1 (gi hr fun d9 hr => aat 59 #[] [(Vs a2 a5.length a3), (str ([44, 32] : Str))] _ ent59 krf krf (sh_Join ([44, 32] : Str) d8 a2 a5.length a3 a5 rfl (b3.rdrw 0 rfl) (b3.rwcap 0 rfl) d9) ?_))
 rintro _ e5 ⟨rfl, c0⟩
 have e0 := b3.call c0; clear c0
 refine wp 2 (nq (ct ?_))
 obtain rfl := oi hr
 exact rv e0.kp
theorem K_L_header_upperByte {fu : Nat} {a0 : UInt8} {w : World} {r : UInt8} (hr : ajc fu a0 = some r) (hG : Gl w) : CR prog 29 [(bt a0)] w fun v w' => v = (bt r) ∧ Hp w [] [] w' := by
 have hH := Hp.refl w
 refine enter (k := 12) func29 rfl rfl nbe ?_
 unfold ajc at hr
 refine sr (wp 1 (nq (cs (bi hr fun v5 a1 hr => age hH [0, 2, 8] [(8, (Vb v5))] ?_ ?_))))
 refine cr (wp 1 (ajo a0 (97 : UInt8) krf krf (wd a1 (fun h6 a1 => ?_) (fun h6 a1 => ?_))))
 refine wp 1 (gy 5 (ajn a0 (122 : UInt8) krf krf (wp 1 (wl (ql ?_)))))
 obtain rfl := oi a1
 exact je hH.kp
 refine wp 3 (wl (ql ?_))
 obtain rfl := oi a1
 exact je hH.kp
 intro w7 G a2
 refine cb hr (fun h9 hr => ?_) (fun h9 hr => ?_)
 refine cr (wp 1 (w8_sub a0 (32 : UInt8) krf krf (wp 1 (nq (sr (wp 2 (wl ?_)))))))
 refine qn (ct ?_)
 obtain rfl := oi hr
 exact rv a2.kp
 refine ck (qn (sr (wp 2 (nq (ct ?_)))))
 obtain rfl := oi hr
 exact rv a2.kp
theorem afz {fu : Nat} {s_0 : Str} {w : World} {r : Str} (hr : acj fu s_0 = some r) (hG : Gl w) : CR prog 28 [(str s_0), (zap (.func 29) #[] #[])] w fun v w' => v = (str r) ∧ Hp w [] [] w' := by
 have hH := Hp.refl w
 refine enter (k := 26) func28 rfl rfl nbe ?_
 unfold acj at hr
 refine sr (wp 1 (nq (sr (wp 1 (w_tobytes hH s_0 5 underlying9 underlying85 underlying5 krf fun a1 cap2 w3 b2 => wp 1 ?_)))))
 refine nq (bi hr fun b1 b3 hr => cut (σ := Str) [4, 5] (fun a4 => []) (fun a4 w' => Hp w [] [brow (Vs a1 s_0.length cap2) s_0.length a4] w' ∧ a4 = b1) ?_ ?_)
 refine sr (wp 3 (nq (ce (lpG (σ := Nat × Str × Int) [1, 4, 5, 10, 11, 12] (fun ⟨a5, a3, a2⟩ => [(12, (Vi .i64 a2))]) (fun ⟨a5, a3, a2⟩ w' => Hp w [] [brow (Vs a1 s_0.length cap2) s_0.length a3] w' ∧ abt fu s_0 a5 a3 a2 = some b1) (fun ⟨a5, a3, a2⟩ => a5) (fu, s_0, (0 : Int)) (by exact ⟨b2.kp, b3⟩) ?_))))
 rintro ⟨_ | a5, a3, a2⟩ c3 G ⟨a6, a0⟩
 · exact nzz a0
 rw [abt.eq_2] at a0
 refine sr (wp 1 (nq (cs (cd a0 (fun b4 a0 => ?_) (fun b4 a0 => ?_)))))
 refine ck (qn (cs (ce (sr (wp 1 (gi a0 fun b5 a0 => ahl a1 s_0.length cap2 5 1 .i64 a2 underlying85 krf krf krf a3 (a6.browlen 0 rfl).symm b5 (Rd.ofbytes (a6.rdbrow 0 rfl)) akh (by decide) (gi a0 fun b6 a0 => ?_)))))))
 refine apo a1 eB a3 1 a2 akh (Rd.ofbytes (a6.rdbrow 0 rfl)) (bt (at_ a3 a2)) b6 (by decide) krf krf krf (wp 2 (nq (cr (wp 4 (bi a0 fun a7 b7 a0 => wc ent29 a6 (K_L_header_upperByte b7 (hG.hp0 a6)) fun c4 a8 => gi a0 fun b8 a0 => ahl a1 s_0.length cap2 5 1 .i64 a2 underlying85 krf krf krf a3 (a8.browlen 0 rfl).symm b8 (Rd.ofbytes (a8.rdbrow 0 rfl)) akh (by decide) ?_)))))
 refine gi a0 fun b9 a0 => w_stB a8 0 a1 s_0.length cap2 a2 a3 a7 rfl b9 krf krf krf fun c0 a9 => ?_
 replace a9 : Hp w [] [brow (Vs a1 s_0.length cap2) s_0.length (zal a3 (zac a2) a7)] c0 := a9
 refine wl (bn (qn (cr (gi a0 fun c1 a0 => aae a2 (1 : Int) krf krf c1 (wp 1 (wl (ql ?_)))))))
 exact ⟨(a5, zal a3 (zac a2) a7, a2 + (1 : Int)), _, rfl, by kernel_rfl, ⟨a9.kp, a0⟩, zad _⟩
 refine abq (abp (aby (abr (ql ?_))))
 obtain rfl := oi a0
 exact ⟨a3, _, rfl, by kernel_rfl, a6.kp, rfl⟩
 rintro a4 c2 G ⟨b0, rfl⟩
 refine sr (wp 1 (aes (v := (str a4)) (w' := c2) rfl rfl (apn a4 a1 s_0.length cap2 5 (Rd.bytes (Rd.ofbytes (b0.rdbrow 0 rfl))) (b0.browlen 0 rfl) underlying85 underlying9 underlying5 krf) (wp 1 (nq (ct ?_)))))
 obtain rfl := oi hr
 exact rv b0.kp
end Go.Proofs
