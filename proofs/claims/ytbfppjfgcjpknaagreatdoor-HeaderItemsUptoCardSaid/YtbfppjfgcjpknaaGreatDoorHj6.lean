/-
  The law HeaderItems holds, second form: for every text and every item of at most 1048576 values and letters the call returns true; no condition beyond the statement's own (part 6 of 7).
-/
import Derived.Test.YtbfppjfgcjpknaaGreatDoorHj5
import Derived.Test.YtbfppjfgcjpknaaGreatDoorProg
set_option linter.unusedVariables false
set_option linter.unusedSimpArgs false
set_option maxRecDepth 20000
set_option maxHeartbeats 1000000
namespace Go.Proofs
open Go.Wk Go.Px
open Go.Value renaming slice → Vs, int → Vi, bool → Vb, pointer → Vp
open Go.IntKind renaming wrap → zab
open Go.Value renaming agg → zam, func → zan, tuple → zal
open Int renaming toNat → zad
open List renaming flatMap → zai, length_take → zah, set → zak
open Nat renaming lt_succ_self → zac
theorem ent128 : Go.Wk.Enters Tryz.prog 128 := ⟨Tryz.f128, _, Tryz.func128, rfl, by kernel_rfl⟩
theorem ent129 : Go.Wk.Enters Tryz.prog 129 := ⟨Tryz.f129, _, Tryz.func129, rfl, by kernel_rfl⟩
theorem ent130 : Go.Wk.Enters Tryz.prog 130 := ⟨Tryz.f130, _, Tryz.func130, rfl, by kernel_rfl⟩
theorem ent185 : Go.Wk.Enters Tryz.prog 185 := ⟨Tryz.f185, _, Tryz.func185, rfl, by kernel_rfl⟩
theorem aet {fu : Nat} {a6 : List (Str × Str × Bool)} {b0 : Int} {c0 : Int} (a5 : Option Nat) (a2 : Option Addr) (a3 : Nat) {w : World} {r : List (Str × Str × Bool)} (hr : aal fu a6 b0 c0 = some r) (hG : Gl w) (hM : Hp w (abf [rwt aaa 46 3 a5 a2 a3 a6]) [rwt aaa 46 3 a5 a2 a3 a6] w) (hS : ∀ b ∈ abf [rwt aaa 46 3 a5 a2 a3 a6], 9 ≤ b) : CR Tryz.prog 241 [(Vs a2 a6.length a3), (Vi .i64 b0), (Vi .i64 c0), (zan (.func 130) #[] #[])] w fun v w' => v = (zal #[]) ∧ r.length = a6.length ∧ Hp w (abf [rwt aaa 46 3 a5 a2 a3 a6]) [rwt aaa 46 3 a5 a2 a3 r] w' := by
  have hH : Hp w (abf [rwt aaa 46 3 a5 a2 a3 a6]) [rwt aaa 46 3 a5 a2 a3 a6] w := hM
  refine enter (k := 53) Tryz.func241 rfl rfl nbe ?_
  unfold aal at hr
  refine sr (wp 1 (gi hr fun g1 hr => aah b0 (1 : Int) krf krf g1 (wp 1 (nq (ce (lpG (σ := Nat × (List (Str × Str × Bool)) × Int) [0, 1, 2, 3, 8] (fun ⟨b5, a9, b2⟩ => [(0, (Vs a2 a9.length a3)), (8, (Vi .i64 b2))]) (fun ⟨b5, a9, b2⟩ w' => Hp w (abf [rwt aaa 46 3 a5 a2 a3 a6]) [rwt aaa 46 3 a5 a2 a3 a9] w' ∧ a9.length = a6.length ∧ aad fu b0 c0 b5 a9 b2 = some r) (fun ⟨b5, a9, b2⟩ => b5) (fu, a6, b0 + (1 : Int)) (by exact ⟨hH.kp, lsz, hr⟩) ?_))))))
  rintro ⟨_ | b5, a9, b2⟩ g0 G ⟨c6, g2, a8⟩
  · exact nzz a8
  rw [aad.eq_2] at a8
  refine cs (sr (wp 3 (nq (cd a8 (fun d4 a8 => ?_) (fun d4 a8 => ?_)))))
  refine ck (qn (bi a8 fun c7 d5 a8 => cut (σ := (List (Str × Str × Bool))) [0, 1, 2, 3, 8] (fun b3 => [(0, (Vs a2 b3.length a3))]) (fun b3 w' => Hp w (abf [rwt aaa 46 3 a5 a2 a3 a6]) [rwt aaa 46 3 a5 a2 a3 b3] w' ∧ b3.length = a9.length ∧ b3 = c7) ?_ ?_))
  refine ce (sr (wp 2 (nq (ce (lpG (σ := Nat × (List (Str × Str × Bool)) × Int) [0, 1, 2, 3, 8, 9] (fun ⟨b4, a1, a0⟩ => [(0, (Vs a2 a1.length a3)), (9, (Vi .i64 a0))]) (fun ⟨b4, a1, a0⟩ w' => Hp w (abf [rwt aaa 46 3 a5 a2 a3 a6]) [rwt aaa 46 3 a5 a2 a3 a1] w' ∧ a1.length = a9.length ∧ aaf fu b0 b4 a1 a0 = some c7) (fun ⟨b4, a1, a0⟩ => b4) (fu, a9, b2) (by exact ⟨c6.kp, lsz, d5⟩) ?_)))))
  rintro ⟨_ | b4, a1, a0⟩ g3 G ⟨c1, g4, a4⟩
  · exact nzz a4
  rw [aaf.eq_2] at a4
  refine cs (bi a4 fun d6 a7 a4 => agq c1 [0, 1, 2, 3, 8, 9, 34] [(34, (Vb d6))] ?_ ?_)
  by_cases b9 : b0 < a0
  replace a7 := ift b9 a7
  refine gi a7 fun d7 a7 => gi a7 fun d8 a7 => gi a7 fun d9 a7 => gi a7 fun e0 a7 => gi a7 fun e1 a7 => adu 14 (fun j_ w_ w_' => aax [8, 14, 15, 16] (fun w' => Rd w' a2 (zai aaa a1)) j_ w_ w_' ∧ aax [14, 15, 16] (fun w' => Rd w' a2 (zai aaa a1)) j_ w_ w_' ∧ aax [13, 14, 15, 16] (fun w' => Rd w' a2 (zai aaa a1)) j_ w_ w_' ∧ True) [false, false, false, false, false, false, false, false, false, false, false, false, false, false, false, false, false] (fun _ _ => ⟨aax.same, aax.same, aax.same, trivial⟩) krf krf c1 rfl (aaq (acz (aaq (aas (aas (aaq (aaq (aas acy)))))))) fun g5 b6 => rp 11 [0, 1, 2] (rt 3 (Vb true) rfl rfl (abc rfl (by intro w hS_; exact Eq.trans (b := Result.ok (Next.value (.bool (decide (b0 < a0)))) w) krf (congrArg (fun b => Result.ok (Next.value (.bool b)) w) (decide_eq_true b9)))) (rp 7 [4, 5, 6] (aak [true, true, true, true, true, true, true, true, false, false, false, false, false, false, false, false, false] 7 25 (Vp (some (ea a2 (a0.toNat * 3)))) [8, 14, 15, 16] (fun _ _ _ h => h.1) _ rfl rfl krf krf krf krf krf rfl (ady 21 krf krf krf (by intro w hS_; exact (apd a2 a1.length a3 46 3 .i64 a0 Tryz.underlying22 krf krf krf a1 rfl d7 hS_ aab (by decide)))) (by exact (b6.rdrw 0 rfl)) ?_)))
  refine aak [true, true, true, true, true, true, true, true, true, false, false, false, false, false, false, false, false] 8 26 (zam #[(str ((el a1 a0).1)), (str ((el a1 a0).2.1)), (Vb ((el a1 a0).2.2))]) [14, 15, 16] (fun _ _ _ h => h.2.1) _ rfl rfl krf krf krf krf krf rfl (ady 21 krf krf krf (by intro w hS_; exact (apw a2 aaa a1 3 a0 aab hS_ [(str ((el a1 a0).1)), (str ((el a1 a0).2.1)), (Vb ((el a1 a0).2.2))] d8 krf krf krf krf (by decide)))) (by exact (b6.rdrw 0 rfl)) (rp 3 [9, 10] (rt 11 (Vi .i64 (a0 - (1 : Int))) rfl rfl (ady 21 krf krf krf (by intro w hS_; exact (amc a0 (1 : Int) krf krf d9))) (aak [true, true, true, true, true, true, true, true, true, true, true, true, true, false, false, false, false] 12 30 (Vp (some (ea a2 ((a0 - (1 : Int)).toNat * 3)))) [13, 14, 15, 16] (fun _ _ _ h => h.2.2.1) _ rfl rfl krf krf krf krf krf rfl (ady 21 krf krf krf (by intro w hS_; exact (apd a2 a1.length a3 46 3 .i64 (a0 - (1 : Int)) Tryz.underlying22 krf krf krf a1 rfl e0 hS_ aab (by decide)))) (by exact (b6.rdrw 0 rfl)) (aak [true, true, true, true, true, true, true, true, true, true, true, true, true, true, false, false, false] 13 31 (zam #[(str ((el a1 (a0 - (1 : Int))).1)), (str ((el a1 (a0 - (1 : Int))).2.1)), (Vb ((el a1 (a0 - (1 : Int))).2.2))]) [14, 15, 16] (fun _ _ _ h => h.2.1) _ rfl rfl krf krf krf krf krf rfl (ady 21 krf krf krf (by intro w hS_; exact (apw a2 aaa a1 3 (a0 - (1 : Int)) aab hS_ [(str ((el a1 (a0 - (1 : Int))).1)), (str ((el a1 (a0 - (1 : Int))).2.1)), (Vb ((el a1 (a0 - (1 : Int))).2.2))] e1 krf krf krf krf (by decide)))) (by exact (b6.rdrw 0 rfl)) (adi krf (gy 21 (bi a7 fun g6 e2 a7 => wc ent130 b6 (ajw e2 (hG.hp b6 hS)) fun g7 e3 => wp 2 ?_)))))))
  refine wl (ql ?_)
  obtain rfl := oi a7
  exact je e3.kp
  replace a7 := ifn b9 a7
  refine adu 14 (fun j_ w_ w_' => aax [8, 14, 15, 16] (fun w' => Rd w' a2 (zai aaa a1)) j_ w_ w_' ∧ aax [14, 15, 16] (fun w' => Rd w' a2 (zai aaa a1)) j_ w_ w_' ∧ aax [13, 14, 15, 16] (fun w' => Rd w' a2 (zai aaa a1)) j_ w_ w_' ∧ True) [false, false, false, false, false, false, false, false, false, false, false, false, false, false, false, false, false] (fun _ _ => ⟨aax.same, aax.same, aax.same, trivial⟩) krf krf c1 rfl (aaq (acz (aaq (aas (aas (aaq (aaq (aas acy)))))))) fun g8 e4 => rp 11 [0, 1, 2] (rt 3 (Vb false) rfl rfl (abc rfl (by intro w hS_; exact Eq.trans (b := Result.ok (Next.value (.bool (decide (b0 < a0)))) w) krf (congrArg (fun b => Result.ok (Next.value (.bool b)) w) (decide_eq_false b9)))) (rp 0 [4, 5, 6, 7, 8, 9, 10, 11, 12, 13] (adi krf (wp 3 (wl (ql ?_))))))
  obtain rfl := oi a7
  exact je e4.kp
  intro g9 G b8
  refine cb a4 (fun e5 a4 => ?_) (fun e5 a4 => ?_)
  refine ck (qn (cs (ce (gi a4 fun e6 a4 => gi a4 fun e7 a4 => gi a4 fun c8 a4 => ?_))))
  have e8 := afy (b8.rdrw 0 rfl) aab (by decide) c8
  refine gi a4 fun c9 a4 => gi a4 fun d0 a4 => ?_
  have e9 := afy (b8.rdrw 0 rfl) aab (by decide) d0
  refine gi a4 fun d1 a4 => gi a4 fun c2 a4 => ?_
  have d2 := afy (b8.rdrw 0 rfl) aab (by decide) c2
  refine gi a4 fun d3 a4 => cdr 16 b8 (aas (acz (aaq (aas (aas (aaq (aaq (aas acy)))))))) fun h0 b7 => rp 12 [0, 1, 2, 3] (rt 4 (Vi .i64 (a0 - (1 : Int))) rfl rfl (abc rfl (by intro w hS_; exact (amc a0 (1 : Int) krf krf e6))) (rp 9 [5, 6] (rt 7 (Vi .i64 (a0 - (1 : Int))) rfl rfl (abc rfl (by intro w hS_; exact (amc a0 (1 : Int) krf krf e7))) (rt 8 (Vp (some (ea a2 ((a0 - (1 : Int)).toNat * 3)))) rfl rfl (abc rfl (by intro w hS_; exact (alg a2 a1.length a3 46 3 .i64 (a0 - (1 : Int)) Tryz.underlying22 krf krf krf (afn (l := a1) rfl c8) e8))) (rp 5 [10, 11] (rt 12 (Vp (some (ea a2 (a0.toNat * 3)))) rfl rfl (abc rfl (by intro w hS_; exact (alg a2 a1.length a3 46 3 .i64 a0 Tryz.underlying22 krf krf krf (afn (l := a1) rfl d0) e9))) (r_one2 [true, true, true, true, true, true, true, true, true, true, true, true, true, false, false, false, false, false] [true, true, true, true, true, true, true, true, true, false, true, true, true, true, false, false, false, false] 9 13 _ _ rfl rfl krf krf krf rfl rfl ?_ ?_)))))))
  refine aiy a2 aaa a1 3 (a0 - (1 : Int)) aab (b7.rdrw 0 rfl) [(str ((el a1 (a0 - (1 : Int))).1)), (str ((el a1 (a0 - (1 : Int))).2.1)), (Vb ((el a1 (a0 - (1 : Int))).2.2))] c9 krf krf krf krf (by decide) (wl (abq (by exact trivial) (ro 13 rfl (aiy a2 aaa a1 3 a0 aab (b7.rdrw 0 rfl) [(str ((el a1 a0).1)), (str ((el a1 a0).2.1)), (Vb ((el a1 a0).2.2))] d1 krf krf krf krf (by decide) (wl (abq (by exact trivial) (rt 14 (Vp (some (ea a2 (a0.toNat * 3)))) rfl rfl (abc rfl (by intro w hS_; exact (alg a2 a1.length a3 46 3 .i64 a0 Tryz.underlying22 krf krf krf (afn (l := a1) rfl c2) d2))) (ro 15 rfl (alh b7 0 a5 a2 a3 46 3 a0 a1 ((el a1 (a0 - (1 : Int))).1, (el a1 (a0 - (1 : Int))).2.1, ((el a1 (a0 - (1 : Int))).2.2)) rfl aab [(str ((el a1 (a0 - (1 : Int))).1)), (str ((el a1 (a0 - (1 : Int))).2.1)), (Vb ((el a1 (a0 - (1 : Int))).2.2))] d3 krf krf krf (by decide) krf fun c3 b1 => ?_)))))))))
  replace b1 : Hp w (abf [rwt aaa 46 3 a5 a2 a3 a6]) [rwt aaa 46 3 a5 a2 a3 (zak a1 (zad a0) ((el a1 (a0 - (1 : Int))).1, (el a1 (a0 - (1 : Int))).2.1, ((el a1 (a0 - (1 : Int))).2.2)))] c3 := b1
  refine wl (abq (by exact trivial) (adi krf (gi a4 fun f0 a4 => ahu a2 a1.length a3 46 3 .i64 (a0 - (1 : Int)) Tryz.underlying22 krf krf krf (zak a1 (zad a0) ((el a1 (a0 - (1 : Int))).1, (el a1 (a0 - (1 : Int))).2.1, ((el a1 (a0 - (1 : Int))).2.2))) (by first | rfl | (simp; done) | omega | (simp; omega) | (rw [zah]; omega)) f0 (b1.rdrw 0 rfl) aab (by decide) (gi a4 fun f1 a4 => alh b1 0 a5 a2 a3 46 3 (a0 - (1 : Int)) (zak a1 (zad a0) ((el a1 (a0 - (1 : Int))).1, (el a1 (a0 - (1 : Int))).2.1, ((el a1 (a0 - (1 : Int))).2.2))) ((el a1 a0).1, (el a1 a0).2.1, ((el a1 a0).2.2)) rfl aab [(str ((el a1 a0).1)), (str ((el a1 a0).2.1)), (Vb ((el a1 a0).2.2))] f1 krf krf krf (by decide) krf fun f2 c4 => ?_))))
  replace c4 : Hp w (abf [rwt aaa 46 3 a5 a2 a3 a6]) [rwt aaa 46 3 a5 a2 a3 (zak (zak a1 (zad a0) ((el a1 (a0 - (1 : Int))).1, (el a1 (a0 - (1 : Int))).2.1, ((el a1 (a0 - (1 : Int))).2.2))) (zad (a0 - (1 : Int))) ((el a1 a0).1, (el a1 a0).2.1, ((el a1 a0).2.2)))] f2 := c4
  refine wl (bn (qn (cr (wp 1 (gi a4 fun f3 a4 => adg a0 (1 : Int) krf krf f3 (wp 1 (wl (ql ?_))))))))
  exact ⟨(b4, zak (zak a1 (zad a0) ((el a1 (a0 - (1 : Int))).1, (el a1 (a0 - (1 : Int))).2.1, ((el a1 (a0 - (1 : Int))).2.2))) (zad (a0 - (1 : Int))) ((el a1 a0).1, (el a1 a0).2.1, ((el a1 a0).2.2)), a0 - (1 : Int)), _, rfl, (mc (Eq.trans (b := (Vs a2 a1.length a3)) krf (aaj lsy)) (mc krf (mc krf (mc krf (mc krf (mc krf rfl)))))), ⟨c4.kp, lsz, a4⟩, zac _⟩
  refine aiy a2 aaa a1 3 a0 aab (b7.rdrw 0 rfl) [(str ((el a1 a0).1)), (str ((el a1 a0).2.1)), (Vb ((el a1 a0).2.2))] d1 krf krf krf krf (by decide) (wl (abq (by exact trivial) (ro 9 rfl (aiy a2 aaa a1 3 (a0 - (1 : Int)) aab (b7.rdrw 0 rfl) [(str ((el a1 (a0 - (1 : Int))).1)), (str ((el a1 (a0 - (1 : Int))).2.1)), (Vb ((el a1 (a0 - (1 : Int))).2.2))] c9 krf krf krf krf (by decide) (wl (abq (by exact trivial) (rt 14 (Vp (some (ea a2 (a0.toNat * 3)))) rfl rfl (abc rfl (by intro w hS_; exact (alg a2 a1.length a3 46 3 .i64 a0 Tryz.underlying22 krf krf krf (afn (l := a1) rfl c2) d2))) (ro 15 rfl (alh b7 0 a5 a2 a3 46 3 a0 a1 ((el a1 (a0 - (1 : Int))).1, (el a1 (a0 - (1 : Int))).2.1, ((el a1 (a0 - (1 : Int))).2.2)) rfl aab [(str ((el a1 (a0 - (1 : Int))).1)), (str ((el a1 (a0 - (1 : Int))).2.1)), (Vb ((el a1 (a0 - (1 : Int))).2.2))] d3 krf krf krf (by decide) krf fun c3 b1 => ?_)))))))))
  replace b1 : Hp w (abf [rwt aaa 46 3 a5 a2 a3 a6]) [rwt aaa 46 3 a5 a2 a3 (zak a1 (zad a0) ((el a1 (a0 - (1 : Int))).1, (el a1 (a0 - (1 : Int))).2.1, ((el a1 (a0 - (1 : Int))).2.2)))] c3 := b1
  refine wl (abq (by exact trivial) (adi krf (gi a4 fun f4 a4 => ahu a2 a1.length a3 46 3 .i64 (a0 - (1 : Int)) Tryz.underlying22 krf krf krf (zak a1 (zad a0) ((el a1 (a0 - (1 : Int))).1, (el a1 (a0 - (1 : Int))).2.1, ((el a1 (a0 - (1 : Int))).2.2))) (by first | rfl | (simp; done) | omega | (simp; omega) | (rw [zah]; omega)) f4 (b1.rdrw 0 rfl) aab (by decide) (gi a4 fun f5 a4 => alh b1 0 a5 a2 a3 46 3 (a0 - (1 : Int)) (zak a1 (zad a0) ((el a1 (a0 - (1 : Int))).1, (el a1 (a0 - (1 : Int))).2.1, ((el a1 (a0 - (1 : Int))).2.2))) ((el a1 a0).1, (el a1 a0).2.1, ((el a1 a0).2.2)) rfl aab [(str ((el a1 a0).1)), (str ((el a1 a0).2.1)), (Vb ((el a1 a0).2.2))] f5 krf krf krf (by decide) krf fun f6 c5 => ?_))))
  replace c5 : Hp w (abf [rwt aaa 46 3 a5 a2 a3 a6]) [rwt aaa 46 3 a5 a2 a3 (zak (zak a1 (zad a0) ((el a1 (a0 - (1 : Int))).1, (el a1 (a0 - (1 : Int))).2.1, ((el a1 (a0 - (1 : Int))).2.2))) (zad (a0 - (1 : Int))) ((el a1 a0).1, (el a1 a0).2.1, ((el a1 a0).2.2)))] f6 := c5
  refine wl (bn (qn (cr (wp 1 (gi a4 fun f7 a4 => adg a0 (1 : Int) krf krf f7 (wp 1 (wl (ql ?_))))))))
  exact ⟨(b4, zak (zak a1 (zad a0) ((el a1 (a0 - (1 : Int))).1, (el a1 (a0 - (1 : Int))).2.1, ((el a1 (a0 - (1 : Int))).2.2))) (zad (a0 - (1 : Int))) ((el a1 a0).1, (el a1 a0).2.1, ((el a1 a0).2.2)), a0 - (1 : Int)), _, rfl, (mc (Eq.trans (b := (Vs a2 a1.length a3)) krf (aaj lsy)) (mc krf (mc krf (mc krf (mc krf (mc krf rfl)))))), ⟨c5.kp, lsz, a4⟩, zac _⟩
  refine ace (acd (acq (acf (bn (ql ?_)))))
  obtain rfl := oi a4
  exact ⟨a1, _, rfl, by kernel_rfl, b8.kp, lsz, rfl⟩
  rintro b3 h1 G ⟨f8, h2, rfl⟩
  refine cr (wp 1 (gi a8 fun f9 a8 => aah b2 (1 : Int) krf krf f9 (wp 1 (wl (ql ?_)))))
  exact ⟨(b5, b3, b2 + (1 : Int)), _, rfl, by kernel_rfl, ⟨f8.kp, lsz, a8⟩, zac _⟩
  refine ace (acd (acq (acf ?_)))
  obtain rfl := oi a8
  refine ajb  rfl  ?_
  exact ⟨(by first | rfl | (simp; done) | (simp; omega)), lsz, c6.kp⟩
theorem adm {fu : Nat} {a8 : List (Str × Str × Bool)} {a3 : Int} {a2 : Int} {b3 : Int} (a7 : Option Nat) (a5 : Option Addr) (a6 : Nat) {w : World} {r : List (Str × Str × Bool)} (hr : aba fu a8 a3 a2 b3 = some r) (hG : Gl w) (hM : Hp w (abf [rwt aaa 46 3 a7 a5 a6 a8]) [rwt aaa 46 3 a7 a5 a6 a8] w) (hS : ∀ b ∈ abf [rwt aaa 46 3 a7 a5 a6 a8], 9 ≤ b) : CR Tryz.prog 270 [(Vs a5 a8.length a6), (Vi .i64 a3), (Vi .i64 a2), (Vi .i64 b3), (zan (.func 130) #[] #[])] w fun v w' => v = (zal #[]) ∧ r.length = a8.length ∧ Hp w (abf [rwt aaa 46 3 a7 a5 a6 a8]) [rwt aaa 46 3 a7 a5 a6 r] w' := by
  have hH : Hp w (abf [rwt aaa 46 3 a7 a5 a6 a8]) [rwt aaa 46 3 a7 a5 a6 a8] w := hM
  refine enter (k := 38) Tryz.func270 rfl rfl nbe ?_
  unfold aba at hr
  refine sr (wp 1 (nq (ce (lpG (σ := Nat × (List (Str × Str × Bool)) × Int) [0, 1, 2, 3, 10] (fun ⟨b0, a1, a0⟩ => [(0, (Vs a5 a1.length a6)), (10, (Vi .i64 a0))]) (fun ⟨b0, a1, a0⟩ w' => Hp w (abf [rwt aaa 46 3 a7 a5 a6 a8]) [rwt aaa 46 3 a7 a5 a6 a1] w' ∧ a1.length = a8.length ∧ aau fu a3 a2 b3 b0 a1 a0 = some r) (fun ⟨b0, a1, a0⟩ => b0) (fu, a8, (0 : Int)) (by exact ⟨hH.kp, lsz, hr⟩) ?_))))
  rintro ⟨_ | b0, a1, a0⟩ d9 G ⟨b2, e0, a4⟩
  · exact nzz a4
  rw [aau.eq_2] at a4
  refine cs (sr (wp 3 (nq (cd a4 (fun c4 a4 => ?_) (fun c4 a4 => ?_)))))
  refine ck (qn (cs (ce (gi a4 fun c5 a4 => gi a4 fun c6 a4 => gi a4 fun c7 a4 => gi a4 fun b8 a4 => ?_))))
  have c8 := afy (b2.rdrw 0 rfl) aab (by decide) b8
  refine gi a4 fun b9 a4 => gi a4 fun c9 a4 => gi a4 fun c0 a4 => ?_
  have d0 := afy (b2.rdrw 0 rfl) aab (by decide) c0
  refine gi a4 fun c1 a4 => gi a4 fun b4 a4 => ?_
  have c2 := afy (b2.rdrw 0 rfl) aab (by decide) b4
  refine gi a4 fun c3 a4 => cdr 22 b2 (aas (acz (aaq (aas acy)))) fun e1 b1 => rp 19 [0, 1, 2] (rt 3 (Vi .i64 (a3 + a0)) rfl rfl (abc rfl (by intro w hS_; exact (alv a3 a0 krf krf c5))) (rp 15 [4, 5, 6] (rt 7 (Vi .i64 (a2 + a0)) rfl rfl (abc rfl (by intro w hS_; exact (alv a2 a0 krf krf c6))) (rp 11 [8, 9, 10] (rt 11 (Vi .i64 (a2 + a0)) rfl rfl (abc rfl (by intro w hS_; exact (alv a2 a0 krf krf c7))) (rt 12 (Vp (some (ea a5 ((a2 + a0).toNat * 3)))) rfl rfl (abc rfl (by intro w hS_; exact (alg a5 a1.length a6 46 3 .i64 (a2 + a0) Tryz.underlying22 krf krf krf (afn (l := a1) rfl b8) c8))) (rp 6 [14, 15, 16] ?_)))))))
  refine rt 17 (Vi .i64 (a3 + a0)) rfl rfl (abc rfl (by intro w hS_; exact (alv a3 a0 krf krf c9))) (rt 18 (Vp (some (ea a5 ((a3 + a0).toNat * 3)))) rfl rfl (abc rfl (by intro w hS_; exact (alg a5 a1.length a6 46 3 .i64 (a3 + a0) Tryz.underlying22 krf krf krf (afn (l := a1) rfl c0) d0))) (r_one2 [true, true, true, true, true, true, true, true, true, true, true, true, true, true, true, true, true, true, true, false, false, false, false, false] [true, true, true, true, true, true, true, true, true, true, true, true, true, false, true, true, true, true, true, true, false, false, false, false] 13 19 _ _ rfl rfl krf krf krf rfl rfl ?_ ?_))
  refine aiy a5 aaa a1 3 (a2 + a0) aab (b1.rdrw 0 rfl) [(str ((el a1 (a2 + a0)).1)), (str ((el a1 (a2 + a0)).2.1)), (Vb ((el a1 (a2 + a0)).2.2))] b9 krf krf krf krf (by decide) (wl (abq (by exact trivial) (ro 19 rfl (aiy a5 aaa a1 3 (a3 + a0) aab (b1.rdrw 0 rfl) [(str ((el a1 (a3 + a0)).1)), (str ((el a1 (a3 + a0)).2.1)), (Vb ((el a1 (a3 + a0)).2.2))] c1 krf krf krf krf (by decide) (wl (abq (by exact trivial) (rt 20 (Vp (some (ea a5 ((a3 + a0).toNat * 3)))) rfl rfl (abc rfl (by intro w hS_; exact (alg a5 a1.length a6 46 3 .i64 (a3 + a0) Tryz.underlying22 krf krf krf (afn (l := a1) rfl b4) c2))) (ro 21 rfl (alh b1 0 a7 a5 a6 46 3 (a3 + a0) a1 ((el a1 (a2 + a0)).1, (el a1 (a2 + a0)).2.1, ((el a1 (a2 + a0)).2.2)) rfl aab [(str ((el a1 (a2 + a0)).1)), (str ((el a1 (a2 + a0)).2.1)), (Vb ((el a1 (a2 + a0)).2.2))] c3 krf krf krf (by decide) krf fun b5 a9 => ?_)))))))))
  replace a9 : Hp w (abf [rwt aaa 46 3 a7 a5 a6 a8]) [rwt aaa 46 3 a7 a5 a6 (zak a1 (zad (a3 + a0)) ((el a1 (a2 + a0)).1, (el a1 (a2 + a0)).2.1, ((el a1 (a2 + a0)).2.2)))] b5 := a9
  refine wl (abq (by exact trivial) (adi krf (gi a4 fun d1 a4 => ahu a5 a1.length a6 46 3 .i64 (a2 + a0) Tryz.underlying22 krf krf krf (zak a1 (zad (a3 + a0)) ((el a1 (a2 + a0)).1, (el a1 (a2 + a0)).2.1, ((el a1 (a2 + a0)).2.2))) (by first | rfl | (simp; done) | omega | (simp; omega) | (rw [zah]; omega)) d1 (a9.rdrw 0 rfl) aab (by decide) (gi a4 fun d2 a4 => alh a9 0 a7 a5 a6 46 3 (a2 + a0) (zak a1 (zad (a3 + a0)) ((el a1 (a2 + a0)).1, (el a1 (a2 + a0)).2.1, ((el a1 (a2 + a0)).2.2))) ((el a1 (a3 + a0)).1, (el a1 (a3 + a0)).2.1, ((el a1 (a3 + a0)).2.2)) rfl aab [(str ((el a1 (a3 + a0)).1)), (str ((el a1 (a3 + a0)).2.1)), (Vb ((el a1 (a3 + a0)).2.2))] d2 krf krf krf (by decide) krf fun d3 b6 => ?_))))
  replace b6 : Hp w (abf [rwt aaa 46 3 a7 a5 a6 a8]) [rwt aaa 46 3 a7 a5 a6 (zak (zak a1 (zad (a3 + a0)) ((el a1 (a2 + a0)).1, (el a1 (a2 + a0)).2.1, ((el a1 (a2 + a0)).2.2))) (zad (a2 + a0)) ((el a1 (a3 + a0)).1, (el a1 (a3 + a0)).2.1, ((el a1 (a3 + a0)).2.2)))] d3 := b6
  refine wl (bn (qn (cr (wp 1 (gi a4 fun d4 a4 => aah a0 (1 : Int) krf krf d4 (wp 1 (wl (ql ?_))))))))
  exact ⟨(b0, zak (zak a1 (zad (a3 + a0)) ((el a1 (a2 + a0)).1, (el a1 (a2 + a0)).2.1, ((el a1 (a2 + a0)).2.2))) (zad (a2 + a0)) ((el a1 (a3 + a0)).1, (el a1 (a3 + a0)).2.1, ((el a1 (a3 + a0)).2.2)), a0 + (1 : Int)), _, rfl, (mc (Eq.trans (b := (Vs a5 a1.length a6)) krf (aaj lsy)) (mc krf (mc krf (mc krf (mc krf rfl))))), ⟨b6.kp, lsz, a4⟩, zac _⟩
  refine aiy a5 aaa a1 3 (a3 + a0) aab (b1.rdrw 0 rfl) [(str ((el a1 (a3 + a0)).1)), (str ((el a1 (a3 + a0)).2.1)), (Vb ((el a1 (a3 + a0)).2.2))] c1 krf krf krf krf (by decide) (wl (abq (by exact trivial) (ro 13 rfl (aiy a5 aaa a1 3 (a2 + a0) aab (b1.rdrw 0 rfl) [(str ((el a1 (a2 + a0)).1)), (str ((el a1 (a2 + a0)).2.1)), (Vb ((el a1 (a2 + a0)).2.2))] b9 krf krf krf krf (by decide) (wl (abq (by exact trivial) (rt 20 (Vp (some (ea a5 ((a3 + a0).toNat * 3)))) rfl rfl (abc rfl (by intro w hS_; exact (alg a5 a1.length a6 46 3 .i64 (a3 + a0) Tryz.underlying22 krf krf krf (afn (l := a1) rfl b4) c2))) (ro 21 rfl (alh b1 0 a7 a5 a6 46 3 (a3 + a0) a1 ((el a1 (a2 + a0)).1, (el a1 (a2 + a0)).2.1, ((el a1 (a2 + a0)).2.2)) rfl aab [(str ((el a1 (a2 + a0)).1)), (str ((el a1 (a2 + a0)).2.1)), (Vb ((el a1 (a2 + a0)).2.2))] c3 krf krf krf (by decide) krf fun b5 a9 => ?_)))))))))
  replace a9 : Hp w (abf [rwt aaa 46 3 a7 a5 a6 a8]) [rwt aaa 46 3 a7 a5 a6 (zak a1 (zad (a3 + a0)) ((el a1 (a2 + a0)).1, (el a1 (a2 + a0)).2.1, ((el a1 (a2 + a0)).2.2)))] b5 := a9
  refine wl (abq (by exact trivial) (adi krf (gi a4 fun d5 a4 => ahu a5 a1.length a6 46 3 .i64 (a2 + a0) Tryz.underlying22 krf krf krf (zak a1 (zad (a3 + a0)) ((el a1 (a2 + a0)).1, (el a1 (a2 + a0)).2.1, ((el a1 (a2 + a0)).2.2))) (by first | rfl | (simp; done) | omega | (simp; omega) | (rw [zah]; omega)) d5 (a9.rdrw 0 rfl) aab (by decide) (gi a4 fun d6 a4 => alh a9 0 a7 a5 a6 46 3 (a2 + a0) (zak a1 (zad (a3 + a0)) ((el a1 (a2 + a0)).1, (el a1 (a2 + a0)).2.1, ((el a1 (a2 + a0)).2.2))) ((el a1 (a3 + a0)).1, (el a1 (a3 + a0)).2.1, ((el a1 (a3 + a0)).2.2)) rfl aab [(str ((el a1 (a3 + a0)).1)), (str ((el a1 (a3 + a0)).2.1)), (Vb ((el a1 (a3 + a0)).2.2))] d6 krf krf krf (by decide) krf fun d7 b7 => ?_))))
  replace b7 : Hp w (abf [rwt aaa 46 3 a7 a5 a6 a8]) [rwt aaa 46 3 a7 a5 a6 (zak (zak a1 (zad (a3 + a0)) ((el a1 (a2 + a0)).1, (el a1 (a2 + a0)).2.1, ((el a1 (a2 + a0)).2.2))) (zad (a2 + a0)) ((el a1 (a3 + a0)).1, (el a1 (a3 + a0)).2.1, ((el a1 (a3 + a0)).2.2)))] d7 := b7
  refine wl (bn (qn (cr (wp 1 (gi a4 fun d8 a4 => aah a0 (1 : Int) krf krf d8 (wp 1 (wl (ql ?_))))))))
  exact ⟨(b0, zak (zak a1 (zad (a3 + a0)) ((el a1 (a2 + a0)).1, (el a1 (a2 + a0)).2.1, ((el a1 (a2 + a0)).2.2))) (zad (a2 + a0)) ((el a1 (a3 + a0)).1, (el a1 (a3 + a0)).2.1, ((el a1 (a3 + a0)).2.2)), a0 + (1 : Int)), _, rfl, (mc (Eq.trans (b := (Vs a5 a1.length a6)) krf (aaj lsy)) (mc krf (mc krf (mc krf (mc krf rfl))))), ⟨b7.kp, lsz, a4⟩, zac _⟩
  refine ace (acd (acq (acf ?_)))
  obtain rfl := oi a4
  refine ajb  rfl  ?_
  exact ⟨(by first | rfl | (simp; done) | (simp; omega)), lsz, b2.kp⟩
theorem aiu {fu : Nat} {a6 : List (Str × Str × Bool)} {b2 : Int} {a4 : Int} {b3 : Int} (a3 : Option Nat) (a0 : Option Addr) (a1 : Nat) {w : World} {r : List (Str × Str × Bool)} (hr : abn fu a6 b2 a4 b3 = some r) (hG : Gl w) (hM : Hp w (abf [rwt aaa 46 3 a3 a0 a1 a6]) [rwt aaa 46 3 a3 a0 a1 a6] w) (hS : ∀ b ∈ abf [rwt aaa 46 3 a3 a0 a1 a6], 9 ≤ b) : CR Tryz.prog 262 [(Vs a0 a6.length a1), (Vi .i64 b2), (Vi .i64 a4), (Vi .i64 b3), (zan (.func 130) #[] #[])] w fun v w' => v = (zal #[]) ∧ r.length = a6.length ∧ Hp w (abf [rwt aaa 46 3 a3 a0 a1 a6]) [rwt aaa 46 3 a3 a0 a1 r] w' := by
  have hH : Hp w (abf [rwt aaa 46 3 a3 a0 a1 a6]) [rwt aaa 46 3 a3 a0 a1 a6] w := hM
  refine enter (k := 58) Tryz.func262 rfl rfl nbe ?_
  unfold abn at hr
  refine sr (wp 2 (gi hr fun g1 hr => adg a4 b2 krf krf g1 (wp 1 (nq (sr ?_)))))
  refine wp 2 (gi hr fun g2 hr => adg b3 a4 krf krf g2 (wp 1 (nq (bi hr fun b5 c1 hr => cut (σ := ((List (Str × Str × Bool)) × Int)) [0, 2, 4, 10] (fun a9 => [(0, (Vs a0 a9.1.length a1)), (10, (Vi .i64 a9.2))]) (fun a9 w' => Hp w (abf [rwt aaa 46 3 a3 a0 a1 a6]) [rwt aaa 46 3 a3 a0 a1 a9.1] w' ∧ a9.1.length = a6.length ∧ a9 = b5) ?_ ?_))))
  refine ce (lpG (σ := Nat × (List (Str × Str × Bool)) × Int × Int) [0, 2, 4, 10, 11] (fun ⟨b1, a7, a5, a8⟩ => [(0, (Vs a0 a7.length a1)), (10, (Vi .i64 a5)), (11, (Vi .i64 a8))]) (fun ⟨b1, a7, a5, a8⟩ w' => Hp w (abf [rwt aaa 46 3 a3 a0 a1 a6]) [rwt aaa 46 3 a3 a0 a1 a7] w' ∧ a7.length = a6.length ∧ aaz fu a4 b1 a7 a5 a8 = some b5) (fun ⟨b1, a7, a5, a8⟩ => b1) (fu, a6, a4 - b2, b3 - a4) (by exact ⟨hH.kp, lsz, c1⟩) ?_)
  rintro ⟨_ | b1, a7, a5, a8⟩ e1 G ⟨b0, e2, a2⟩
  · exact nzz a2
  rw [aaz.eq_2] at a2
  refine cs (sr (wp 3 (nq (cn a2 (fun c2 a2 => ?_) (fun c2 a2 => ?_)))))
  refine ck (qn (ce (sr (wp 3 (nq (cd a2 (fun c3 a2 => ?_) (fun c3 a2 => ?_)))))))
  refine sr (wp 3 (gi a2 fun c4 a2 => adg a4 a5 krf krf c4 (wp 3 (bi a2 fun b6 c5 a2 => aat 270 #[] [(Vs a0 a7.length a1), (Vi .i64 (a4 - a5)), (Vi .i64 a4), (Vi .i64 a8), (zan (.func 130) #[] #[])] _ ent270 krf krf (adm a3 a0 a1 c5 (hG.hp b0 hS) (b0.hand (L1 := [rwt aaa 46 3 a3 a0 a1 a7]) (L2 := [])) (b0.highs hG hS 1 rfl)) ?_))))
  rintro _ c6 ⟨rfl, e3, b7⟩
  have c7 : Hp w (abf [rwt aaa 46 3 a3 a0 a1 a6]) [rwt aaa 46 3 a3 a0 a1 b6] c6 := Hp.callK (L1 := [rwt aaa 46 3 a3 a0 a1 a7]) (L2 := []) b0 b7; clear b7
  refine nq (cr (wp 2 (gi a2 fun c8 a2 => adg a5 a8 krf krf c8 (wp 1 (wl (bn (ql ?_)))))))
  exact ⟨(b1, b6, a5 - a8, a8), _, rfl, (mc (Eq.trans (b := (Vs a0 a7.length a1)) krf (aaj lsy)) (mc krf (mc krf (mc krf (mc krf rfl))))), ⟨c7.kp, lsz, a2⟩, zac _⟩
  refine sr (wp 3 (gi a2 fun c9 a2 => adg a4 a5 krf krf c9 (wp 2 (gi a2 fun d0 a2 => aah a4 a8 krf krf d0 (wp 1 (gi a2 fun d1 a2 => ?_))))))
  refine adg (a4 + a8) a5 krf krf d1 (wp 2 (bi a2 fun b8 d2 a2 => aat 270 #[] [(Vs a0 a7.length a1), (Vi .i64 (a4 - a5)), (Vi .i64 ((a4 + a8) - a5)), (Vi .i64 a5), (zan (.func 130) #[] #[])] _ ent270 krf krf (adm a3 a0 a1 d2 (hG.hp b0 hS) (b0.hand (L1 := [rwt aaa 46 3 a3 a0 a1 a7]) (L2 := [])) (b0.highs hG hS 1 rfl)) ?_))
  rintro _ d3 ⟨rfl, e4, b9⟩
  have d4 : Hp w (abf [rwt aaa 46 3 a3 a0 a1 a6]) [rwt aaa 46 3 a3 a0 a1 b8] d3 := Hp.callK (L1 := [rwt aaa 46 3 a3 a0 a1 a7]) (L2 := []) b0 b9; clear b9
  refine nq (cr (wp 2 (gi a2 fun d5 a2 => adg a8 a5 krf krf d5 (wp 1 (wl (bn (ql ?_)))))))
  exact ⟨(b1, b8, a5, a8 - a5), _, rfl, (mc (Eq.trans (b := (Vs a0 a7.length a1)) krf (aaj lsy)) (mc krf (mc krf (mc krf (mc krf rfl))))), ⟨d4.kp, lsz, a2⟩, zac _⟩
  refine ace (acd (acq (acf (ql ?_))))
  obtain rfl := oi a2
  exact ⟨(a7, a5), _, rfl, by kernel_rfl, b0.kp, lsz, rfl⟩
  rintro a9 e5 G ⟨b4, e6, rfl⟩
  refine cr (wp 3 (gi hr fun d6 hr => adg a4 a9.2 krf krf d6 (wp 3 (bi hr fun d7 d8 hr => aat 270 #[] [(Vs a0 a9.1.length a1), (Vi .i64 (a4 - a9.2)), (Vi .i64 a4), (Vi .i64 a9.2), (zan (.func 130) #[] #[])] _ ent270 krf krf (adm a3 a0 a1 d8 (hG.hp b4 hS) (b4.hand (L1 := [rwt aaa 46 3 a3 a0 a1 a9.1]) (L2 := [])) (b4.highs hG hS 1 rfl)) ?_))))
  rintro _ d9 ⟨rfl, e7, c0⟩
  have e0 : Hp w (abf [rwt aaa 46 3 a3 a0 a1 a6]) [rwt aaa 46 3 a3 a0 a1 d7] d9 := Hp.callK (L1 := [rwt aaa 46 3 a3 a0 a1 a9.1]) (L2 := []) b4 c0; clear c0
  refine wl ?_
  obtain rfl := oi hr
  refine ajb  rfl  ?_
  exact ⟨(by first | rfl | (simp; done) | (simp; omega)), lsz, e0.kp⟩
theorem afm : ∀ {fu : Nat} {a5 : List (Str × Str × Bool)} {a8 : Int} {a9 : Int} {b2 : Int} (a7 : Option Nat) (a0 : Option Addr) (a6 : Nat) {w : World} {r : List (Str × Str × Bool)} (hr : aam fu a5 a8 a9 b2 = some r) (hG : Gl w) (hM : Hp w (abf [rwt aaa 46 3 a7 a0 a6 a5]) [rwt aaa 46 3 a7 a0 a6 a5] w) (hS : ∀ b ∈ abf [rwt aaa 46 3 a7 a0 a6 a5], 9 ≤ b), CR Tryz.prog 242 [(Vs a0 a5.length a6), (Vi .i64 a8), (Vi .i64 a9), (Vi .i64 b2), (zan (.func 130) #[] #[])] w fun v w' => v = (zal #[]) ∧ r.length = a5.length ∧ Hp w (abf [rwt aaa 46 3 a7 a0 a6 a5]) [rwt aaa 46 3 a7 a0 a6 r] w' := by
  intro fu
  induction fu with
  | zero =>
    intro a5 a8 a9 b2 a7 a0 a6 w r hr hG hM hS
    exact nzz hr
  | succ fu ih =>
  intro a5 a8 a9 b2 a7 a0 a6 w r hr hG hM hS
  have hH : Hp w (abf [rwt aaa 46 3 a7 a0 a6 a5]) [rwt aaa 46 3 a7 a0 a6 a5] w := hM
  refine enter (k := 220) Tryz.func242 rfl rfl nbe ?_
  rw [aam.eq_2] at hr
  refine bi hr fun j5 c3 hr => cut1 hH j5 [0, 1, 2, 3, 4] (fun j6 => []) ?_ ?_
  refine sr (wp 2 (gi c3 fun j7 c3 => adg a9 a8 krf krf j7 (wp 1 (nq (cd c3 (fun j8 c3 => ?_) (fun j8 c3 => ?_))))))
  refine sr (wp 2 (nq (sr (wp 2 (nq ?_)))))
  refine bi c3 fun f1 j9 c3 => agq hH [0, 1, 2, 3, 4, 10] [(10, (Vi .i64 f1))] ?_ ?_
  refine ce (lpS (fun g4 ⟨b8, b9⟩ => aap fu a5 a8 g4 b8 b9) (a9, b2) hH j9 [0, 1, 2, 3, 4, 10, 11] (fun ⟨b8, b9⟩ => [(10, (Vi .i64 b8)), (11, (Vi .i64 b9))]) (fun _ => rfl) ?_)
  rintro g4 ⟨b8, b9⟩ t4 G g5 b6
  dsimp only at b6
  rw [aap.eq_2] at b6
  refine cs (sr (wp 3 (nq (cd b6 (fun k0 b6 => ?_) (fun k0 b6 => ?_)))))
  refine ck (qn (ce (sr (wp 2 (gi b6 fun k1 b6 => aah b8 b9 krf krf k1 (anw .u64 .i64 (b8 + b9) Tryz.underlying3 Tryz.underlying172 krf (w_shr .u64 .u64 (zab .u64 (b8 + b9)) (1 : Int) 2 krf krf (by decide) (by decide) (by decide) ?_)))))))
  refine anw .i64 .u64 ((zab .u64 (b8 + b9)) / 2) Tryz.underlying172 Tryz.underlying3 krf (wp 1 (nq (cs (gi b6 fun k2 b6 => gi b6 fun k3 b6 => gi b6 fun k4 b6 => gi b6 fun k5 b6 => adu 9 (fun j_ w_ w_' => aax [4, 9, 10] (fun w' => Rd w' a0 (zai aaa a5)) j_ w_ w_' ∧ aax [9, 10] (fun w' => Rd w' a0 (zai aaa a5)) j_ w_ w_' ∧ aax [8, 9, 10] (fun w' => Rd w' a0 (zai aaa a5)) j_ w_ w_' ∧ True) [false, false, false, false, false, false, false, false, false, false, false] (fun _ _ => ⟨aax.same, aax.same, aax.same, trivial⟩) krf krf g5 rfl (acz (aas (aaq (aas (aaq (aaq acy)))))) fun t5 d3 => ?_))))
  refine rp 6 [0, 1, 2] (aak [true, true, true, true, false, false, false, false, false, false, false] 3 43 (Vp (some (ea a0 ((zab .i64 ((zab .u64 (b8 + b9)) / 2)).toNat * 3)))) [4, 9, 10] (fun _ _ _ h => h.1) _ rfl rfl krf krf krf krf krf rfl (abc rfl (by intro w hS_; exact (apd a0 a5.length a6 46 3 .i64 (zab .i64 ((zab .u64 (b8 + b9)) / 2)) Tryz.underlying22 krf krf krf a5 rfl k2 hS_ aab (by decide)))) (by exact (d3.rdrw 0 rfl)) (aak [true, true, true, true, true, false, false, false, false, false, false] 4 44 (zam #[(str ((el a5 (zab .i64 ((zab .u64 (b8 + b9)) / 2))).1)), (str ((el a5 (zab .i64 ((zab .u64 (b8 + b9)) / 2))).2.1)), (Vb ((el a5 (zab .i64 ((zab .u64 (b8 + b9)) / 2))).2.2))]) [9, 10] (fun _ _ _ h => h.2.1) _ rfl rfl krf krf krf krf krf rfl (abc rfl (by intro w hS_; exact (apw a0 aaa a5 3 (zab .i64 ((zab .u64 (b8 + b9)) / 2)) aab hS_ [(str ((el a5 (zab .i64 ((zab .u64 (b8 + b9)) / 2))).1)), (str ((el a5 (zab .i64 ((zab .u64 (b8 + b9)) / 2))).2.1)), (Vb ((el a5 (zab .i64 ((zab .u64 (b8 + b9)) / 2))).2.2))] k3 krf krf krf krf (by decide)))) (by exact (d3.rdrw 0 rfl)) (rp 2 [5, 6] (aak [true, true, true, true, true, true, true, true, false, false, false] 7 47 (Vp (some (ea a0 (a8.toNat * 3)))) [8, 9, 10] (fun _ _ _ h => h.2.2.1) _ rfl rfl krf krf krf krf krf rfl (abc rfl (by intro w hS_; exact (apd a0 a5.length a6 46 3 .i64 a8 Tryz.underlying22 krf krf krf a5 rfl k4 hS_ aab (by decide)))) (by exact (d3.rdrw 0 rfl)) (aak [true, true, true, true, true, true, true, true, true, false, false] 8 48 (zam #[(str ((el a5 a8).1)), (str ((el a5 a8).2.1)), (Vb ((el a5 a8).2.2))]) [9, 10] (fun _ _ _ h => h.2.1) _ rfl rfl krf krf krf krf krf rfl (abc rfl (by intro w hS_; exact (apw a0 aaa a5 3 a8 aab hS_ [(str ((el a5 a8).1)), (str ((el a5 a8).2.1)), (Vb ((el a5 a8).2.2))] k5 krf krf krf krf (by decide)))) (by exact (d3.rdrw 0 rfl)) (adi krf (bi b6 fun t6 k6 b6 => wc ent130 d3 (ajw k6 (hG.hp d3 hS)) fun t7 g6 => wp 1 ?_)))))))
  refine nq (cd b6 (fun k7 b6 => ?_) (fun k7 b6 => ?_))
  exact cr (wp 1 (gi b6 fun k8 b6 => aah (zab .i64 ((zab .u64 (b8 + b9)) / 2)) (1 : Int) krf krf k8 (wp 1 (wl (bn (ql (le' ((zab .i64 ((zab .u64 (b8 + b9)) / 2)) + (1 : Int), b9) g6.kp b6)))))))
  exact cr (wp 2 (wl (bn (ql (le' (b8, zab .i64 ((zab .u64 (b8 + b9)) / 2)) g6.kp b6)))))
  refine ace (acd (acq (acf (ql ?_))))
  obtain rfl := oi b6
  exact je g5.kp
  intro t8 G k9
  refine bi c3 fun g7 l0 c3 => cut (σ := (List (Str × Str × Bool))) [0, 1, 2, 3, 4] (fun d4 => [(0, (Vs a0 d4.length a6))]) (fun d4 w' => Hp w (abf [rwt aaa 46 3 a7 a0 a6 a5]) [rwt aaa 46 3 a7 a0 a6 d4] w' ∧ d4.length = a5.length ∧ d4 = g7) ?_ ?_
  refine sr (wp 2 (nq (ce (lpG (σ := Nat × (List (Str × Str × Bool)) × Int) [0, 1, 2, 3, 4, 10, 13] (fun ⟨d0, a3, a1⟩ => [(0, (Vs a0 a3.length a6)), (13, (Vi .i64 a1))]) (fun ⟨d0, a3, a1⟩ w' => Hp w (abf [rwt aaa 46 3 a7 a0 a6 a5]) [rwt aaa 46 3 a7 a0 a6 a3] w' ∧ a3.length = a5.length ∧ aaw fu f1 d0 a3 a1 = some g7) (fun ⟨d0, a3, a1⟩ => d0) (fu, a5, a8) (by exact ⟨k9.kp, lsz, l0⟩) ?_))))
  rintro ⟨_ | d0, a3, a1⟩ t9 G ⟨e1, u0, b0⟩
  · exact nzz b0
  rw [aaw.eq_2] at b0
  refine cs (sr (wp 2 (gi b0 fun l1 b0 => adg f1 (1 : Int) krf krf l1 (wp 1 (nq (cd b0 (fun l2 b0 => ?_) (fun l2 b0 => ?_)))))))
  refine ck (qn (cs (ce (gi b0 fun l3 b0 => gi b0 fun l4 b0 => gi b0 fun g8 b0 => ?_))))
  have l5 := afy (e1.rdrw 0 rfl) aab (by decide) g8
  refine gi b0 fun g9 b0 => gi b0 fun h0 b0 => ?_
  have l6 := afy (e1.rdrw 0 rfl) aab (by decide) h0
  refine gi b0 fun h1 b0 => gi b0 fun f2 b0 => ?_
  have h2 := afy (e1.rdrw 0 rfl) aab (by decide) f2
  refine gi b0 fun h3 b0 => cdr 16 e1 (aas (acz (aaq (aas (aaq (aaq acy)))))) fun u1 d5 => rp 12 [0, 1, 2, 3] (rt 4 (Vi .i64 (a1 + (1 : Int))) rfl rfl (abc rfl (by intro w hS_; exact (alv a1 (1 : Int) krf krf l3))) (rp 9 [5, 6] (rt 7 (Vi .i64 (a1 + (1 : Int))) rfl rfl (abc rfl (by intro w hS_; exact (alv a1 (1 : Int) krf krf l4))) (rt 8 (Vp (some (ea a0 ((a1 + (1 : Int)).toNat * 3)))) rfl rfl (abc rfl (by intro w hS_; exact (alg a0 a3.length a6 46 3 .i64 (a1 + (1 : Int)) Tryz.underlying22 krf krf krf (afn (l := a3) rfl g8) l5))) (rp 5 [10, 11] (rt 12 (Vp (some (ea a0 (a1.toNat * 3)))) rfl rfl (abc rfl (by intro w hS_; exact (alg a0 a3.length a6 46 3 .i64 a1 Tryz.underlying22 krf krf krf (afn (l := a3) rfl h0) l6))) (r_one2 [true, true, true, true, true, true, true, true, true, true, true, true, true, false, false, false, false, false] [true, true, true, true, true, true, true, true, true, false, true, true, true, true, false, false, false, false] 9 13 _ _ rfl rfl krf krf krf rfl rfl ?_ ?_)))))))
  refine aiy a0 aaa a3 3 (a1 + (1 : Int)) aab (d5.rdrw 0 rfl) [(str ((el a3 (a1 + (1 : Int))).1)), (str ((el a3 (a1 + (1 : Int))).2.1)), (Vb ((el a3 (a1 + (1 : Int))).2.2))] g9 krf krf krf krf (by decide) (wl (abq (by exact trivial) (ro 13 rfl (aiy a0 aaa a3 3 a1 aab (d5.rdrw 0 rfl) [(str ((el a3 a1).1)), (str ((el a3 a1).2.1)), (Vb ((el a3 a1).2.2))] h1 krf krf krf krf (by decide) (wl (abq (by exact trivial) (rt 14 (Vp (some (ea a0 (a1.toNat * 3)))) rfl rfl (abc rfl (by intro w hS_; exact (alg a0 a3.length a6 46 3 .i64 a1 Tryz.underlying22 krf krf krf (afn (l := a3) rfl f2) h2))) (ro 15 rfl (alh d5 0 a7 a0 a6 46 3 a1 a3 ((el a3 (a1 + (1 : Int))).1, (el a3 (a1 + (1 : Int))).2.1, ((el a3 (a1 + (1 : Int))).2.2)) rfl aab [(str ((el a3 (a1 + (1 : Int))).1)), (str ((el a3 (a1 + (1 : Int))).2.1)), (Vb ((el a3 (a1 + (1 : Int))).2.2))] h3 krf krf krf (by decide) krf fun f3 c5 => ?_)))))))))
  replace c5 : Hp w (abf [rwt aaa 46 3 a7 a0 a6 a5]) [rwt aaa 46 3 a7 a0 a6 (zak a3 (zad a1) ((el a3 (a1 + (1 : Int))).1, (el a3 (a1 + (1 : Int))).2.1, ((el a3 (a1 + (1 : Int))).2.2)))] f3 := c5
  refine wl (abq (by exact trivial) (adi krf (gi b0 fun l7 b0 => ahu a0 a3.length a6 46 3 .i64 (a1 + (1 : Int)) Tryz.underlying22 krf krf krf (zak a3 (zad a1) ((el a3 (a1 + (1 : Int))).1, (el a3 (a1 + (1 : Int))).2.1, ((el a3 (a1 + (1 : Int))).2.2))) (by first | rfl | (simp; done) | omega | (simp; omega) | (rw [zah]; omega)) l7 (c5.rdrw 0 rfl) aab (by decide) (gi b0 fun l8 b0 => alh c5 0 a7 a0 a6 46 3 (a1 + (1 : Int)) (zak a3 (zad a1) ((el a3 (a1 + (1 : Int))).1, (el a3 (a1 + (1 : Int))).2.1, ((el a3 (a1 + (1 : Int))).2.2))) ((el a3 a1).1, (el a3 a1).2.1, ((el a3 a1).2.2)) rfl aab [(str ((el a3 a1).1)), (str ((el a3 a1).2.1)), (Vb ((el a3 a1).2.2))] l8 krf krf krf (by decide) krf fun l9 f4 => ?_))))
  replace f4 : Hp w (abf [rwt aaa 46 3 a7 a0 a6 a5]) [rwt aaa 46 3 a7 a0 a6 (zak (zak a3 (zad a1) ((el a3 (a1 + (1 : Int))).1, (el a3 (a1 + (1 : Int))).2.1, ((el a3 (a1 + (1 : Int))).2.2))) (zad (a1 + (1 : Int))) ((el a3 a1).1, (el a3 a1).2.1, ((el a3 a1).2.2)))] l9 := f4
  refine wl (bn (qn (cr (wp 1 (gi b0 fun m0 b0 => aah a1 (1 : Int) krf krf m0 (wp 1 (wl (ql ?_))))))))
  exact ⟨(d0, zak (zak a3 (zad a1) ((el a3 (a1 + (1 : Int))).1, (el a3 (a1 + (1 : Int))).2.1, ((el a3 (a1 + (1 : Int))).2.2))) (zad (a1 + (1 : Int))) ((el a3 a1).1, (el a3 a1).2.1, ((el a3 a1).2.2)), a1 + (1 : Int)), _, rfl, (mc (Eq.trans (b := (Vs a0 a3.length a6)) krf (aaj lsy)) (mc krf (mc krf (mc krf (mc krf (mc krf (mc krf rfl))))))), ⟨f4.kp, lsz, b0⟩, zac _⟩
  refine aiy a0 aaa a3 3 a1 aab (d5.rdrw 0 rfl) [(str ((el a3 a1).1)), (str ((el a3 a1).2.1)), (Vb ((el a3 a1).2.2))] h1 krf krf krf krf (by decide) (wl (abq (by exact trivial) (ro 9 rfl (aiy a0 aaa a3 3 (a1 + (1 : Int)) aab (d5.rdrw 0 rfl) [(str ((el a3 (a1 + (1 : Int))).1)), (str ((el a3 (a1 + (1 : Int))).2.1)), (Vb ((el a3 (a1 + (1 : Int))).2.2))] g9 krf krf krf krf (by decide) (wl (abq (by exact trivial) (rt 14 (Vp (some (ea a0 (a1.toNat * 3)))) rfl rfl (abc rfl (by intro w hS_; exact (alg a0 a3.length a6 46 3 .i64 a1 Tryz.underlying22 krf krf krf (afn (l := a3) rfl f2) h2))) (ro 15 rfl (alh d5 0 a7 a0 a6 46 3 a1 a3 ((el a3 (a1 + (1 : Int))).1, (el a3 (a1 + (1 : Int))).2.1, ((el a3 (a1 + (1 : Int))).2.2)) rfl aab [(str ((el a3 (a1 + (1 : Int))).1)), (str ((el a3 (a1 + (1 : Int))).2.1)), (Vb ((el a3 (a1 + (1 : Int))).2.2))] h3 krf krf krf (by decide) krf fun f3 c5 => ?_)))))))))
  replace c5 : Hp w (abf [rwt aaa 46 3 a7 a0 a6 a5]) [rwt aaa 46 3 a7 a0 a6 (zak a3 (zad a1) ((el a3 (a1 + (1 : Int))).1, (el a3 (a1 + (1 : Int))).2.1, ((el a3 (a1 + (1 : Int))).2.2)))] f3 := c5
  refine wl (abq (by exact trivial) (adi krf (gi b0 fun m1 b0 => ahu a0 a3.length a6 46 3 .i64 (a1 + (1 : Int)) Tryz.underlying22 krf krf krf (zak a3 (zad a1) ((el a3 (a1 + (1 : Int))).1, (el a3 (a1 + (1 : Int))).2.1, ((el a3 (a1 + (1 : Int))).2.2))) (by first | rfl | (simp; done) | omega | (simp; omega) | (rw [zah]; omega)) m1 (c5.rdrw 0 rfl) aab (by decide) (gi b0 fun m2 b0 => alh c5 0 a7 a0 a6 46 3 (a1 + (1 : Int)) (zak a3 (zad a1) ((el a3 (a1 + (1 : Int))).1, (el a3 (a1 + (1 : Int))).2.1, ((el a3 (a1 + (1 : Int))).2.2))) ((el a3 a1).1, (el a3 a1).2.1, ((el a3 a1).2.2)) rfl aab [(str ((el a3 a1).1)), (str ((el a3 a1).2.1)), (Vb ((el a3 a1).2.2))] m2 krf krf krf (by decide) krf fun m3 f5 => ?_))))
  replace f5 : Hp w (abf [rwt aaa 46 3 a7 a0 a6 a5]) [rwt aaa 46 3 a7 a0 a6 (zak (zak a3 (zad a1) ((el a3 (a1 + (1 : Int))).1, (el a3 (a1 + (1 : Int))).2.1, ((el a3 (a1 + (1 : Int))).2.2))) (zad (a1 + (1 : Int))) ((el a3 a1).1, (el a3 a1).2.1, ((el a3 a1).2.2)))] m3 := f5
  refine wl (bn (qn (cr (wp 1 (gi b0 fun m4 b0 => aah a1 (1 : Int) krf krf m4 (wp 1 (wl (ql ?_))))))))
  exact ⟨(d0, zak (zak a3 (zad a1) ((el a3 (a1 + (1 : Int))).1, (el a3 (a1 + (1 : Int))).2.1, ((el a3 (a1 + (1 : Int))).2.2))) (zad (a1 + (1 : Int))) ((el a3 a1).1, (el a3 a1).2.1, ((el a3 a1).2.2)), a1 + (1 : Int)), _, rfl, (mc (Eq.trans (b := (Vs a0 a3.length a6)) krf (aaj lsy)) (mc krf (mc krf (mc krf (mc krf (mc krf (mc krf rfl))))))), ⟨f5.kp, lsz, b0⟩, zac _⟩
  refine ace (acd (acq (acf (ql ?_))))
  obtain rfl := oi b0
  exact ⟨a3, _, rfl, by kernel_rfl, e1.kp, lsz, rfl⟩
  rintro d4 u2 G ⟨m5, u3, rfl⟩
  refine ct (adl ?_)
  obtain rfl := oi c3
  obtain rfl := oi hr
  refine r_none  rfl  ?_
  exact ⟨(by first | rfl | (simp; done) | (simp; omega)), lsz, m5.kp⟩
  refine ck (ql ?_)
  obtain rfl := oi c3
  exact je1 rfl hH.kp
  rintro j6 u4 G e9 rfl
  refine bi hr fun m6 c4 hr => cut1 e9 m6 [0, 1, 2, 3, 4] (fun m7 => []) ?_ ?_
  refine sr (wp 2 (gi c4 fun m8 c4 => adg b2 a9 krf krf m8 (wp 1 (nq (cd c4 (fun m9 c4 => ?_) (fun m9 c4 => ?_))))))
  refine sr (wp 2 (nq (sr (wp 2 (nq ?_)))))
  refine bi c4 fun h4 n0 c4 => agq e9 [0, 1, 2, 3, 4, 14] [(14, (Vi .i64 h4))] ?_ ?_
  refine ce (lpS (fun h5 ⟨c0, c1⟩ => aao fu a5 a9 h5 c0 c1) (a8, a9) e9 n0 [0, 1, 2, 3, 4, 14, 15] (fun ⟨c0, c1⟩ => [(14, (Vi .i64 c0)), (15, (Vi .i64 c1))]) (fun _ => rfl) ?_)
  rintro h5 ⟨c0, c1⟩ u5 G h6 b7
  dsimp only at b7
  rw [aao.eq_2] at b7
  refine cs (sr (wp 3 (nq (cd b7 (fun n1 b7 => ?_) (fun n1 b7 => ?_)))))
  refine ck (qn (ce (sr (wp 2 (gi b7 fun n2 b7 => aah c0 c1 krf krf n2 (anw .u64 .i64 (c0 + c1) Tryz.underlying3 Tryz.underlying172 krf (w_shr .u64 .u64 (zab .u64 (c0 + c1)) (1 : Int) 2 krf krf (by decide) (by decide) (by decide) ?_)))))))
  refine anw .i64 .u64 ((zab .u64 (c0 + c1)) / 2) Tryz.underlying172 Tryz.underlying3 krf (wp 1 (nq (cs (gi b7 fun n3 b7 => gi b7 fun n4 b7 => gi b7 fun n5 b7 => gi b7 fun n6 b7 => adu 9 (fun j_ w_ w_' => aax [4, 9, 10, 11] (fun w' => Rd w' a0 (zai aaa a5)) j_ w_ w_' ∧ aax [9, 10, 11] (fun w' => Rd w' a0 (zai aaa a5)) j_ w_ w_' ∧ aax [8, 9, 10, 11] (fun w' => Rd w' a0 (zai aaa a5)) j_ w_ w_' ∧ True) [false, false, false, false, false, false, false, false, false, false, false, false] (fun _ _ => ⟨aax.same, aax.same, aax.same, trivial⟩) krf krf h6 rfl (acz (aas (aaq (aas (aaq (aaq acy)))))) fun u6 d6 => ?_))))
  refine rp 6 [0, 1, 2] (aak [true, true, true, true, false, false, false, false, false, false, false, false] 3 95 (Vp (some (ea a0 (a9.toNat * 3)))) [4, 9, 10, 11] (fun _ _ _ h => h.1) _ rfl rfl krf krf krf krf krf rfl (abc rfl (by intro w hS_; exact (apd a0 a5.length a6 46 3 .i64 a9 Tryz.underlying22 krf krf krf a5 rfl n3 hS_ aab (by decide)))) (by exact (d6.rdrw 0 rfl)) (aak [true, true, true, true, true, false, false, false, false, false, false, false] 4 96 (zam #[(str ((el a5 a9).1)), (str ((el a5 a9).2.1)), (Vb ((el a5 a9).2.2))]) [9, 10, 11] (fun _ _ _ h => h.2.1) _ rfl rfl krf krf krf krf krf rfl (abc rfl (by intro w hS_; exact (apw a0 aaa a5 3 a9 aab hS_ [(str ((el a5 a9).1)), (str ((el a5 a9).2.1)), (Vb ((el a5 a9).2.2))] n4 krf krf krf krf (by decide)))) (by exact (d6.rdrw 0 rfl)) (rp 2 [5, 6] (aak [true, true, true, true, true, true, true, true, false, false, false, false] 7 99 (Vp (some (ea a0 ((zab .i64 ((zab .u64 (c0 + c1)) / 2)).toNat * 3)))) [8, 9, 10, 11] (fun _ _ _ h => h.2.2.1) _ rfl rfl krf krf krf krf krf rfl (abc rfl (by intro w hS_; exact (apd a0 a5.length a6 46 3 .i64 (zab .i64 ((zab .u64 (c0 + c1)) / 2)) Tryz.underlying22 krf krf krf a5 rfl n5 hS_ aab (by decide)))) (by exact (d6.rdrw 0 rfl)) (aak [true, true, true, true, true, true, true, true, true, false, false, false] 8 100 (zam #[(str ((el a5 (zab .i64 ((zab .u64 (c0 + c1)) / 2))).1)), (str ((el a5 (zab .i64 ((zab .u64 (c0 + c1)) / 2))).2.1)), (Vb ((el a5 (zab .i64 ((zab .u64 (c0 + c1)) / 2))).2.2))]) [9, 10, 11] (fun _ _ _ h => h.2.1) _ rfl rfl krf krf krf krf krf rfl (abc rfl (by intro w hS_; exact (apw a0 aaa a5 3 (zab .i64 ((zab .u64 (c0 + c1)) / 2)) aab hS_ [(str ((el a5 (zab .i64 ((zab .u64 (c0 + c1)) / 2))).1)), (str ((el a5 (zab .i64 ((zab .u64 (c0 + c1)) / 2))).2.1)), (Vb ((el a5 (zab .i64 ((zab .u64 (c0 + c1)) / 2))).2.2))] n6 krf krf krf krf (by decide)))) (by exact (d6.rdrw 0 rfl)) (adi krf (bi b7 fun u7 n7 b7 => wc ent130 d6 (ajw n7 (hG.hp d6 hS)) fun u9 h7 => wp 2 ?_)))))))
  refine nq (cn b7 (fun n8 b7 => ?_) (fun n8 b7 => ?_))
  exact cr (wp 1 (gi b7 fun n9 b7 => aah (zab .i64 ((zab .u64 (c0 + c1)) / 2)) (1 : Int) krf krf n9 (wp 1 (wl (bn (ql (le' ((zab .i64 ((zab .u64 (c0 + c1)) / 2)) + (1 : Int), c1) h7.kp b7)))))))
  exact cr (wp 2 (wl (bn (ql (le' (c0, zab .i64 ((zab .u64 (c0 + c1)) / 2)) h7.kp b7)))))
  refine ace (acd (acq (acf (ql ?_))))
  obtain rfl := oi b7
  exact je h6.kp
  intro v0 G o0
  refine bi c4 fun h8 o1 c4 => cut (σ := (List (Str × Str × Bool))) [0, 1, 2, 3, 4] (fun d7 => [(0, (Vs a0 d7.length a6))]) (fun d7 w' => Hp w (abf [rwt aaa 46 3 a7 a0 a6 a5]) [rwt aaa 46 3 a7 a0 a6 d7] w' ∧ d7.length = a5.length ∧ d7 = h8) ?_ ?_
  refine sr (wp 2 (nq (ce (lpG (σ := Nat × (List (Str × Str × Bool)) × Int) [0, 1, 2, 3, 4, 14, 17] (fun ⟨d1, a4, a2⟩ => [(0, (Vs a0 a4.length a6)), (17, (Vi .i64 a2))]) (fun ⟨d1, a4, a2⟩ w' => Hp w (abf [rwt aaa 46 3 a7 a0 a6 a5]) [rwt aaa 46 3 a7 a0 a6 a4] w' ∧ a4.length = a5.length ∧ aav fu h4 d1 a4 a2 = some h8) (fun ⟨d1, a4, a2⟩ => d1) (fu, a5, a9) (by exact ⟨o0.kp, lsz, o1⟩) ?_))))
  rintro ⟨_ | d1, a4, a2⟩ v1 G ⟨e2, v2, b1⟩
  · exact nzz b1
  rw [aav.eq_2] at b1
  refine cs (sr (wp 3 (nq (cd b1 (fun o2 b1 => ?_) (fun o2 b1 => ?_)))))
  refine ck (qn (cs (ce (gi b1 fun o3 b1 => gi b1 fun o4 b1 => gi b1 fun h9 b1 => ?_))))
  have o5 := afy (e2.rdrw 0 rfl) aab (by decide) h9
  refine gi b1 fun i0 b1 => gi b1 fun i1 b1 => ?_
  have o6 := afy (e2.rdrw 0 rfl) aab (by decide) i1
  refine gi b1 fun i2 b1 => gi b1 fun f6 b1 => ?_
  have i3 := afy (e2.rdrw 0 rfl) aab (by decide) f6
  refine gi b1 fun i4 b1 => cdr 16 e2 (aas (acz (aaq (aas (aaq (aaq acy)))))) fun v3 d8 => rp 12 [0, 1, 2, 3] (rt 4 (Vi .i64 (a2 - (1 : Int))) rfl rfl (abc rfl (by intro w hS_; exact (amc a2 (1 : Int) krf krf o3))) (rp 9 [5, 6] (rt 7 (Vi .i64 (a2 - (1 : Int))) rfl rfl (abc rfl (by intro w hS_; exact (amc a2 (1 : Int) krf krf o4))) (rt 8 (Vp (some (ea a0 ((a2 - (1 : Int)).toNat * 3)))) rfl rfl (abc rfl (by intro w hS_; exact (alg a0 a4.length a6 46 3 .i64 (a2 - (1 : Int)) Tryz.underlying22 krf krf krf (afn (l := a4) rfl h9) o5))) (rp 5 [10, 11] (rt 12 (Vp (some (ea a0 (a2.toNat * 3)))) rfl rfl (abc rfl (by intro w hS_; exact (alg a0 a4.length a6 46 3 .i64 a2 Tryz.underlying22 krf krf krf (afn (l := a4) rfl i1) o6))) (r_one2 [true, true, true, true, true, true, true, true, true, true, true, true, true, false, false, false, false, false] [true, true, true, true, true, true, true, true, true, false, true, true, true, true, false, false, false, false] 9 13 _ _ rfl rfl krf krf krf rfl rfl ?_ ?_)))))))
  refine aiy a0 aaa a4 3 (a2 - (1 : Int)) aab (d8.rdrw 0 rfl) [(str ((el a4 (a2 - (1 : Int))).1)), (str ((el a4 (a2 - (1 : Int))).2.1)), (Vb ((el a4 (a2 - (1 : Int))).2.2))] i0 krf krf krf krf (by decide) (wl (abq (by exact trivial) (ro 13 rfl (aiy a0 aaa a4 3 a2 aab (d8.rdrw 0 rfl) [(str ((el a4 a2).1)), (str ((el a4 a2).2.1)), (Vb ((el a4 a2).2.2))] i2 krf krf krf krf (by decide) (wl (abq (by exact trivial) (rt 14 (Vp (some (ea a0 (a2.toNat * 3)))) rfl rfl (abc rfl (by intro w hS_; exact (alg a0 a4.length a6 46 3 .i64 a2 Tryz.underlying22 krf krf krf (afn (l := a4) rfl f6) i3))) (ro 15 rfl (alh d8 0 a7 a0 a6 46 3 a2 a4 ((el a4 (a2 - (1 : Int))).1, (el a4 (a2 - (1 : Int))).2.1, ((el a4 (a2 - (1 : Int))).2.2)) rfl aab [(str ((el a4 (a2 - (1 : Int))).1)), (str ((el a4 (a2 - (1 : Int))).2.1)), (Vb ((el a4 (a2 - (1 : Int))).2.2))] i4 krf krf krf (by decide) krf fun f7 c6 => ?_)))))))))
  replace c6 : Hp w (abf [rwt aaa 46 3 a7 a0 a6 a5]) [rwt aaa 46 3 a7 a0 a6 (zak a4 (zad a2) ((el a4 (a2 - (1 : Int))).1, (el a4 (a2 - (1 : Int))).2.1, ((el a4 (a2 - (1 : Int))).2.2)))] f7 := c6
  refine wl (abq (by exact trivial) (adi krf (gi b1 fun o7 b1 => ahu a0 a4.length a6 46 3 .i64 (a2 - (1 : Int)) Tryz.underlying22 krf krf krf (zak a4 (zad a2) ((el a4 (a2 - (1 : Int))).1, (el a4 (a2 - (1 : Int))).2.1, ((el a4 (a2 - (1 : Int))).2.2))) (by first | rfl | (simp; done) | omega | (simp; omega) | (rw [zah]; omega)) o7 (c6.rdrw 0 rfl) aab (by decide) (gi b1 fun o8 b1 => alh c6 0 a7 a0 a6 46 3 (a2 - (1 : Int)) (zak a4 (zad a2) ((el a4 (a2 - (1 : Int))).1, (el a4 (a2 - (1 : Int))).2.1, ((el a4 (a2 - (1 : Int))).2.2))) ((el a4 a2).1, (el a4 a2).2.1, ((el a4 a2).2.2)) rfl aab [(str ((el a4 a2).1)), (str ((el a4 a2).2.1)), (Vb ((el a4 a2).2.2))] o8 krf krf krf (by decide) krf fun o9 f8 => ?_))))
  replace f8 : Hp w (abf [rwt aaa 46 3 a7 a0 a6 a5]) [rwt aaa 46 3 a7 a0 a6 (zak (zak a4 (zad a2) ((el a4 (a2 - (1 : Int))).1, (el a4 (a2 - (1 : Int))).2.1, ((el a4 (a2 - (1 : Int))).2.2))) (zad (a2 - (1 : Int))) ((el a4 a2).1, (el a4 a2).2.1, ((el a4 a2).2.2)))] o9 := f8
  refine wl (bn (qn (cr (wp 1 (gi b1 fun p0 b1 => adg a2 (1 : Int) krf krf p0 (wp 1 (wl (ql ?_))))))))
  exact ⟨(d1, zak (zak a4 (zad a2) ((el a4 (a2 - (1 : Int))).1, (el a4 (a2 - (1 : Int))).2.1, ((el a4 (a2 - (1 : Int))).2.2))) (zad (a2 - (1 : Int))) ((el a4 a2).1, (el a4 a2).2.1, ((el a4 a2).2.2)), a2 - (1 : Int)), _, rfl, (mc (Eq.trans (b := (Vs a0 a4.length a6)) krf (aaj lsy)) (mc krf (mc krf (mc krf (mc krf (mc krf (mc krf rfl))))))), ⟨f8.kp, lsz, b1⟩, zac _⟩
  refine aiy a0 aaa a4 3 a2 aab (d8.rdrw 0 rfl) [(str ((el a4 a2).1)), (str ((el a4 a2).2.1)), (Vb ((el a4 a2).2.2))] i2 krf krf krf krf (by decide) (wl (abq (by exact trivial) (ro 9 rfl (aiy a0 aaa a4 3 (a2 - (1 : Int)) aab (d8.rdrw 0 rfl) [(str ((el a4 (a2 - (1 : Int))).1)), (str ((el a4 (a2 - (1 : Int))).2.1)), (Vb ((el a4 (a2 - (1 : Int))).2.2))] i0 krf krf krf krf (by decide) (wl (abq (by exact trivial) (rt 14 (Vp (some (ea a0 (a2.toNat * 3)))) rfl rfl (abc rfl (by intro w hS_; exact (alg a0 a4.length a6 46 3 .i64 a2 Tryz.underlying22 krf krf krf (afn (l := a4) rfl f6) i3))) (ro 15 rfl (alh d8 0 a7 a0 a6 46 3 a2 a4 ((el a4 (a2 - (1 : Int))).1, (el a4 (a2 - (1 : Int))).2.1, ((el a4 (a2 - (1 : Int))).2.2)) rfl aab [(str ((el a4 (a2 - (1 : Int))).1)), (str ((el a4 (a2 - (1 : Int))).2.1)), (Vb ((el a4 (a2 - (1 : Int))).2.2))] i4 krf krf krf (by decide) krf fun f7 c6 => ?_)))))))))
  replace c6 : Hp w (abf [rwt aaa 46 3 a7 a0 a6 a5]) [rwt aaa 46 3 a7 a0 a6 (zak a4 (zad a2) ((el a4 (a2 - (1 : Int))).1, (el a4 (a2 - (1 : Int))).2.1, ((el a4 (a2 - (1 : Int))).2.2)))] f7 := c6
  refine wl (abq (by exact trivial) (adi krf (gi b1 fun p1 b1 => ahu a0 a4.length a6 46 3 .i64 (a2 - (1 : Int)) Tryz.underlying22 krf krf krf (zak a4 (zad a2) ((el a4 (a2 - (1 : Int))).1, (el a4 (a2 - (1 : Int))).2.1, ((el a4 (a2 - (1 : Int))).2.2))) (by first | rfl | (simp; done) | omega | (simp; omega) | (rw [zah]; omega)) p1 (c6.rdrw 0 rfl) aab (by decide) (gi b1 fun p2 b1 => alh c6 0 a7 a0 a6 46 3 (a2 - (1 : Int)) (zak a4 (zad a2) ((el a4 (a2 - (1 : Int))).1, (el a4 (a2 - (1 : Int))).2.1, ((el a4 (a2 - (1 : Int))).2.2))) ((el a4 a2).1, (el a4 a2).2.1, ((el a4 a2).2.2)) rfl aab [(str ((el a4 a2).1)), (str ((el a4 a2).2.1)), (Vb ((el a4 a2).2.2))] p2 krf krf krf (by decide) krf fun p3 f9 => ?_))))
  replace f9 : Hp w (abf [rwt aaa 46 3 a7 a0 a6 a5]) [rwt aaa 46 3 a7 a0 a6 (zak (zak a4 (zad a2) ((el a4 (a2 - (1 : Int))).1, (el a4 (a2 - (1 : Int))).2.1, ((el a4 (a2 - (1 : Int))).2.2))) (zad (a2 - (1 : Int))) ((el a4 a2).1, (el a4 a2).2.1, ((el a4 a2).2.2)))] p3 := f9
  refine wl (bn (qn (cr (wp 1 (gi b1 fun p4 b1 => adg a2 (1 : Int) krf krf p4 (wp 1 (wl (ql ?_))))))))
  exact ⟨(d1, zak (zak a4 (zad a2) ((el a4 (a2 - (1 : Int))).1, (el a4 (a2 - (1 : Int))).2.1, ((el a4 (a2 - (1 : Int))).2.2))) (zad (a2 - (1 : Int))) ((el a4 a2).1, (el a4 a2).2.1, ((el a4 a2).2.2)), a2 - (1 : Int)), _, rfl, (mc (Eq.trans (b := (Vs a0 a4.length a6)) krf (aaj lsy)) (mc krf (mc krf (mc krf (mc krf (mc krf (mc krf rfl))))))), ⟨f9.kp, lsz, b1⟩, zac _⟩
  refine ace (acd (acq (acf (ql ?_))))
  obtain rfl := oi b1
  exact ⟨a4, _, rfl, by kernel_rfl, e2.kp, lsz, rfl⟩
  rintro d7 v4 G ⟨p5, v5, rfl⟩
  refine ct (adl ?_)
  obtain rfl := oi c4
  obtain rfl := oi hr
  refine r_none  rfl  ?_
  exact ⟨(by first | rfl | (simp; done) | (simp; omega)), lsz, p5.kp⟩
  refine ck (ql ?_)
  obtain rfl := oi c4
  exact je1 rfl e9.kp
  rintro m7 v6 G g0 rfl
  refine sr (wp 2 (gi hr fun p6 hr => aah a8 b2 krf krf p6 (anw .u64 .i64 (a8 + b2) Tryz.underlying3 Tryz.underlying172 krf (w_shr .u64 .u64 (zab .u64 (a8 + b2)) (1 : Int) 2 krf krf (by decide) (by decide) (by decide) (anw .i64 .u64 ((zab .u64 (a8 + b2)) / 2) Tryz.underlying172 Tryz.underlying3 krf (wp 1 (wl ?_)))))))
  refine qn (sr (wp 2 (gi hr fun p7 hr => aah (zab .i64 ((zab .u64 (a8 + b2)) / 2)) a9 krf krf p7 (wp 1 (nq (cs ?_))))))
  refine cr (wp 2 (nq (bi hr fun f0 d2 hr => agq g0 [0, 1, 2, 3, 4, 18, 19, 20, 21] [(20, (Vi .i64 f0.1)), (21, (Vi .i64 f0.2))] ?_ ?_)))
  refine sr (wp 3 (nq (cd d2 (fun p8 d2 => ?_) (fun p8 d2 => ?_))))
  refine sr (wp 2 (gi d2 fun p9 d2 => adg ((zab .i64 ((zab .u64 (a8 + b2)) / 2)) + a9) b2 krf krf p9 (wp 1 (nq (cr (wp 2 ?_))))))
  refine wl (ql ?_)
  obtain rfl := oi d2
  exact je g0.kp
  refine sr (wp 2 (nq (cr (wp 2 (wl (ql ?_))))))
  obtain rfl := oi d2
  exact je g0.kp
  intro v7 G i5
  refine sr (wp 1 (gi hr fun q0 hr => adg ((zab .i64 ((zab .u64 (a8 + b2)) / 2)) + a9) (1 : Int) krf krf q0 (wp 1 (nq (bi hr fun d9 q1 hr => agq i5 [0, 1, 2, 3, 4, 18, 19, 20] [(20, (Vi .i64 d9))] ?_ ?_)))))
  refine ce (lpS (fun i6 ⟨b3, b4⟩ => aan fu a5 a8 a9 b2 i6 b3 b4) (f0.1, f0.2) i5 q1 [0, 1, 2, 3, 4, 18, 19, 20, 21, 22] (fun ⟨b3, b4⟩ => [(20, (Vi .i64 b3)), (21, (Vi .i64 b4))]) (fun _ => rfl) ?_)
  rintro i6 ⟨b3, b4⟩ v8 G i7 b5
  dsimp only at b5
  rw [aan.eq_2] at b5
  refine cs (sr (wp 3 (nq (cd b5 (fun q2 b5 => ?_) (fun q2 b5 => ?_)))))
  refine ck (qn (ce (sr (wp 2 (gi b5 fun q3 b5 => aah b3 b4 krf krf q3 (anw .u64 .i64 (b3 + b4) Tryz.underlying3 Tryz.underlying172 krf (w_shr .u64 .u64 (zab .u64 (b3 + b4)) (1 : Int) 2 krf krf (by decide) (by decide) (by decide) ?_)))))))
  refine anw .i64 .u64 ((zab .u64 (b3 + b4)) / 2) Tryz.underlying172 Tryz.underlying3 krf (wp 1 (nq (cs (gi b5 fun q4 b5 => gi b5 fun q5 b5 => gi b5 fun q6 b5 => gi b5 fun q7 b5 => gi b5 fun q8 b5 => ?_))))
  refine adu 11 (fun j_ w_ w_' => aax [6, 11, 12, 13] (fun w' => Rd w' a0 (zai aaa a5)) j_ w_ w_' ∧ aax [11, 12, 13] (fun w' => Rd w' a0 (zai aaa a5)) j_ w_ w_' ∧ aax [10, 11, 12, 13] (fun w' => Rd w' a0 (zai aaa a5)) j_ w_ w_' ∧ True) [false, false, false, false, false, false, false, false, false, false, false, false, false, false] (fun _ _ => ⟨aax.same, aax.same, aax.same, trivial⟩) krf krf i7 rfl (acz (aas (aaq (aas (aaq acy))))) fun v9 e0 => rp 7 [0, 1, 2, 3] (rt 4 (Vi .i64 ((((zab .i64 ((zab .u64 (a8 + b2)) / 2)) + a9) - (1 : Int)) - (zab .i64 ((zab .u64 (b3 + b4)) / 2)))) rfl rfl (abc rfl (by intro w hS_; exact (amc (((zab .i64 ((zab .u64 (a8 + b2)) / 2)) + a9) - (1 : Int)) (zab .i64 ((zab .u64 (b3 + b4)) / 2)) krf krf q4))) (aak [true, true, true, true, true, true, false, false, false, false, false, false, false, false] 5 163 (Vp (some (ea a0 (((((zab .i64 ((zab .u64 (a8 + b2)) / 2)) + a9) - (1 : Int)) - (zab .i64 ((zab .u64 (b3 + b4)) / 2))).toNat * 3)))) [6, 11, 12, 13] (fun _ _ _ h => h.1) _ rfl rfl krf krf krf krf krf rfl (abc rfl (by intro w hS_; exact (apd a0 a5.length a6 46 3 .i64 ((((zab .i64 ((zab .u64 (a8 + b2)) / 2)) + a9) - (1 : Int)) - (zab .i64 ((zab .u64 (b3 + b4)) / 2))) Tryz.underlying22 krf krf krf a5 rfl q5 hS_ aab (by decide)))) (by exact (e0.rdrw 0 rfl)) (aak [true, true, true, true, true, true, true, false, false, false, false, false, false, false] 6 164 (zam #[(str ((el a5 ((((zab .i64 ((zab .u64 (a8 + b2)) / 2)) + a9) - (1 : Int)) - (zab .i64 ((zab .u64 (b3 + b4)) / 2)))).1)), (str ((el a5 ((((zab .i64 ((zab .u64 (a8 + b2)) / 2)) + a9) - (1 : Int)) - (zab .i64 ((zab .u64 (b3 + b4)) / 2)))).2.1)), (Vb ((el a5 ((((zab .i64 ((zab .u64 (a8 + b2)) / 2)) + a9) - (1 : Int)) - (zab .i64 ((zab .u64 (b3 + b4)) / 2)))).2.2))]) [11, 12, 13] (fun _ _ _ h => h.2.1) _ rfl rfl krf krf krf krf krf rfl (abc rfl (by intro w hS_; exact (apw a0 aaa a5 3 ((((zab .i64 ((zab .u64 (a8 + b2)) / 2)) + a9) - (1 : Int)) - (zab .i64 ((zab .u64 (b3 + b4)) / 2))) aab hS_ [(str ((el a5 ((((zab .i64 ((zab .u64 (a8 + b2)) / 2)) + a9) - (1 : Int)) - (zab .i64 ((zab .u64 (b3 + b4)) / 2)))).1)), (str ((el a5 ((((zab .i64 ((zab .u64 (a8 + b2)) / 2)) + a9) - (1 : Int)) - (zab .i64 ((zab .u64 (b3 + b4)) / 2)))).2.1)), (Vb ((el a5 ((((zab .i64 ((zab .u64 (a8 + b2)) / 2)) + a9) - (1 : Int)) - (zab .i64 ((zab .u64 (b3 + b4)) / 2)))).2.2))] q6 krf krf krf krf (by decide)))) (by exact (e0.rdrw 0 rfl)) (rp 2 [7, 8] (aak [true, true, true, true, true, true, true, true, true, true, false, false, false, false] 9 167 (Vp (some (ea a0 ((zab .i64 ((zab .u64 (b3 + b4)) / 2)).toNat * 3)))) [10, 11, 12, 13] (fun _ _ _ h => h.2.2.1) _ rfl rfl krf krf krf krf krf rfl (abc rfl (by intro w hS_; exact (apd a0 a5.length a6 46 3 .i64 (zab .i64 ((zab .u64 (b3 + b4)) / 2)) Tryz.underlying22 krf krf krf a5 rfl q7 hS_ aab (by decide)))) (by exact (e0.rdrw 0 rfl)) (aak [true, true, true, true, true, true, true, true, true, true, true, false, false, false] 10 168 (zam #[(str ((el a5 (zab .i64 ((zab .u64 (b3 + b4)) / 2))).1)), (str ((el a5 (zab .i64 ((zab .u64 (b3 + b4)) / 2))).2.1)), (Vb ((el a5 (zab .i64 ((zab .u64 (b3 + b4)) / 2))).2.2))]) [11, 12, 13] (fun _ _ _ h => h.2.1) _ rfl rfl krf krf krf krf krf rfl (abc rfl (by intro w hS_; exact (apw a0 aaa a5 3 (zab .i64 ((zab .u64 (b3 + b4)) / 2)) aab hS_ [(str ((el a5 (zab .i64 ((zab .u64 (b3 + b4)) / 2))).1)), (str ((el a5 (zab .i64 ((zab .u64 (b3 + b4)) / 2))).2.1)), (Vb ((el a5 (zab .i64 ((zab .u64 (b3 + b4)) / 2))).2.2))] q8 krf krf krf krf (by decide)))) (by exact (e0.rdrw 0 rfl)) (adi krf (bi b5 fun w0 q9 b5 => ?_))))))))
  refine wc ent130 e0 (ajw q9 (hG.hp e0 hS)) fun w1 i9 => wp 2 (nq (cn b5 (fun r0 b5 => ?_) (fun r0 b5 => ?_)))
  exact cr (wp 1 (gi b5 fun r1 b5 => aah (zab .i64 ((zab .u64 (b3 + b4)) / 2)) (1 : Int) krf krf r1 (wp 1 (wl (bn (ql (le' ((zab .i64 ((zab .u64 (b3 + b4)) / 2)) + (1 : Int), b4) i9.kp b5)))))))
  exact cr (wp 2 (wl (bn (ql (le' (b3, zab .i64 ((zab .u64 (b3 + b4)) / 2)) i9.kp b5)))))
  refine ace (acd (acq (acf (ql ?_))))
  obtain rfl := oi b5
  exact je i7.kp
  intro w2 G g1
  refine sr (wp 2 (gi hr fun r2 hr => adg ((zab .i64 ((zab .u64 (a8 + b2)) / 2)) + a9) d9 krf krf r2 (wp 1 (nq (bi hr fun r3 c7 hr => cut (σ := (List (Str × Str × Bool))) [0, 1, 3, 4, 18, 20, 24] (fun c2 => [(0, (Vs a0 c2.length a6))]) (fun c2 w' => Hp w (abf [rwt aaa 46 3 a7 a0 a6 a5]) [rwt aaa 46 3 a7 a0 a6 c2] w' ∧ c2.length = a5.length ∧ c2 = r3) ?_ ?_)))))
  refine bi c7 fun r4 e3 c7 => agq g1 [0, 1, 2, 3, 4, 18, 20, 24, 185] [(185, (Vb r4))] ?_ ?_
  refine cr (wp 3 (wd e3 (fun r5 e3 => ?_) (fun r5 e3 => ?_)))
  refine wp 4 (wl (ql ?_))
  obtain rfl := oi e3
  exact je g1.kp
  refine wp 4 (wl (ql ?_))
  obtain rfl := oi e3
  exact je g1.kp
  intro w3 G e4
  refine cb c7 (fun r6 c7 => ?_) (fun r6 c7 => ?_)
  refine cr (wp 5 (bi c7 fun j0 r7 c7 => aat 262 #[] [(Vs a0 a5.length a6), (Vi .i64 d9), (Vi .i64 a9), (Vi .i64 (((zab .i64 ((zab .u64 (a8 + b2)) / 2)) + a9) - d9)), (zan (.func 130) #[] #[])] _ ent262 krf krf (aiu a7 a0 a6 r7 (hG.hp e4 hS) (e4.hand (L1 := [rwt aaa 46 3 a7 a0 a6 a5]) (L2 := [])) (e4.highs hG hS 1 rfl)) ?_))
  rintro _ r8 ⟨rfl, w4, j1⟩
  have r9 : Hp w (abf [rwt aaa 46 3 a7 a0 a6 a5]) [rwt aaa 46 3 a7 a0 a6 j0] r8 := Hp.callK (L1 := [rwt aaa 46 3 a7 a0 a6 a5]) (L2 := []) e4 j1; clear j1
  refine wl (ql ?_)
  obtain rfl := oi c7
  exact ⟨j0, _, rfl, (mc (Eq.trans (b := (Vs a0 a5.length a6)) krf (aaj lsy)) (mc krf (mc krf (mc krf (mc krf (mc krf (mc krf rfl))))))), r9.kp, lsz, rfl⟩
  refine ck (ql ?_)
  obtain rfl := oi c7
  exact ⟨a5, _, rfl, by kernel_rfl, e4.kp, lsz, rfl⟩
  rintro c2 w5 G ⟨g2, w6, rfl⟩
  refine bi hr fun s0 c8 hr => cut (σ := (List (Str × Str × Bool))) [0, 3, 4, 18, 24] (fun c9 => [(0, (Vs a0 c9.length a6))]) (fun c9 w' => Hp w (abf [rwt aaa 46 3 a7 a0 a6 a5]) [rwt aaa 46 3 a7 a0 a6 c9] w' ∧ c9.length = c2.length ∧ c9 = s0) ?_ ?_
  refine bi c8 fun s1 e5 c8 => agq g2 [0, 1, 3, 4, 18, 20, 24, 199] [(199, (Vb s1))] ?_ ?_
  refine cr (wp 3 (wd e5 (fun s2 e5 => ?_) (fun s2 e5 => ?_)))
  refine wp 4 (wl (ql ?_))
  obtain rfl := oi e5
  exact je g2.kp
  refine wp 4 (wl (ql ?_))
  obtain rfl := oi e5
  exact je g2.kp
  intro w7 G e6
  refine cb c8 (fun s3 c8 => ?_) (fun s3 c8 => ?_)
  refine cr (wp 5 (bi c8 fun j2 s4 c8 => aat 242 #[] [(Vs a0 c2.length a6), (Vi .i64 a8), (Vi .i64 d9), (Vi .i64 (zab .i64 ((zab .u64 (a8 + b2)) / 2))), (zan (.func 130) #[] #[])] _ ent242 krf krf (ih a7 a0 a6 s4 (hG.hp e6 hS) (e6.hand (L1 := [rwt aaa 46 3 a7 a0 a6 c2]) (L2 := [])) (e6.highs hG hS 1 rfl)) ?_))
  rintro _ s5 ⟨rfl, w8, j3⟩
  have s6 : Hp w (abf [rwt aaa 46 3 a7 a0 a6 a5]) [rwt aaa 46 3 a7 a0 a6 j2] s5 := Hp.callK (L1 := [rwt aaa 46 3 a7 a0 a6 c2]) (L2 := []) e6 j3; clear j3
  refine wl (ql ?_)
  obtain rfl := oi c8
  exact ⟨j2, _, rfl, (mc (Eq.trans (b := (Vs a0 c2.length a6)) krf (aaj lsy)) (mc krf (mc krf (mc krf (mc krf rfl))))), s6.kp, lsz, rfl⟩
  refine ck (ql ?_)
  obtain rfl := oi c8
  exact ⟨c2, _, rfl, by kernel_rfl, e6.kp, lsz, rfl⟩
  rintro c9 w9 G ⟨g3, x0, rfl⟩
  refine bi hr fun s7 e7 hr => agq g3 [0, 3, 4, 18, 24, 213] [(213, (Vb s7))] ?_ ?_
  refine cr (wp 3 (wd e7 (fun s8 e7 => ?_) (fun s8 e7 => ?_)))
  refine wp 4 (wl (ql ?_))
  obtain rfl := oi e7
  exact je g3.kp
  refine wp 4 (wl (ql ?_))
  obtain rfl := oi e7
  exact je g3.kp
  intro x2 G e8
  refine cb hr (fun s9 hr => ?_) (fun s9 hr => ?_)
  refine cr (wp 5 (bi hr fun t0 t1 hr => aat 242 #[] [(Vs a0 c9.length a6), (Vi .i64 (zab .i64 ((zab .u64 (a8 + b2)) / 2))), (Vi .i64 (((zab .i64 ((zab .u64 (a8 + b2)) / 2)) + a9) - d9)), (Vi .i64 b2), (zan (.func 130) #[] #[])] _ ent242 krf krf (ih a7 a0 a6 t1 (hG.hp e8 hS) (e8.hand (L1 := [rwt aaa 46 3 a7 a0 a6 c9]) (L2 := [])) (e8.highs hG hS 1 rfl)) ?_))
  rintro _ t2 ⟨rfl, x3, j4⟩
  have t3 : Hp w (abf [rwt aaa 46 3 a7 a0 a6 a5]) [rwt aaa 46 3 a7 a0 a6 t0] t2 := Hp.callK (L1 := [rwt aaa 46 3 a7 a0 a6 c9]) (L2 := []) e8 j4; clear j4
  refine wl ?_
  obtain rfl := oi hr
  refine ajb  rfl  ?_
  exact ⟨(by first | rfl | (simp; done) | (simp; omega)), lsz, t3.kp⟩
  refine ck ?_
  obtain rfl := oi hr
  refine ajb  rfl  ?_
  exact ⟨(by first | rfl | (simp; done) | (simp; omega)), lsz, e8.kp⟩
theorem ait {fu : Nat} {a4 : List (Str × Str × Bool)} {b6 : Int} (a2 : Option Nat) (a0 : Option Addr) (a1 : Nat) {w : World} {r : List (Str × Str × Bool)} (hr : acg fu a4 b6 = some r) (hG : Gl w) (hM : Hp w (abf [rwt aaa 46 3 a2 a0 a1 a4]) [rwt aaa 46 3 a2 a0 a1 a4] w) (hS : ∀ b ∈ abf [rwt aaa 46 3 a2 a0 a1 a4], 9 ≤ b) : CR Tryz.prog 209 [(Vs a0 a4.length a1), (Vi .i64 b6), (zan (.func 130) #[] #[])] w fun v w' => v = (zal #[]) ∧ r.length = a4.length ∧ Hp w (abf [rwt aaa 46 3 a2 a0 a1 a4]) [rwt aaa 46 3 a2 a0 a1 r] w' := by
  have hH : Hp w (abf [rwt aaa 46 3 a2 a0 a1 a4]) [rwt aaa 46 3 a2 a0 a1 a4] w := hM
  refine enter (k := 63) Tryz.func209 rfl rfl nbe ?_
  unfold acg at hr
  refine sr (wp 1 (nq (sr (wp 3 (nq ?_)))))
  refine bi hr fun c6 d6 hr => cut (σ := ((List (Str × Str × Bool)) × Int)) [0, 1, 2, 6, 7] (fun a8 => [(0, (Vs a0 a8.1.length a1)), (7, (Vi .i64 a8.2))]) (fun a8 w' => Hp w (abf [rwt aaa 46 3 a2 a0 a1 a4]) [rwt aaa 46 3 a2 a0 a1 a8.1] w' ∧ a8.1.length = a4.length ∧ a8 = c6) ?_ ?_
  refine ce (lpG (σ := Nat × (List (Str × Str × Bool)) × Int × Int) [0, 1, 2, 6, 7, 8] (fun ⟨b9, a9, b7, b3⟩ => [(0, (Vs a0 a9.length a1)), (7, (Vi .i64 b7)), (8, (Vi .i64 b3))]) (fun ⟨b9, a9, b7, b3⟩ w' => Hp w (abf [rwt aaa 46 3 a2 a0 a1 a4]) [rwt aaa 46 3 a2 a0 a1 a9] w' ∧ a9.length = a4.length ∧ aai fu b6 b9 a9 b7 b3 = some c6) (fun ⟨b9, a9, b7, b3⟩ => b9) (fu, a4, (0 : Int), (20 : Int)) (by exact ⟨hH.kp, lsz, d6⟩) ?_)
  rintro ⟨_ | b9, a9, b7, b3⟩ g2 G ⟨c1, g3, b1⟩
  · exact nzz b1
  rw [aai.eq_2] at b1
  refine cs (sr (wp 3 (nq (cd b1 (fun d7 b1 => ?_) (fun d7 b1 => ?_)))))
  refine ck (qn (ce (sr (wp 4 (bi b1 fun c7 d8 b1 => aat 241 #[] [(Vs a0 a9.length a1), (Vi .i64 b7), (Vi .i64 b3), (zan (.func 130) #[] #[])] _ ent241 krf krf (aet a2 a0 a1 d8 (hG.hp c1 hS) (c1.hand (L1 := [rwt aaa 46 3 a2 a0 a1 a9]) (L2 := [])) (c1.highs hG hS 1 rfl)) ?_)))))
  rintro _ d9 ⟨rfl, g4, c8⟩
  have e0 : Hp w (abf [rwt aaa 46 3 a2 a0 a1 a4]) [rwt aaa 46 3 a2 a0 a1 c7] d9 := Hp.callK (L1 := [rwt aaa 46 3 a2 a0 a1 a9]) (L2 := []) c1 c8; clear c8
  refine nq (sr (wp 2 (nq (cr (wp 2 (gi b1 fun e1 b1 => ?_))))))
  refine aah b3 (20 : Int) krf krf e1 (wp 1 (wl (bn (ql ?_))))
  exact ⟨(b9, c7, b3, b3 + (20 : Int)), _, rfl, (mc (Eq.trans (b := (Vs a0 a9.length a1)) krf (aaj lsy)) (mc krf (mc krf (mc krf (mc krf (mc krf rfl)))))), ⟨e0.kp, lsz, b1⟩, zac _⟩
  refine ace (acd (acq (acf (ql ?_))))
  obtain rfl := oi b1
  exact ⟨(a9, b7), _, rfl, by kernel_rfl, c1.kp, lsz, rfl⟩
  rintro a8 g5 G ⟨c4, g6, rfl⟩
  refine sr (wp 4 (bi hr fun c5 e2 hr => aat 241 #[] [(Vs a0 a8.1.length a1), (Vi .i64 a8.2), (Vi .i64 b6), (zan (.func 130) #[] #[])] _ ent241 krf krf (aet a2 a0 a1 e2 (hG.hp c4 hS) (c4.hand (L1 := [rwt aaa 46 3 a2 a0 a1 a8.1]) (L2 := [])) (c4.highs hG hS 1 rfl)) ?_))
  rintro _ e3 ⟨rfl, g7, c9⟩
  have e4 : Hp w (abf [rwt aaa 46 3 a2 a0 a1 a4]) [rwt aaa 46 3 a2 a0 a1 c5] e3 := Hp.callK (L1 := [rwt aaa 46 3 a2 a0 a1 a8.1]) (L2 := []) c4 c9; clear c9
  refine nq (ce (lpG (σ := Nat × (List (Str × Str × Bool)) × Int) [0, 1, 2, 6] (fun ⟨b8, b2, a5⟩ => [(0, (Vs a0 b2.length a1)), (6, (Vi .i64 a5))]) (fun ⟨b8, b2, a5⟩ w' => Hp w (abf [rwt aaa 46 3 a2 a0 a1 a4]) [rwt aaa 46 3 a2 a0 a1 b2] w' ∧ b2.length = c5.length ∧ aae fu b6 b8 b2 a5 = some r) (fun ⟨b8, b2, a5⟩ => b8) (fu, c5, (20 : Int)) (by exact ⟨e4.kp, lsz, hr⟩) ?_ (mc (Eq.trans (b := (Vs a0 a8.1.length a1)) krf (aaj lsy)) (mc krf (mc krf (mc krf rfl))))))
  rintro ⟨_ | b8, b2, a5⟩ g8 G ⟨d0, g9, a3⟩
  · exact nzz a3
  rw [aae.eq_2] at a3
  refine cs (sr (wp 3 (nq (cd a3 (fun e5 a3 => ?_) (fun e5 a3 => ?_)))))
  refine ck (qn (ce (sr (wp 1 (gi a3 fun e6 a3 => aoh (2 : Int) a5 krf krf e6 (wp 2 (wl ?_)))))))
  refine qn (bi a3 fun d1 e7 a3 => cut (σ := ((List (Str × Str × Bool)) × Int)) [0, 1, 2, 6, 7] (fun a6 => [(0, (Vs a0 a6.1.length a1)), (7, (Vi .i64 a6.2))]) (fun a6 w' => Hp w (abf [rwt aaa 46 3 a2 a0 a1 a4]) [rwt aaa 46 3 a2 a0 a1 a6.1] w' ∧ a6.1.length = b2.length ∧ a6 = d1) ?_ ?_)
  refine ce (lpG (σ := Nat × (List (Str × Str × Bool)) × Int × Int) [0, 1, 2, 6, 7, 8] (fun ⟨c0, b0, b4, b5⟩ => [(0, (Vs a0 b0.length a1)), (7, (Vi .i64 b4)), (8, (Vi .i64 b5))]) (fun ⟨c0, b0, b4, b5⟩ w' => Hp w (abf [rwt aaa 46 3 a2 a0 a1 a4]) [rwt aaa 46 3 a2 a0 a1 b0] w' ∧ b0.length = b2.length ∧ aar fu b6 a5 c0 b0 b4 b5 = some d1) (fun ⟨c0, b0, b4, b5⟩ => c0) (fu, b2, (0 : Int), (2 : Int) * a5) (by exact ⟨d0.kp, lsz, e7⟩) ?_)
  rintro ⟨_ | c0, b0, b4, b5⟩ h0 G ⟨c2, h1, a7⟩
  · exact nzz a7
  rw [aar.eq_2] at a7
  refine cs (sr (wp 3 (nq (cd a7 (fun e8 a7 => ?_) (fun e8 a7 => ?_)))))
  refine ck (qn (ce (sr (wp 4 (gi a7 fun e9 a7 => aah b4 a5 krf krf e9 (wp 2 (bi a7 fun d2 f0 a7 => ?_)))))))
  refine aat 242 #[] [(Vs a0 b0.length a1), (Vi .i64 b4), (Vi .i64 (b4 + a5)), (Vi .i64 b5), (zan (.func 130) #[] #[])] _ ent242 krf krf (afm a2 a0 a1 f0 (hG.hp c2 hS) (c2.hand (L1 := [rwt aaa 46 3 a2 a0 a1 b0]) (L2 := [])) (c2.highs hG hS 1 rfl)) ?_
  rintro _ f1 ⟨rfl, h2, d3⟩
  have f2 : Hp w (abf [rwt aaa 46 3 a2 a0 a1 a4]) [rwt aaa 46 3 a2 a0 a1 d2] f1 := Hp.callK (L1 := [rwt aaa 46 3 a2 a0 a1 b0]) (L2 := []) c2 d3; clear d3
  refine nq (sr (wp 2 (nq (cr (wp 2 (gi a7 fun f3 a7 => ?_))))))
  refine aoh (2 : Int) a5 krf krf f3 (gi a7 fun f4 a7 => aah b5 ((2 : Int) * a5) krf krf f4 (wp 1 (wl (bn (ql ?_)))))
  exact ⟨(c0, d2, b5, b5 + ((2 : Int) * a5)), _, rfl, (mc (Eq.trans (b := (Vs a0 b0.length a1)) krf (aaj lsy)) (mc krf (mc krf (mc krf (mc krf (mc krf rfl)))))), ⟨f2.kp, lsz, a7⟩, zac _⟩
  refine ace (acd (acq (acf (ql ?_))))
  obtain rfl := oi a7
  exact ⟨(b0, b4), _, rfl, by kernel_rfl, c2.kp, lsz, rfl⟩
  rintro a6 h3 G ⟨c3, h4, rfl⟩
  refine cs (sr (wp 2 (gi a3 fun f5 a3 => aah a6.2 a5 krf krf f5 (wp 1 (nq (cs ?_))))))
  refine cr (wp 3 (nq (cd a3 (fun f6 a3 => ?_) (fun f6 a3 => ?_))))
  refine cr (wp 5 (bi a3 fun d4 f7 a3 => aat 242 #[] [(Vs a0 a6.1.length a1), (Vi .i64 a6.2), (Vi .i64 (a6.2 + a5)), (Vi .i64 b6), (zan (.func 130) #[] #[])] _ ent242 krf krf (afm a2 a0 a1 f7 (hG.hp c3 hS) (c3.hand (L1 := [rwt aaa 46 3 a2 a0 a1 a6.1]) (L2 := [])) (c3.highs hG hS 1 rfl)) ?_))
  rintro _ f8 ⟨rfl, h5, d5⟩
  have f9 : Hp w (abf [rwt aaa 46 3 a2 a0 a1 a4]) [rwt aaa 46 3 a2 a0 a1 d4] f8 := Hp.callK (L1 := [rwt aaa 46 3 a2 a0 a1 a6.1]) (L2 := []) c3 d5; clear d5
  refine nq (cr (wp 1 (gi a3 fun g0 a3 => aoh a5 (2 : Int) krf krf g0 (wp 1 (wl (bn (ql ?_)))))))
  exact ⟨(b8, d4, a5 * (2 : Int)), _, rfl, (mc (Eq.trans (b := (Vs a0 a6.1.length a1)) krf (aaj lsy)) (mc krf (mc krf (mc krf rfl)))), ⟨f9.kp, lsz, a3⟩, zac _⟩
  refine ck (qn (cr (wp 1 (gi a3 fun g1 a3 => aoh a5 (2 : Int) krf krf g1 (wp 1 (wl (bn (ql ?_))))))))
  exact ⟨(b8, a6.1, a5 * (2 : Int)), _, rfl, by kernel_rfl, ⟨c3.kp, lsz, a3⟩, zac _⟩
  refine ace (acd (acq (acf ?_)))
  obtain rfl := oi a3
  refine ajb  rfl  ?_
  exact ⟨(by first | rfl | (simp; done) | (simp; omega)), lsz, d0.kp⟩
theorem ais {fu : Nat} {a0 : List (Str × Str × Bool)} (a3 : Option Nat) (a1 : Option Addr) (a2 : Nat) {w : World} {r : List (Str × Str × Bool)} (hr : acb fu a0 = some r) (hG : Gl w) (hM : Hp w (abf [rwt aaa 46 3 a3 a1 a2 a0]) [rwt aaa 46 3 a3 a1 a2 a0] w) (hS : ∀ b ∈ abf [rwt aaa 46 3 a3 a1 a2 a0], 9 ≤ b) : CR Tryz.prog 163 [(Vs a1 a0.length a2), (zan (.func 130) #[] #[])] w fun v w' => v = (zal #[]) ∧ r.length = a0.length ∧ Hp w (abf [rwt aaa 46 3 a3 a1 a2 a0]) [rwt aaa 46 3 a3 a1 a2 r] w' := by
  have hH : Hp w (abf [rwt aaa 46 3 a3 a1 a2 a0]) [rwt aaa 46 3 a3 a1 a2 a0] w := hM
  refine enter (k := 9) Tryz.func163 rfl rfl nbe ?_
  unfold acb at hr
  refine cr (wp 4 (bi hr fun y1 a5 hr => aat 209 #[] [(Vs a1 a0.length a2), (Vi .i64 (a0.length : Int)), (zan (.func 130) #[] #[])] _ ent209 krf krf (ait a3 a1 a2 a5 (hG.hp hH hS) (hH.hand (L1 := [rwt aaa 46 3 a3 a1 a2 a0]) (L2 := [])) (hH.highs hG hS 1 rfl)) ?_))
  rintro _ w3 ⟨rfl, a7, a4⟩
  have a6 : Hp w (abf [rwt aaa 46 3 a3 a1 a2 a0]) [rwt aaa 46 3 a3 a1 a2 y1] w3 := Hp.callK (L1 := [rwt aaa 46 3 a3 a1 a2 a0]) (L2 := []) hH a4; clear a4
  refine wl ?_
  obtain rfl := oi hr
  refine ajb  rfl  ?_
  exact ⟨(by first | rfl | (simp; done) | (simp; omega)), lsz, a6.kp⟩
theorem ago {fu : Nat} {a1 : List (Str × Str × Bool)} (a2 : Nat) (a3 : Option Addr) (a6 : Nat) (a4 : Nat) {w : World} {r : List (Str × Str × Bool)} (hr : abb fu a1 = some r) (hG : Gl w) (b2 : a6 = a1.length) (a8 : Rd w a3 (zai aaa a1)) (b3 : a6 ≤ a4) (hM : Hp w (abf [blk a2 [(Vs a3 a1.length a4)] 22]) [blk a2 [(Vs a3 a1.length a4)] 22] w) (hS : ∀ b ∈ abf [blk a2 [(Vs a3 a1.length a4)] 22], 9 ≤ b) (a9 : zai aaa a1 ≠ [] → ∀ p, a3 = some p → p.block ∉ abf [blk a2 [(Vs a3 a1.length a4)] 22]) : CR Tryz.prog 128 [(zan (.func 186) #[] #[(Vp (some ⟨a2, 0, none⟩))]), (zan (.func 130) #[] #[])] w fun v w' => ∃ (o0 : Option Nat), ∃ (a0 : Option Addr), ∃ (cap0 : Nat), v = (Vs a0 r.length cap0) ∧ Hp w (abf [blk a2 [(Vs a3 a1.length a4)] 22]) [blk a2 [(Vs a3 a1.length a4)] 22, rwt aaa 46 3 o0 a0 cap0 r] w' := by
  subst b2
  have hH : Hp w (abf [blk a2 [(Vs a3 a1.length a4)] 22]) [blk a2 [(Vs a3 a1.length a4)] 22] w := hM
  refine enter (k := 12) Tryz.func128 rfl rfl nbe ?_
  unfold abb at hr
  refine sr (wp 1 (nq (sr (wp 1 (bi hr fun y1 b4 hr => aat 185 #[] [(zan (.func 186) #[] #[(Vp (some ⟨a2, 0, none⟩))])] _ ent185 krf krf (alq a2 a3 a1.length a4 b4 (hG.hp hH hS) rfl (a8.hpN hH a9) b3 (hH.hand (L1 := [blk a2 [(Vs a3 a1.length a4)] 22]) (L2 := [])) (hH.highs hG hS 1 rfl) (hH.apartRd 1 a8 a9 rfl)) ?_)))))
  rintro _ w3 ⟨o6, a7, cap8, rfl, b0⟩
  have b5 : Hp w (abf [blk a2 [(Vs a3 a1.length a4)] 22]) [blk a2 [(Vs a3 a1.length a4)] 22, rwt aaa 46 3 o6 a7 cap8 y1] w3 := Hp.callK (L1 := [blk a2 [(Vs a3 a1.length a4)] 22]) (L2 := []) hH b0; clear b0
  refine wp 1 (nq (sr (wp 2 (bi hr fun y9 b6 hr => ?_))))
  have a5 : Hp w (abf [blk a2 [(Vs a3 a1.length a4)] 22]) [rwt aaa 46 3 o6 a7 cap8 y1, blk a2 [(Vs a3 a1.length a4)] 22] w3 := b5.front 1 _ rfl
  refine aat 163 #[] [(Vs a7 y1.length cap8), (zan (.func 130) #[] #[])] _ ent163 krf krf (ais o6 a7 cap8 b6 (hG.hp a5 hS) (a5.hand (L1 := [rwt aaa 46 3 o6 a7 cap8 y1]) (L2 := [blk a2 [(Vs a3 a1.length a4)] 22])) (a5.highs hG hS 1 rfl)) ?_
  rintro _ b7 ⟨rfl, b9, b1⟩
  have b8 : Hp w (abf [blk a2 [(Vs a3 a1.length a4)] 22]) [rwt aaa 46 3 o6 a7 cap8 y9, blk a2 [(Vs a3 a1.length a4)] 22] b7 := Hp.callK (L1 := [rwt aaa 46 3 o6 a7 cap8 y1]) (L2 := [blk a2 [(Vs a3 a1.length a4)] 22]) a5 b1; clear b1
  refine nq (sr (wp 2 (nq (ct ?_))))
  obtain rfl := oi hr
  refine r_one (Vs a7 y1.length cap8) rfl krf ?_
  exact ⟨o6, a7, cap8, (by first | rfl | (simp; done) | (simp; omega)), (Hp.front b8 1 _ rfl).kp⟩
theorem K_L_header_sorted {fu : Nat} {a1 : List (Str × Str × Bool)} (a2 : Option Addr) (a5 : Nat) (a3 : Nat) {w : World} {r : List (Str × Str × Bool)} (hr : agw fu a1 = some r) (hG : Gl w) (b3 : a5 = a1.length) (a6 : Rd w a2 (zai aaa a1)) (a9 : a5 ≤ a3) : CR Tryz.prog 71 [(Vs a2 a5 a3)] w fun v w' => ∃ (o0 : Option Nat), ∃ (a0 : Option Addr), ∃ (cap0 : Nat), v = (Vs a0 r.length cap0) ∧ Hp w [] [rwt aaa 46 3 o0 a0 cap0 r] w' := by
  subst b3
  have hH : Hp w [] [] w := Hp.refl w
  refine enter (k := 6) Tryz.func71 rfl rfl nbe ?_
  unfold agw at hr
  refine sr (wp 1 (nq (sr (wp 1 (bi hr fun y1 b4 hr => aat 129 #[] [(Vs a2 a1.length a3)] _ ent129 krf krf (aqo a2 a1.length a3 b4 (hG.hp0 hH) rfl (a6.hp hH) a9) ?_)))))
  rintro _ w3 ⟨b6, rfl, b0⟩
  have a4 : Hp w [] [blk b6 [(Vs a2 a1.length a3)] 22] w3 := Hp.callK (L1 := []) (L2 := []) hH b0; clear b0
  refine bi hr fun y7 b5 hr => aat 128 #[] [(zan (.func 186) #[] #[(Vp (some ⟨b6, 0, none⟩))]), (zan (.func 130) #[] #[])] _ ent128 krf krf (ago b6 a2 a1.length a3 b5 (hG.hp0 a4) rfl (a6.hp a4) a9 (a4.hand (L1 := [blk b6 [(Vs a2 a1.length a3)] 22]) (L2 := [])) (a4.highs hG (fun _ h => absurd h (by simp)) 1 rfl) (a4.apartRd 1 a6 (fun _ _ _ h => absurd h (by simp)) rfl)) ?_
  rintro _ w9 ⟨b1, a7, a8, rfl, b2⟩
  have b7 : Hp w [] [blk b6 [(Vs a2 a1.length a3)] 22, rwt aaa 46 3 b1 a7 a8 y7] w9 := Hp.callK (L1 := [blk b6 [(Vs a2 a1.length a3)] 22]) (L2 := []) a4 b2; clear b2
  refine wp 1 (nq (ct ?_))
  obtain rfl := oi hr
  refine r_one (Vs a7 y7.length a8) rfl krf ?_
  exact ⟨b1, a7, a8, (by first | rfl | (simp; done) | (simp; omega)), (Hp.front b7 1 _ rfl).kp⟩
end Go.Proofs
set_option linter.unusedVariables false
set_option linter.unusedSimpArgs false
set_option maxRecDepth 20000
set_option maxHeartbeats 1000000
namespace Go.Proofs
open Go.Wk Go.Px
open Go.Value renaming slice → Vs, int → Vi, bool → Vb, pointer → Vp
open Go.Value renaming agg → zam, tuple → zal
open Int renaming toNat → zad
open List renaming drop → zar, flatMap → zai, length_take → zah, take → zaz
open Nat renaming lt_succ_self → zac
theorem ent29 : Go.Wk.Enters Tryz.prog 29 := ⟨Tryz.f29, _, Tryz.func29, rfl, by kernel_rfl⟩
theorem ent71 : Go.Wk.Enters Tryz.prog 71 := ⟨Tryz.f71, _, Tryz.func71, rfl, by kernel_rfl⟩
theorem ent73 : Go.Wk.Enters Tryz.prog 73 := ⟨Tryz.f73, _, Tryz.func73, rfl, by kernel_rfl⟩
theorem ent74 : Go.Wk.Enters Tryz.prog 74 := ⟨Tryz.f74, _, Tryz.func74, rfl, by kernel_rfl⟩
theorem ent133 : Go.Wk.Enters Tryz.prog 133 := ⟨Tryz.f133, _, Tryz.func133, rfl, by kernel_rfl⟩
theorem ent134 : Go.Wk.Enters Tryz.prog 134 := ⟨Tryz.f134, _, Tryz.func134, rfl, by kernel_rfl⟩
theorem ent135 : Go.Wk.Enters Tryz.prog 135 := ⟨Tryz.f135, _, Tryz.func135, rfl, by kernel_rfl⟩
theorem K_L_header_PrintItem {fu : Nat} {a0 : (Str × (List (Str × Str × Bool)))} (a2 : Option Addr) (a7 : Nat) (a3 : Nat) {w : World} {r : (Str × UInt8)} (hr : aii fu a0 = some r) (hG : Gl w) (b8 : a7 = a0.2.length) (b9 : Rd w a2 (zai aaa a0.2)) (c0 : a7 ≤ a3) : CR Tryz.prog 22 [(zam #[(str a0.1), (Vs a2 a7 a3)])] w fun v w' => v = (zal #[(str r.1), (bt r.2)]) ∧ Hp w [] [] w' := by
  subst b8
  have hH : Hp w [] [] w := Hp.refl w
  refine enter (k := 40) Tryz.func22 rfl rfl nbe ?_
  unfold aii at hr
  refine sr (adx hH [(str a0.1), (Vs a2 a0.2.length a3)] 34 (fun b => (Vp (some ⟨b, 0, none⟩))) rfl rfl krf fun b1 w2 a8 => wp 2 (nq (sr (wp 1 (acr a8 0 b1 0 [(str a0.1), (Vs a2 a0.2.length a3)] 34 (str a0.1) rfl rfl krf krf ?_)))))
  refine gi hr fun g7 hr => aat 77 #[] [(str a0.1), (str ([47] : Str))] _ ent77 krf krf (sh_Cut a0.1 ([47] : Str) w2 g7 (hG.hp0 a8)) ?_
  rintro _ w4 ⟨rfl, b2⟩
  have a9 := a8.call b2; clear b2
  refine wp 7 (nq (cs (bi hr fun c1 a1 hr => agq a9 [1, 2, 3, 26] [(26, (Vb c1))] ?_ ?_)))
  refine cr (wp 1 (bi a1 fun d4 c2 a1 => wc ent69 a9 (agx c2 (hG.hp0 a9)) fun d5 a5 => wp 1 (wb a1 (fun c3 a1 => ?_) (fun c3 a1 => ?_))))
  refine wp 7 (wl (ql ?_))
  obtain rfl := oi a1
  exact je a5.kp
  refine wp 1 (gy 19 (wb a1 (fun c4 a1 => ?_) (fun c4 a1 => ?_)))
  refine wp 1 (gy 21 (bi a1 fun d6 c5 a1 => wc ent69 a5 (agx c5 (hG.hp0 a5)) fun d7 c6 => wp 3 (wl (ql ?_))))
  obtain rfl := oi a1
  exact je c6.kp
  refine wp 5 (wl (ql ?_))
  obtain rfl := oi a1
  exact je a5.kp
  intro d8 G a4
  refine cb hr (fun c7 hr => ?_) (fun c7 hr => ?_)
  refine sr (wp 2 (nq (ct (st ?_))))
  obtain rfl := oi hr
  exact rv a4.kp
  refine ck (qn (sr (wp 1 (acr a4 0 b1 1 [(str a0.1), (Vs a2 a0.2.length a3)] 34 (Vs a2 a0.2.length a3) rfl rfl krf krf (bi hr fun b3 c8 hr => aat 71 #[] [(Vs a2 a0.2.length a3)] _ ent71 krf krf (K_L_header_sorted a2 a0.2.length a3 c8 (hG.hp0 a4) rfl (b9.hp a4) c0) ?_)))))
  rintro _ c9 ⟨d0, b4, b5, rfl, b6⟩
  have a6 : Hp w [] [rwt aaa 46 3 d0 b4 b5 b3, blk b1 [(str a0.1), (Vs a2 a0.2.length a3)] 34] c9 := Hp.callK (L1 := []) (L2 := [blk b1 [(str a0.1), (Vs a2 a0.2.length a3)] 34]) a4 b6; clear b6
  refine bi hr fun b7 d1 hr => wc ent70 a6 (amr b4 b3.length b5 d1 (hG.hp0 a6) rfl (a6.rdrw 0 rfl) (a6.rwcap 0 rfl)) fun d9 b0 => wp 5 (nq (cs (sr (wp 1 (afs b7.2 (0 : UInt8) krf krf ?_)))))
  refine nq (cn hr (fun d2 hr => ?_) (fun d2 hr => ?_))
  refine sr (wp 2 (nq (ct (st ?_))))
  obtain rfl := oi hr
  exact rv b0.kp
  refine ck (qn (sr (wp 1 (acr b0 1 b1 0 [(str a0.1), (Vs a2 a0.2.length a3)] 34 (str a0.1) rfl rfl krf krf (wp 1 (gi hr fun d3 hr => aej a0.1 b7.1 krf krf d3 (wp 2 ?_)))))))
  refine nq (ct ?_)
  obtain rfl := oi hr
  exact rv b0.kp
theorem K_L_ref02_Sorted {fu : Nat} {a1 : List (Str × Str × Bool)} (b0 : Option Addr) (d1 : Nat) (c4 : Nat) {w : World} {r : List (Str × Str × Bool)} (hr : alo fu a1 = some r) (hG : Gl w) (e9 : d1 = a1.length) (c5 : Rd w b0 (zai aaa a1)) (h7 : d1 ≤ c4) : CR Tryz.prog 29 [(Vs b0 d1 c4)] w fun v w' => ∃ (o0 : Option Nat), ∃ (a0 : Option Addr), ∃ (cap0 : Nat), v = (Vs a0 r.length cap0) ∧ Hp w [] [rwt aaa 46 3 o0 a0 cap0 r] w' := by
  subst e9
  have hH : Hp w [] [] w := Hp.refl w
  refine enter (k := 51) Tryz.func29 rfl rfl nbe ?_
  unfold alo at hr
  refine sr (wp 1 (nq (sr (wp 1 (nq ?_)))))
  refine bi hr fun d5 f0 hr => cut (σ := (List (Str × Str × Bool)) × (Option Nat) × (Option Addr) × Nat) [2, 3] (fun ⟨b4, c6, b5, b6⟩ => [(3, (Vs b5 b4.length b6))]) (fun ⟨b4, c6, b5, b6⟩ w' => Hp w [] [rwt aaa 46 3 c6 b5 b6 b4] w' ∧ b4 = d5) ?_ ?_
  refine sr (wp 1 (nq (ce (lpG (σ := Nat × (List (Str × Str × Bool)) × Int × (Option Nat) × (Option Addr) × Nat) [0, 2, 3, 4] (fun ⟨b7, a3, a2, b3, a4, a6⟩ => [(3, (Vs a4 a3.length a6)), (4, (Vi .i64 a2))]) (fun ⟨b7, a3, a2, b3, a4, a6⟩ w' => Hp w [] [rwt aaa 46 3 b3 a4 a6 a3] w' ∧ afi fu a1 b7 a3 a2 = some d5) (fun ⟨b7, a3, a2, b3, a4, a6⟩ => b7) (fu, ([] : List (Str × Str × Bool)), (0 : Int), none, none, 0) (by exact ⟨(Hp.nilrw hH aaa 46 3 none).kp, f0⟩) ?_ (mc krf (mc krf (mc (Eq.trans (b := (Vs none 0 0)) krf (aaj lsy)) (mc krf rfl))))))))
  rintro ⟨_ | b7, a3, a2, b3, a4, a6⟩ h8 G ⟨d2, b1⟩
  · exact nzz b1
  rw [afi.eq_2] at b1
  refine cs (sr (wp 4 (nq (cd b1 (fun f1 b1 => ?_) (fun f1 b1 => ?_)))))
  refine ck (qn (bi b1 fun f2 a8 b1 => cut (σ := (List (Str × Str × Bool)) × (Option Nat) × (Option Addr) × Nat) [0, 2, 3, 4] (fun ⟨b8, c7, b9, c0⟩ => [(3, (Vs b9 b8.length c0))]) (fun ⟨b8, c7, b9, c0⟩ w' => Hp w [] [rwt aaa 46 3 c7 b9 c0 b8] w' ∧ b8 = f2) ?_ ?_))
  refine ce (sr (wp 3 (nq (bi a8 fun a5 f3 a8 => agq d2 [0, 2, 3, 4, 5] [(5, (Vi .i64 a5))] ?_ ?_))))
  refine ce (lpS (fun d6 a7 => agd fu a1 a3 a2 d6 a7) (a3.length : Int) d2 f3 [0, 2, 3, 4, 5] (fun a7 => [(5, (Vi .i64 a7))]) (fun _ => rfl) ?_)
  rintro d6 a7 h9 G d3 b2
  rw [agd.eq_2] at b2
  refine cs (bi b2 fun f4 a9 b2 => agq d3 [0, 2, 3, 4, 5, 30] [(30, (Vb f4))] ?_ ?_)
  by_cases c8 : (0 : Int) < a7
  replace a9 := ift c8 a9
  refine gi a9 fun f5 a9 => gi a9 fun f6 a9 => gi a9 fun f7 a9 => gi a9 fun f8 a9 => gi a9 fun f9 a9 => adu 14 (fun j_ w_ w_' => aax [7, 8, 14, 15] (fun w' => Rd w' a4 (zai aaa a3)) j_ w_ w_' ∧ aax [14, 15] (fun w' => Rd w' a4 (zai aaa a3)) j_ w_ w_' ∧ aax [12, 13, 14, 15] (fun w' => Rd w' b0 (zai aaa a1)) j_ w_ w_' ∧ aax [14, 15] (fun w' => Rd w' b0 (zai aaa a1)) j_ w_ w_' ∧ True) [false, false, false, false, false, false, false, false, false, false, false, false, false, false, false, false] (fun _ _ => ⟨aax.same, aax.same, aax.same, aax.same, trivial⟩) krf krf d3 rfl (aaq (acz (aaq (aas (aaq (aas (aaq (aaq (aas (aaq acy)))))))))) fun i0 c1 => rp 12 [0, 1] (rt 2 (Vb true) rfl rfl (abc rfl (by intro w hS_; exact Eq.trans (b := Result.ok (Next.value (.bool (decide ((0 : Int) < a7)))) w) krf (congrArg (fun b => Result.ok (Next.value (.bool b)) w) (decide_eq_true c8)))) (rp 9 [3, 4] (rt 5 (Vi .i64 (a7 - (1 : Int))) rfl rfl (ady 17 krf krf krf (by intro w hS_; exact (amc a7 (1 : Int) krf krf f5))) ?_)))
  refine aak [true, true, true, true, true, true, true, false, false, false, false, false, false, false, false, false] 6 21 (Vp (some (ea a4 ((a7 - (1 : Int)).toNat * 3)))) [7, 8, 14, 15] (fun _ _ _ h => h.1) _ rfl rfl krf krf krf krf krf rfl (ady 17 krf krf krf (by intro w hS_; exact (apd a4 a3.length a6 46 3 .i64 (a7 - (1 : Int)) Tryz.underlying22 krf krf krf a3 rfl f6 hS_ aab (by decide)))) (by exact (c1.rdrw 0 rfl)) (rt 7 (Vp (some (ea a4 ((a7 - (1 : Int)).toNat * 3 + 0)))) rfl rfl (ady 17 krf krf krf (by intro w hS_; exact (x_fldE a4 ((a7 - (1 : Int)).toNat * 3) 0 krf krf))) (aak [true, true, true, true, true, true, true, true, true, false, false, false, false, false, false, false] 8 23 (str ((el a3 (a7 - (1 : Int))).1)) [14, 15] (fun _ _ _ h => h.2.1) _ rfl rfl krf krf krf krf krf rfl (ady 17 krf krf krf (by intro w hS_; exact (x_ldF a4 aaa a3 3 (a7 - (1 : Int)) 0 aab hS_ (str ((el a3 (a7 - (1 : Int))).1)) f7 (by decide) krf krf krf))) (by exact (c1.rdrw 0 rfl)) (rp 3 [9, 10] (aak [true, true, true, true, true, true, true, true, true, true, true, true, false, false, false, false] 11 26 (Vp (some (ea b0 (a2.toNat * 3)))) [12, 13, 14, 15] (fun _ _ _ h => h.2.2.1) _ rfl rfl krf krf krf krf krf rfl (ady 17 krf krf krf (by intro w hS_; exact (apd b0 a1.length c4 46 3 .i64 a2 Tryz.underlying22 krf krf krf a1 rfl f8 hS_ aab (by decide)))) (by exact (c5.hp c1)) (rt 12 (Vp (some (ea b0 (a2.toNat * 3 + 0)))) rfl rfl (ady 17 krf krf krf (by intro w hS_; exact (x_fldE b0 ((a2).toNat * 3) 0 krf krf))) (aak [true, true, true, true, true, true, true, true, true, true, true, true, true, true, false, false] 13 28 (str ((el a1 a2).1)) [14, 15] (fun _ _ _ h => h.2.2.2.1) _ rfl rfl krf krf krf krf krf rfl (ady 17 krf krf krf (by intro w hS_; exact (x_ldF b0 aaa a1 3 a2 0 aab hS_ (str ((el a1 a2).1)) f9 (by decide) krf krf krf))) (by exact (c5.hp c1)) (adi krf (wp 2 (wl ?_)))))))))
  refine ql ?_
  obtain rfl := oi a9
  exact je c1.kp
  replace a9 := ifn c8 a9
  refine adu 14 (fun j_ w_ w_' => aax [7, 8, 14, 15] (fun w' => Rd w' a4 (zai aaa a3)) j_ w_ w_' ∧ aax [14, 15] (fun w' => Rd w' a4 (zai aaa a3)) j_ w_ w_' ∧ aax [12, 13, 14, 15] (fun w' => Rd w' b0 (zai aaa a1)) j_ w_ w_' ∧ aax [14, 15] (fun w' => Rd w' b0 (zai aaa a1)) j_ w_ w_' ∧ True) [false, false, false, false, false, false, false, false, false, false, false, false, false, false, false, false] (fun _ _ => ⟨aax.same, aax.same, aax.same, aax.same, trivial⟩) krf krf d3 rfl (aaq (acz (aaq (aas (aaq (aas (aaq (aaq (aas (aaq acy)))))))))) fun i1 g0 => rp 12 [0, 1] (rt 2 (Vb false) rfl rfl (abc rfl (by intro w hS_; exact Eq.trans (b := Result.ok (Next.value (.bool (decide ((0 : Int) < a7)))) w) krf (congrArg (fun b => Result.ok (Next.value (.bool b)) w) (decide_eq_false c8)))) (rp 0 [3, 4, 5, 6, 7, 8, 9, 10, 11, 12, 13] (adi krf (wp 2 (wl (ql ?_))))))
  obtain rfl := oi a9
  exact je g0.kp
  intro i2 G d7
  refine cb b2 (fun g1 b2 => ?_) (fun g1 b2 => ?_)
  refine ck (qn (ce (cr (wp 1 (gi b2 fun g2 b2 => adg a7 (1 : Int) krf krf g2 (wp 1 (wl (bn ?_))))))))
  exact ql (le' (a7 - (1 : Int)) d7.kp b2)
  refine ace (acd (acq (acf (ql ?_))))
  obtain rfl := oi b2
  exact je d7.kp
  intro g3 G d8
  refine sr (wp 1 (nq (sr (wp 3 (gi a8 fun g4 a8 => w_slTo a4 a3.length a6 46 3 .i64 a5 Tryz.underlying22 krf krf krf a3 rfl g4 (d8.rwcap 0 rfl) ?_)))))
  have c9 := d8.nilrw aaa 46 3 none
  replace c9 : Hp w [] [rwt aaa 46 3 none none 0 ([] : List (Str × Str × Bool)), rwt aaa 46 3 b3 a4 a6 a3] g3 := c9
  refine gi a8 fun g5 a8 => adz c9 0 none none a4 0 a6 46 3 40 ([] : List (Str × Str × Bool)) (zaz (zad a5) a3) aab rfl Tryz.underlying22 (by unfold TI; kernel_rfl) (by decide) (by decide) (Eq.trans (b := (Vs none 0 0)) krf (aaj (by first | rfl | (simp; done) | omega | (simp; omega) | (rw [zah]; omega)))) (Eq.trans (b := (Vs a4 (zad a5) a6)) krf (aaj (by first | rfl | (simp; done) | omega | (simp; omega) | (rw [zah]; omega)))) (Rd.takeT aab (zad a5) (c9.rdrw 1 rfl)) g5 fun d9 e0 e1 g6 c2 => ?_
  replace c2 : Hp w [] [rwt aaa 46 3 d9 e0 e1 (([] : List (Str × Str × Bool)) ++ (zaz (zad a5) a3)), rwt aaa 46 3 b3 a4 a6 a3] g6 := c2
  refine wp 1 (nq (sr (wp 3 (gi a8 fun g7 a8 => ahu b0 a1.length c4 46 3 .i64 a2 Tryz.underlying22 krf krf krf a1 rfl g7 (c5.hp c2) aab (by decide) (gi a8 fun g8 a8 => aiy b0 aaa a1 3 a2 aab (c5.hp c2) [(str ((el a1 a2).1)), (str ((el a1 a2).2.1)), (Vb ((el a1 a2).2.2))] g8 krf krf krf krf (by decide) ?_)))))
  refine adx c2 [(str ((el a1 a2).1)), (str ((el a1 a2).2.1)), (Vb ((el a1 a2).2.2))] 46 (fun b => (Vs (some ⟨b, 0, none⟩) 1 1)) rfl rfl krf fun d0 i3 e2 => gi a8 fun g9 a8 => adz e2 1 d9 e0 (some ⟨d0, 0, none⟩) e1 1 46 3 40 (([] : List (Str × Str × Bool)) ++ (zaz (zad a5) a3)) ([((el a1 a2).1, (el a1 a2).2.1, ((el a1 a2).2.2))] : List (Str × Str × Bool)) aab rfl Tryz.underlying22 (by unfold TI; kernel_rfl) (by decide) (by decide) krf (Eq.trans (b := (Vs (some ⟨d0, 0, none⟩) 1 1)) krf (aaj (by first | rfl | (simp; done) | omega | (simp; omega) | (rw [zah]; omega)))) (e2.rdblk 0 rfl) g9 fun e3 e4 e5 h0 c3 => ?_
  replace c3 : Hp w [] [blk d0 [(str ((el a1 a2).1)), (str ((el a1 a2).2.1)), (Vb ((el a1 a2).2.2))] 46, rwt aaa 46 3 e3 e4 e5 ((([] : List (Str × Str × Bool)) ++ (zaz (zad a5) a3)) ++ ([((el a1 a2).1, (el a1 a2).2.1, ((el a1 a2).2.2))] : List (Str × Str × Bool))), rwt aaa 46 3 b3 a4 a6 a3] h0 := c3
  refine wp 1 (nq (cr (wp 3 (gi a8 fun h1 a8 => w_slFrom a4 a3.length a6 46 3 .i64 a5 Tryz.underlying22 krf krf krf a3 rfl h1 (gi a8 fun h2 a8 => adz c3 1 e3 e4 (slF a4 a6 (zad a5) 3) e5 (a6 - (zad a5)) 46 3 40 ((([] : List (Str × Str × Bool)) ++ (zaz (zad a5) a3)) ++ ([((el a1 a2).1, (el a1 a2).2.1, ((el a1 a2).2.2))] : List (Str × Str × Bool))) (zar (zad a5) a3) aab rfl Tryz.underlying22 (by unfold TI; kernel_rfl) (by decide) (by decide) krf (Eq.trans (b := (Vs (slF a4 a6 (zad a5) 3) (a3.length - (zad a5)) (a6 - (zad a5)))) krf (aaj (by first | rfl | (simp; done) | omega | (simp; omega) | (rw [zah]; omega)))) (Rd.dropT aab a6 (zad a5) (Nat.le_trans (Nat.le_of_eq rfl) (c3.rwcap 2 rfl)) (c3.rdrw 2 rfl)) h2 fun e6 e7 e8 h3 d4 => ?_)))))
  replace d4 : Hp w [] [blk d0 [(str ((el a1 a2).1)), (str ((el a1 a2).2.1)), (Vb ((el a1 a2).2.2))] 46, rwt aaa 46 3 e6 e7 e8 (((([] : List (Str × Str × Bool)) ++ (zaz (zad a5) a3)) ++ ([((el a1 a2).1, (el a1 a2).2.1, ((el a1 a2).2.2))] : List (Str × Str × Bool))) ++ (zar (zad a5) a3)), rwt aaa 46 3 b3 a4 a6 a3] h3 := d4
  refine wp 1 (wl (bn (ql ?_)))
  obtain rfl := oi a8
  exact ⟨(((([] : List (Str × Str × Bool)) ++ (zaz (zad a5) a3)) ++ ([((el a1 a2).1, (el a1 a2).2.1, ((el a1 a2).2.2))] : List (Str × Str × Bool))) ++ (zar (zad a5) a3), e6, e7, e8), _, rfl, by kernel_rfl, (Hp.front d4 1 _ rfl).kp, rfl⟩
  rintro ⟨b8, c7, b9, c0⟩ i4 G ⟨h4, rfl⟩
  refine cr (wp 1 (gi b1 fun h5 b1 => aah a2 (1 : Int) krf krf h5 (wp 1 (wl (ql ?_)))))
  exact ⟨(b7, b8, a2 + (1 : Int), c7, b9, c0), _, rfl, by kernel_rfl, ⟨h4.kp, b1⟩, zac _⟩
  refine ace (acd (acq (acf (ql ?_))))
  obtain rfl := oi b1
  exact ⟨(a3, b3, a4, a6), _, rfl, by kernel_rfl, d2.kp, rfl⟩
  rintro ⟨b4, c6, b5, b6⟩ i5 G ⟨h6, rfl⟩
  refine sr (wp 2 (nq (ct ?_)))
  obtain rfl := oi hr
  refine r_one (Vs b5 b4.length b6) rfl krf ?_
  exact ⟨c6, b5, b6, (by first | rfl | (simp; done) | (simp; omega)), h6.kp⟩
theorem ahp {fu : Nat} {s_0 : Str} {w : World} {r : Bool} (hr : ajp fu s_0 = some r) (hG : Gl w) : CR Tryz.prog 73 [(str s_0)] w fun v w' => v = (Vb r) ∧ Hp w [] [] w' := by
  have hH : Hp w [] [] w := Hp.refl w
  refine enter (k := 12) Tryz.func73 rfl rfl nbe ?_
  unfold ajp at hr
  refine sr (wp 1 (nq (bi hr fun a1 a0 hr => agq hH [2] [(2, (Vb a1))] ?_ ?_)))
  refine cr (wp 2 (wn a0 (fun a2 a0 => ?_) (fun a2 a0 => ?_)))
  refine wp 1 (gy 5 (bi a0 fun a6 a3 a0 => wc ent61 hH (aim a3 (hG.hp0 hH)) fun a7 a4 => wp 5 (wl (ql ?_))))
  obtain rfl := oi a0
  exact je a4.kp
  refine wp 7 (wl (ql ?_))
  obtain rfl := oi a0
  exact je hH.kp
  intro a8 G a5
  refine ct ?_
  obtain rfl := oi hr
  exact rv a5.kp
theorem amp {fu : Nat} {s_0 : Str} {w : World} {r : Bool} (hr : akw fu s_0 = some r) (hG : Gl w) : CR Tryz.prog 133 [(str s_0)] w fun v w' => v = (Vb r) ∧ Hp w [] [] w' := by
  have hH : Hp w [] [] w := Hp.refl w
  refine enter (k := 14) Tryz.func133 rfl rfl nbe ?_
  unfold akw at hr
  refine sr (wp 1 (nq (bi hr fun a5 a6 hr => cut1 hH a5 [2] (fun a7 => []) ?_ ?_)))
  refine sr (wp 1 (nq (ce (lpS (fun a3 a1 => aft fu s_0 a3 a1) (0 : Int) hH a6 [0, 2, 3] (fun a1 => [(3, (Vi .i64 a1))]) (fun _ => rfl) ?_))))
  rintro a3 a1 b4 G a2 a0
  rw [aft.eq_2] at a0
  refine cs (sr (wp 4 (nq (cd a0 (fun a8 a0 => ?_) (fun a8 a0 => ?_)))))
  refine ck (qn (cs (ce (sr (wp 2 (gi a0 fun a9 a0 => abp s_0 .i64 a1 Tryz.underlying9 krf krf a9 (bi a0 fun b5 b0 a0 => ?_)))))))
  refine wc ent189 a2 (ane b0 (hG.hp0 a2)) fun b6 a4 => nq (cb a0 (fun b1 a0 => ?_) (fun b1 a0 => ?_))
  refine sr (wp 1 (nq (ct (bt_ (st (adl (bt_ ?_)))))))
  refine adl ?_
  obtain rfl := oi a0
  obtain rfl := oi hr
  exact rv a4.kp
  exact ck (bn (qn (cr (wp 1 (gi a0 fun b2 a0 => aah a1 (1 : Int) krf krf b2 (wp 1 (wl (ql (le' (a1 + (1 : Int)) a4.kp a0)))))))))
  refine ace (acd (acq (acf (ql ?_))))
  obtain rfl := oi a0
  exact je1 rfl a2.kp
  rintro a7 b7 G b3 rfl
  refine sr (wp 1 (nq (ct ?_)))
  obtain rfl := oi hr
  exact rv b3.kp
theorem K_L_ref02_Bracketed {fu : Nat} {s_0 : Str} {w : World} {r : Bool} (hr : ahj fu s_0 = some r) (hG : Gl w) : CR Tryz.prog 134 [(str s_0)] w fun v w' => v = (Vb r) ∧ Hp w [] [] w' := by
  have hH : Hp w [] [] w := Hp.refl w
  refine enter (k := 21) Tryz.func134 rfl rfl nbe ?_
  unfold ahj at hr
  refine sr (wp 1 (nq (sr (wp 1 (bi hr fun y1 a2 hr => wc ent65 hH (K_L_ref02_Host a2 (hG.hp0 hH)) fun w3 a1 => ?_)))))
  refine wp 5 (nq (bi hr fun a3 a0 hr => agq a1 [2] [(2, (Vb a3))] ?_ ?_))
  refine cr (wp 1 (wb a0 (fun a4 a0 => ?_) (fun a4 a0 => ?_)))
  refine wp 4 (wd a0 (fun a5 a0 => ?_) (fun a5 a0 => ?_))
  refine wp 1 (gy 16 (gi a0 fun a6 a0 => abp s_0 .i64 (0 : Int) Tryz.underlying9 krf krf a6 (gy 16 (acv (at_ s_0 (0 : Int)) (91 : UInt8) krf krf (wp 2 (wl (ql ?_)))))))
  obtain rfl := oi a0
  exact je a1.kp
  refine wp 5 (wl (ql ?_))
  obtain rfl := oi a0
  exact je a1.kp
  refine wp 10 (wl (ql ?_))
  obtain rfl := oi a0
  exact je a1.kp
  intro a8 G a7
  refine ct ?_
  obtain rfl := oi hr
  exact rv a7.kp
theorem K_L_ref01_Quote {fu : Nat} {s_0 : Str} {w : World} {r : (Str × UInt8)} (hr : amj fu s_0 = some r) (hG : Gl w) : CR Tryz.prog 135 [(str s_0)] w fun v w' => v = (zal #[(str r.1), (bt r.2)]) ∧ Hp w [] [] w' := by
  have hH : Hp w [] [] w := Hp.refl w
  refine enter (k := 40) Tryz.func135 rfl rfl nbe ?_
  unfold amj at hr
  refine sr (wp 2 (nq (sr (adx hH [(bt (34 : UInt8))] 5 (fun b => (Vs (some ⟨b, 0, none⟩) 1 1)) rfl rfl krf fun b1 w2 e0 => wp 1 (wl ?_)))))
  refine qn (bi hr fun c6 e1 hr => cut (σ := (List UInt8) × (Option Nat) × (Option Addr) × Nat) [2, 3, 4] (fun ⟨a3, b6, b2, b3⟩ => [(4, (Vs b2 a3.length b3))]) (fun ⟨a3, b6, b2, b3⟩ w' => Hp w [] [rwt eB 5 1 b6 b2 b3 a3] w' ∧ .inl a3 = c6) ?_ ?_)
  refine sr (wp 1 (nq (ce (lpG (σ := Nat × (List UInt8) × Int × (Option Nat) × (Option Addr) × Nat) [0, 2, 3, 4, 5] (fun ⟨b0, a2, a1, a9, a6, a7⟩ => [(4, (Vs a6 a2.length a7)), (5, (Vi .i64 a1))]) (fun ⟨b0, a2, a1, a9, a6, a7⟩ w' => Hp w [] [rwt eB 5 1 a9 a6 a7 a2] w' ∧ afa fu s_0 b0 a2 a1 = some c6) (fun ⟨b0, a2, a1, a9, a6, a7⟩ => b0) (fu, ([(34 : UInt8)] : List UInt8), (0 : Int), (some b1), (some ⟨b1, 0, none⟩), 1) (by exact ⟨(Hp.blkrw e0 0 1 1 ([(34 : UInt8)] : List UInt8) rfl alj rfl rfl (by decide)).kp, e1⟩) ?_ (mc krf (mc krf (mc krf (mc (Eq.trans (b := (Vs (some ⟨b1, 0, none⟩) 1 1)) krf (aaj lsy)) (mc krf rfl)))))))))
  rintro ⟨_ | b0, a2, a1, a9, a6, a7⟩ g2 G ⟨c0, a0⟩
  · exact nzz a0
  rw [afa.eq_2] at a0
  refine cs (sr (wp 4 (nq (cd a0 (fun e2 a0 => ?_) (fun e2 a0 => ?_)))))
  refine ck (qn (cs (ce (cs (sr (wp 2 (gi a0 fun e3 a0 => abp s_0 .i64 a1 Tryz.underlying9 krf krf e3 ?_)))))))
  refine bi a0 fun g3 e4 a0 => wc ent189 c0 (ane e4 (hG.hp0 c0)) fun g4 b7 => nq (cb a0 (fun e5 a0 => ?_) (fun e5 a0 => ?_))
  refine sr (wp 2 (nq (ct (st (bt_ (st (adl ?_)))))))
  refine bt_ (adl ?_)
  obtain rfl := oi a0
  obtain rfl := oi hr
  exact rv b7.kp
  refine ck (qn (bi a0 fun e6 a4 a0 => cut (σ := (List UInt8) × (Option Nat) × (Option Addr) × Nat) [0, 2, 3, 4, 5] (fun ⟨a8, b8, b4, b5⟩ => [(4, (Vs b4 a8.length b5))]) (fun ⟨a8, b8, b4, b5⟩ w' => Hp w [] [rwt eB 5 1 b8 b4 b5 a8] w' ∧ a8 = e6) ?_ ?_))
  refine bi a4 fun e7 a5 a4 => agq b7 [0, 2, 3, 4, 5, 26] [(26, (Vb e7))] ?_ ?_
  refine cr (wp 2 (gi a5 fun e8 a5 => abp s_0 .i64 a1 Tryz.underlying9 krf krf e8 (acv (at_ s_0 a1) (34 : UInt8) krf krf (wd a5 (fun e9 a5 => ?_) (fun e9 a5 => ?_)))))
  refine wp 5 (wl (ql ?_))
  obtain rfl := oi a5
  exact je b7.kp
  refine wp 2 (gy 21 (gi a5 fun f0 a5 => abp s_0 .i64 a1 Tryz.underlying9 krf krf f0 (gy 21 (acv (at_ s_0 a1) (92 : UInt8) krf krf (wp 1 (wl (ql ?_)))))))
  obtain rfl := oi a5
  exact je b7.kp
  intro g5 G c7
  refine cb a4 (fun f1 a4 => ?_) (fun f1 a4 => ?_)
  refine cr (wp 1 (adx c7 [(bt (92 : UInt8))] 5 (fun b => (Vs (some ⟨b, 0, none⟩) 1 1)) rfl rfl krf fun c1 g6 c8 => gi a4 fun f2 a4 => adz c8 1 a9 a6 (some ⟨c1, 0, none⟩) a7 1 5 1 1 a2 ([(92 : UInt8)] : List UInt8) alj rfl Tryz.underlying92 (by unfold TI; kernel_rfl) (by decide) (by decide) krf (Eq.trans (b := (Vs (some ⟨c1, 0, none⟩) 1 1)) krf (aaj (by first | rfl | (simp; done) | omega | (simp; omega) | (rw [zah]; omega)))) (c8.rdblk 0 rfl) f2 fun c9 d0 d1 f3 c2 => ?_))
  replace c2 : Hp w [] [blk c1 [(bt (92 : UInt8))] 5, rwt eB 5 1 c9 d0 d1 (a2 ++ ([(92 : UInt8)] : List UInt8))] f3 := c2
  refine wp 1 (wl (ql ?_))
  obtain rfl := oi a4
  exact ⟨(a2 ++ ([(92 : UInt8)] : List UInt8), c9, d0, d1), _, rfl, by kernel_rfl, (Hp.front c2 1 _ rfl).kp, rfl⟩
  refine ck (ql ?_)
  obtain rfl := oi a4
  exact ⟨(a2, a9, a6, a7), _, rfl, by kernel_rfl, c7.kp, rfl⟩
  rintro ⟨a8, b8, b4, b5⟩ g7 G ⟨f4, rfl⟩
  refine cr (wp 3 (gi a0 fun f5 a0 => abp s_0 .i64 a1 Tryz.underlying9 krf krf f5 (adx f4 [(bt (at_ s_0 a1))] 5 (fun b => (Vs (some ⟨b, 0, none⟩) 1 1)) rfl rfl krf fun c3 g8 d2 => gi a0 fun f6 a0 => adz d2 1 b8 b4 (some ⟨c3, 0, none⟩) b5 1 5 1 1 a8 ([at_ s_0 a1] : List UInt8) alj rfl Tryz.underlying92 (by unfold TI; kernel_rfl) (by decide) (by decide) krf (Eq.trans (b := (Vs (some ⟨c3, 0, none⟩) 1 1)) krf (aaj (by first | rfl | (simp; done) | omega | (simp; omega) | (rw [zah]; omega)))) (d2.rdblk 0 rfl) f6 fun d3 d4 d5 f7 c4 => ?_)))
  replace c4 : Hp w [] [blk c3 [(bt (at_ s_0 a1))] 5, rwt eB 5 1 d3 d4 d5 (a8 ++ ([at_ s_0 a1] : List UInt8))] f7 := c4
  refine wp 1 (wl (bn (qn (cr (wp 1 (gi a0 fun f8 a0 => aah a1 (1 : Int) krf krf f8 (wp 1 (wl ?_))))))))
  refine ql ?_
  exact ⟨(b0, a8 ++ ([at_ s_0 a1] : List UInt8), a1 + (1 : Int), d3, d4, d5), _, rfl, by kernel_rfl, ⟨(Hp.front c4 1 _ rfl).kp, a0⟩, zac _⟩
  refine ace (acd (acq (acf (ql ?_))))
  obtain rfl := oi a0
  exact ⟨(a2, a9, a6, a7), _, rfl, by kernel_rfl, c0.kp, rfl⟩
  rintro ⟨a3, b6, b2, b3⟩ g9 G ⟨f9, rfl⟩
  refine sr (wp 1 (adx f9 [(bt (34 : UInt8))] 5 (fun b => (Vs (some ⟨b, 0, none⟩) 1 1)) rfl rfl krf fun c5 h0 d6 => gi hr fun g0 hr => adz d6 1 b6 b2 (some ⟨c5, 0, none⟩) b3 1 5 1 1 a3 ([(34 : UInt8)] : List UInt8) alj rfl Tryz.underlying92 (by unfold TI; kernel_rfl) (by decide) (by decide) krf (Eq.trans (b := (Vs (some ⟨c5, 0, none⟩) 1 1)) krf (aaj (by first | rfl | (simp; done) | omega | (simp; omega) | (rw [zah]; omega)))) (d6.rdblk 0 rfl) g0 fun g1 d7 d8 d9 b9 => ?_))
  replace b9 : Hp w [] [blk c5 [(bt (34 : UInt8))] 5, rwt eB 5 1 g1 d7 d8 (a3 ++ ([(34 : UInt8)] : List UInt8))] d9 := b9
  refine aey (v := (str (a3 ++ ([(34 : UInt8)] : List UInt8)))) (w' := d9) rfl rfl (apc (a3 ++ ([(34 : UInt8)] : List UInt8)) d7 ((a3 ++ ([(34 : UInt8)] : List UInt8)).length) d8 5 (Rd.bytes (b9.rdrw 1 rfl)) (by first | rfl | (simp; done) | omega | (simp; omega) | (rw [zah]; omega)) Tryz.underlying92 Tryz.underlying9 Tryz.underlying5 krf) (wp 2 (nq (ct ?_)))
  obtain rfl := oi hr
  exact rv b9.kp
theorem K_L_ref02_PrintParams {fu : Nat} {a1 : List (Str × Str × Bool)} (b0 : Option Addr) (d2 : Nat) (b1 : Nat) {w : World} {r : (Str × UInt8)} (hr : ahm fu a1 = some r) (hG : Gl w) (e5 : d2 = a1.length) (c5 : Rd w b0 (zai aaa a1)) (c6 : d2 ≤ b1) : CR Tryz.prog 74 [(Vs b0 d2 b1)] w fun v w' => v = (zal #[(str r.1), (bt r.2)]) ∧ Hp w [] [] w' := by
  subst e5
  have hH : Hp w [] [] w := Hp.refl w
  refine enter (k := 91) Tryz.func74 rfl rfl nbe ?_
  unfold ahm at hr
  refine sr (wp 2 (nq (sr (wp 1 (nq ?_)))))
  refine bi hr fun e6 e7 hr => cut1 hH e6 [2, 3, 4] (fun e0 => [(4, (str e0))]) ?_ ?_
  refine sr (wp 1 (nq (ce (lpS (fun e1 ⟨a8, a0⟩ => acn fu a1 e1 a8 a0) (([] : Str), (0 : Int)) hH e7 [0, 2, 3, 4, 5] (fun ⟨a8, a0⟩ => [(4, (str a8)), (5, (Vi .i64 a0))]) (fun _ => rfl) ?_))))
  rintro e1 ⟨a8, a0⟩ i0 G c7 a4
  dsimp only at a4
  rw [acn.eq_2] at a4
  refine cs (sr (wp 4 (nq (cd a4 (fun e8 a4 => ?_) (fun e8 a4 => ?_)))))
  refine ck (qn (cs (ce (sr (wp 2 (gi a4 fun e9 a4 => ahu b0 a1.length b1 46 3 .i64 a0 Tryz.underlying22 krf krf krf a1 rfl e9 (c5.hp c7) aab (by decide) (gi a4 fun f0 a4 => ?_)))))))
  refine aiy b0 aaa a1 3 a0 aab (c5.hp c7) [(str ((el a1 a0).1)), (str ((el a1 a0).2.1)), (Vb ((el a1 a0).2.2))] f0 krf krf krf krf (by decide) (adx c7 [(str ([] : Str)), (str ([] : Str)), (Vb false)] 46 (fun b => (Vp (some ⟨b, 0, none⟩))) rfl rfl krf fun a2 i1 f1 => ahl f1 0 a2 0 [(str ([] : Str)), (str ([] : Str)), (Vb false)] [(str ((el a1 a0).1)), (str ((el a1 a0).2.1)), (Vb ((el a1 a0).2.2))] 46 [blk a2 [(str ((el a1 a0).1)), (str ((el a1 a0).2.1)), (Vb ((el a1 a0).2.2))] 46] rfl nbe krf krf rfl krf rfl fun i2 b4 => nq (cs (bi a4 fun f2 a5 a4 => agq b4 [0, 2, 3, 4, 5, 6, 55] [(55, (Vb f2))] ?_ ?_)))
  refine bi a5 fun b5 b9 a5 => ?_
  rcases Bool.eq_false_or_eq_true (!b5) with b2 | b2
  replace a5 := cft b2 a5
  refine adu 34 (fun j_ w_ w_' => aax [2, 3, 4, 5, 6, 7, 8, 9, 10, 11, 12, 13, 14, 15, 16, 17, 18, 19, 20, 21, 22, 23, 24, 25, 26, 27, 28, 29, 30, 31, 32, 33, 34, 35, 36] (fun w' => w'.heap[a2]? = some (.cells [(str ((el a1 a0).1)), (str ((el a1 a0).2.1)), (Vb ((el a1 a0).2.2))].toArray 46 (0, 0))) j_ w_ w_' ∧ True) [false, false, false, false, false, false, false, false, false, false, false, false, false, false, false, false, false, false, false, false, false, false, false, false, false, false, false, false, false, false, false, false, false, false, false, false, false] (fun _ _ => ⟨aax.same, trivial⟩) krf krf b4 rfl (aaq (acz (aas (acz (aaq (aas (aaq acy))))))) fun i3 d3 => rp 33 [0] (aak [true, true, false, false, false, false, false, false, false, false, false, false, false, false, false, false, false, false, false, false, false, false, false, false, false, false, false, false, false, false, false, false, false, false, false, false, false] 1 20 (str ((el a1 a0).1)) [2, 3, 4, 5, 6, 7, 8, 9, 10, 11, 12, 13, 14, 15, 16, 17, 18, 19, 20, 21, 22, 23, 24, 25, 26, 27, 28, 29, 30, 31, 32, 33, 34, 35, 36] (fun _ _ _ h => h.1) _ rfl rfl krf krf krf krf krf rfl (abc rfl (by intro w hS_; exact (afc a2 0 [(str ((el a1 a0).1)), (str ((el a1 a0).2.1)), (Vb ((el a1 a0).2.2))] 46 (str ((el a1 a0).1)) hS_ rfl krf krf))) (by exact d3.blkAt 0 rfl) (ro 2 rfl (wc ent73 d3 (ahp b9 (hG.hp0 d3)) fun c2 a3 => wl (abq (by exact ⟨aax.out rfl, trivial⟩) (rp 30 [3] (rt 4 (Vb true) rfl rfl (abc rfl (by intro w hS_; exact Eq.trans (b := Result.ok (Next.value (.bool (!b5))) w) krf (congrArg (fun b => Result.ok (Next.value (.bool b)) w) b2))) (rp 25 [5, 6, 8, 9] ?_)))))))
  refine ro 7 rfl (wp 1 (wl (abq (by exact ⟨aax.same, trivial⟩) (rp 19 [10, 11, 12, 13, 14] (ro 15 rfl (wp 1 (wl (abq (by exact ⟨aax.same, trivial⟩) (rp 0 [16, 17, 18, 19, 20, 21, 22, 23, 24, 25, 26, 27, 28, 29, 30, 31, 32, 33] ?_)))))))))
  refine adi krf (wp 3 (wl (ql ?_)))
  obtain rfl := oi a5
  exact je a3.kp
  replace a5 := cff b2 a5
  refine bi a5 fun c0 c3 a5 => ?_
  by_cases b6 : c0 = ((el a1 a0).1)
  replace a5 := ift b6 a5
  refine bi a5 fun c4 c8 a5 => ?_
  rcases Bool.eq_false_or_eq_true (!c4) with b7 | b7
  replace a5 := cft b7 a5
  refine adu 34 (fun j_ w_ w_' => aax [2, 3, 4, 5, 6, 7, 8, 9, 10, 11, 12, 13, 14, 15, 16, 17, 18, 19, 20, 21, 22, 23, 24, 25, 26, 27, 28, 29, 30, 31, 32, 33, 34, 35, 36] (fun w' => w'.heap[a2]? = some (.cells [(str ((el a1 a0).1)), (str ((el a1 a0).2.1)), (Vb ((el a1 a0).2.2))].toArray 46 (0, 0))) j_ w_ w_' ∧ aax [7, 10, 11, 12, 13, 14, 15, 16, 17, 18, 19, 20, 21, 22, 23, 24, 25, 26, 27, 28, 29, 30, 31, 32, 33, 34, 35, 36] (fun w' => w'.heap[a2]? = some (.cells [(str ((el a1 a0).1)), (str ((el a1 a0).2.1)), (Vb ((el a1 a0).2.2))].toArray 46 (0, 0))) j_ w_ w_' ∧ aax [10, 11, 12, 13, 14, 15, 16, 17, 18, 19, 20, 21, 22, 23, 24, 25, 26, 27, 28, 29, 30, 31, 32, 33, 34, 35, 36] (fun w' => w'.heap[a2]? = some (.cells [(str ((el a1 a0).1)), (str ((el a1 a0).2.1)), (Vb ((el a1 a0).2.2))].toArray 46 (0, 0))) j_ w_ w_' ∧ aax [15, 16, 17, 18, 19, 20, 21, 22, 23, 24, 25, 26, 27, 28, 29, 30, 31, 32, 33, 34, 35, 36] (fun w' => w'.heap[a2]? = some (.cells [(str ((el a1 a0).1)), (str ((el a1 a0).2.1)), (Vb ((el a1 a0).2.2))].toArray 46 (0, 0))) j_ w_ w_' ∧ True) [false, false, false, false, false, false, false, false, false, false, false, false, false, false, false, false, false, false, false, false, false, false, false, false, false, false, false, false, false, false, false, false, false, false, false, false, false] (fun _ _ => ⟨aax.same, aax.same, aax.same, aax.same, trivial⟩) krf krf b4 rfl (aaq (acz (aas (acz (aaq (aas (aaq acy))))))) fun i4 d4 => rp 33 [0] (aak [true, true, false, false, false, false, false, false, false, false, false, false, false, false, false, false, false, false, false, false, false, false, false, false, false, false, false, false, false, false, false, false, false, false, false, false, false] 1 20 (str ((el a1 a0).1)) [2, 3, 4, 5, 6, 7, 8, 9, 10, 11, 12, 13, 14, 15, 16, 17, 18, 19, 20, 21, 22, 23, 24, 25, 26, 27, 28, 29, 30, 31, 32, 33, 34, 35, 36] (fun _ _ _ h => h.1) _ rfl rfl krf krf krf krf krf rfl (abc rfl (by intro w hS_; exact (afc a2 0 [(str ((el a1 a0).1)), (str ((el a1 a0).2.1)), (Vb ((el a1 a0).2.2))] 46 (str ((el a1 a0).1)) hS_ rfl krf krf))) (by exact d4.blkAt 0 rfl) (ro 2 rfl (wc ent73 d4 (ahp b9 (hG.hp0 d4)) fun c2 a3 => wl (abq (by exact ⟨aax.out rfl, aax.new (a3.blkAt 0 rfl), aax.new (a3.blkAt 0 rfl), aax.new (a3.blkAt 0 rfl), trivial⟩) (rp 30 [3] (rt 4 (Vb false) rfl rfl (abc rfl (by intro w hS_; exact Eq.trans (b := Result.ok (Next.value (.bool (!b5))) w) krf (congrArg (fun b => Result.ok (Next.value (.bool b)) w) b2))) (rp 28 [5] ?_)))))))
  refine aak [true, true, true, true, true, true, true, false, false, false, false, false, false, false, false, false, false, false, false, false, false, false, false, false, false, false, false, false, false, false, false, false, false, false, false, false, false] 6 25 (str ((el a1 a0).1)) [7, 10, 11, 12, 13, 14, 15, 16, 17, 18, 19, 20, 21, 22, 23, 24, 25, 26, 27, 28, 29, 30, 31, 32, 33, 34, 35, 36] (fun _ _ _ h => h.2.1) _ rfl rfl krf krf krf krf krf rfl (ady 23 krf krf krf (by intro w hS_; exact (afc a2 0 [(str ((el a1 a0).1)), (str ((el a1 a0).2.1)), (Vb ((el a1 a0).2.2))] 46 (str ((el a1 a0).1)) hS_ rfl krf krf))) (by exact a3.blkAt 0 rfl) (rp 26 [8] (aak [true, true, true, true, true, true, true, false, true, true, false, false, false, false, false, false, false, false, false, false, false, false, false, false, false, false, false, false, false, false, false, false, false, false, false, false, false] 9 28 (str ((el a1 a0).1)) [10, 11, 12, 13, 14, 15, 16, 17, 18, 19, 20, 21, 22, 23, 24, 25, 26, 27, 28, 29, 30, 31, 32, 33, 34, 35, 36] (fun _ _ _ h => h.2.2.1) _ rfl rfl krf krf krf krf krf rfl (ady 23 krf krf krf (by intro w hS_; exact (afc a2 0 [(str ((el a1 a0).1)), (str ((el a1 a0).2.1)), (Vb ((el a1 a0).2.2))] 46 (str ((el a1 a0).1)) hS_ rfl krf krf))) (by exact a3.blkAt 0 rfl) (ro 7 rfl (gy 23 (wc ent27 a3 (afo c3 (hG.hp0 a3)) fun c9 a6 => wl (abq (by exact ⟨aax.out rfl, aax.out rfl, aax.new (a6.blkAt 0 rfl), aax.new (a6.blkAt 0 rfl), trivial⟩) (rp 22 [10, 11] (rt 12 (Vb false) rfl rfl (abc rfl (by intro w hS_; exact Eq.trans (b := Result.ok (Next.value (.bool (!decide (c0 = ((el a1 a0).1))))) w) krf (congrArg (fun b => Result.ok (Next.value (.bool b)) w) (by rw [decide_eq_true b6]; rfl)))) ?_))))))))
  refine rp 20 [13] (aak [true, true, true, true, true, true, true, true, true, true, true, true, true, true, true, false, false, false, false, false, false, false, false, false, false, false, false, false, false, false, false, false, false, false, false, false, false] 14 33 (str ((el a1 a0).2.1)) [15, 16, 17, 18, 19, 20, 21, 22, 23, 24, 25, 26, 27, 28, 29, 30, 31, 32, 33, 34, 35, 36] (fun _ _ _ h => h.2.2.2.1) _ rfl rfl krf krf krf krf krf rfl (ady 31 krf krf krf (by intro w hS_; exact (afc a2 1 [(str ((el a1 a0).1)), (str ((el a1 a0).2.1)), (Vb ((el a1 a0).2.2))] 46 (str ((el a1 a0).2.1)) hS_ rfl krf krf))) (by exact a6.blkAt 0 rfl) (ro 15 rfl (gy 31 (wc ent133 a6 (amp c8 (hG.hp0 a6)) fun d5 a7 => wl (abq (by exact ⟨aax.out rfl, aax.out rfl, aax.out rfl, aax.out rfl, trivial⟩) (rp 16 [16, 17] (rt 18 (Vb true) rfl rfl (abc rfl (by intro w hS_; exact Eq.trans (b := Result.ok (Next.value (.bool (!c4))) w) krf (congrArg (fun b => Result.ok (Next.value (.bool b)) w) b7))) (rp 0 [19, 20, 21, 22, 23, 24, 25, 26, 27, 28, 29, 30, 31, 32, 33] ?_))))))))
  refine adi krf (wp 3 (wl (ql ?_)))
  obtain rfl := oi a5
  exact je a7.kp
  replace a5 := cff b7 a5
  rcases Bool.eq_false_or_eq_true (!((el a1 a0).2.2)) with c1 | c1
  replace a5 := cft c1 a5
  by_cases d0 : ((el a1 a0).2.1) = ([] : Str)
  replace a5 := ift d0 a5
  refine gi a5 fun e2 a5 => adu 34 (fun j_ w_ w_' => aax [2, 3, 4, 5, 6, 7, 8, 9, 10, 11, 12, 13, 14, 15, 16, 17, 18, 19, 20, 21, 22, 23, 24, 25, 26, 27, 28, 29, 30, 31, 32, 33, 34, 35, 36] (fun w' => w'.heap[a2]? = some (.cells [(str ((el a1 a0).1)), (str ((el a1 a0).2.1)), (Vb ((el a1 a0).2.2))].toArray 46 (0, 0))) j_ w_ w_' ∧ aax [7, 10, 11, 12, 13, 14, 15, 16, 17, 18, 19, 20, 21, 22, 23, 24, 25, 26, 27, 28, 29, 30, 31, 32, 33, 34, 35, 36] (fun w' => w'.heap[a2]? = some (.cells [(str ((el a1 a0).1)), (str ((el a1 a0).2.1)), (Vb ((el a1 a0).2.2))].toArray 46 (0, 0))) j_ w_ w_' ∧ aax [10, 11, 12, 13, 14, 15, 16, 17, 18, 19, 20, 21, 22, 23, 24, 25, 26, 27, 28, 29, 30, 31, 32, 33, 34, 35, 36] (fun w' => w'.heap[a2]? = some (.cells [(str ((el a1 a0).1)), (str ((el a1 a0).2.1)), (Vb ((el a1 a0).2.2))].toArray 46 (0, 0))) j_ w_ w_' ∧ aax [15, 16, 17, 18, 19, 20, 21, 22, 23, 24, 25, 26, 27, 28, 29, 30, 31, 32, 33, 34, 35, 36] (fun w' => w'.heap[a2]? = some (.cells [(str ((el a1 a0).1)), (str ((el a1 a0).2.1)), (Vb ((el a1 a0).2.2))].toArray 46 (0, 0))) j_ w_ w_' ∧ aax [21, 22, 23, 24, 25, 26, 27, 28, 29, 30, 31, 32, 33, 34, 35, 36] (fun w' => w'.heap[a2]? = some (.cells [(str ((el a1 a0).1)), (str ((el a1 a0).2.1)), (Vb ((el a1 a0).2.2))].toArray 46 (0, 0))) j_ w_ w_' ∧ aax [25, 26, 27, 28, 29, 30, 31, 32, 33, 34, 35, 36] (fun w' => w'.heap[a2]? = some (.cells [(str ((el a1 a0).1)), (str ((el a1 a0).2.1)), (Vb ((el a1 a0).2.2))].toArray 46 (0, 0))) j_ w_ w_' ∧ aax [34, 35, 36] (fun w' => w'.heap[a2]? = some (.cells [(str ((el a1 a0).1)), (str ((el a1 a0).2.1)), (Vb ((el a1 a0).2.2))].toArray 46 (0, 0))) j_ w_ w_' ∧ True) [false, false, false, false, false, false, false, false, false, false, false, false, false, false, false, false, false, false, false, false, false, false, false, false, false, false, false, false, false, false, false, false, false, false, false, false, false] (fun _ _ => ⟨aax.same, aax.same, aax.same, aax.same, aax.same, aax.same, aax.same, trivial⟩) krf krf b4 rfl (aaq (acz (aas (acz (aaq (aas (aaq acy))))))) fun i5 d6 => rp 33 [0] (aak [true, true, false, false, false, false, false, false, false, false, false, false, false, false, false, false, false, false, false, false, false, false, false, false, false, false, false, false, false, false, false, false, false, false, false, false, false] 1 20 (str ((el a1 a0).1)) [2, 3, 4, 5, 6, 7, 8, 9, 10, 11, 12, 13, 14, 15, 16, 17, 18, 19, 20, 21, 22, 23, 24, 25, 26, 27, 28, 29, 30, 31, 32, 33, 34, 35, 36] (fun _ _ _ h => h.1) _ rfl rfl krf krf krf krf krf rfl (abc rfl (by intro w hS_; exact (afc a2 0 [(str ((el a1 a0).1)), (str ((el a1 a0).2.1)), (Vb ((el a1 a0).2.2))] 46 (str ((el a1 a0).1)) hS_ rfl krf krf))) (by exact d6.blkAt 0 rfl) (ro 2 rfl (wc ent73 d6 (ahp b9 (hG.hp0 d6)) fun c2 a3 => wl (abq (by exact ⟨aax.out rfl, aax.new (a3.blkAt 0 rfl), aax.new (a3.blkAt 0 rfl), aax.new (a3.blkAt 0 rfl), aax.new (a3.blkAt 0 rfl), aax.new (a3.blkAt 0 rfl), aax.new (a3.blkAt 0 rfl), trivial⟩) (rp 30 [3] (rt 4 (Vb false) rfl rfl (abc rfl (by intro w hS_; exact Eq.trans (b := Result.ok (Next.value (.bool (!b5))) w) krf (congrArg (fun b => Result.ok (Next.value (.bool b)) w) b2))) ?_))))))
  refine rp 28 [5] (aak [true, true, true, true, true, true, true, false, false, false, false, false, false, false, false, false, false, false, false, false, false, false, false, false, false, false, false, false, false, false, false, false, false, false, false, false, false] 6 25 (str ((el a1 a0).1)) [7, 10, 11, 12, 13, 14, 15, 16, 17, 18, 19, 20, 21, 22, 23, 24, 25, 26, 27, 28, 29, 30, 31, 32, 33, 34, 35, 36] (fun _ _ _ h => h.2.1) _ rfl rfl krf krf krf krf krf rfl (ady 23 krf krf krf (by intro w hS_; exact (afc a2 0 [(str ((el a1 a0).1)), (str ((el a1 a0).2.1)), (Vb ((el a1 a0).2.2))] 46 (str ((el a1 a0).1)) hS_ rfl krf krf))) (by exact a3.blkAt 0 rfl) (rp 26 [8] (aak [true, true, true, true, true, true, true, false, true, true, false, false, false, false, false, false, false, false, false, false, false, false, false, false, false, false, false, false, false, false, false, false, false, false, false, false, false] 9 28 (str ((el a1 a0).1)) [10, 11, 12, 13, 14, 15, 16, 17, 18, 19, 20, 21, 22, 23, 24, 25, 26, 27, 28, 29, 30, 31, 32, 33, 34, 35, 36] (fun _ _ _ h => h.2.2.1) _ rfl rfl krf krf krf krf krf rfl (ady 23 krf krf krf (by intro w hS_; exact (afc a2 0 [(str ((el a1 a0).1)), (str ((el a1 a0).2.1)), (Vb ((el a1 a0).2.2))] 46 (str ((el a1 a0).1)) hS_ rfl krf krf))) (by exact a3.blkAt 0 rfl) (ro 7 rfl (gy 23 (wc ent27 a3 (afo c3 (hG.hp0 a3)) fun c9 a6 => wl (abq (by exact ⟨aax.out rfl, aax.out rfl, aax.new (a6.blkAt 0 rfl), aax.new (a6.blkAt 0 rfl), aax.new (a6.blkAt 0 rfl), aax.new (a6.blkAt 0 rfl), aax.new (a6.blkAt 0 rfl), trivial⟩) (rp 22 [10, 11] ?_))))))))
  refine rt 12 (Vb false) rfl rfl (abc rfl (by intro w hS_; exact Eq.trans (b := Result.ok (Next.value (.bool (!decide (c0 = ((el a1 a0).1))))) w) krf (congrArg (fun b => Result.ok (Next.value (.bool b)) w) (by rw [decide_eq_true b6]; rfl)))) (rp 20 [13] (aak [true, true, true, true, true, true, true, true, true, true, true, true, true, true, true, false, false, false, false, false, false, false, false, false, false, false, false, false, false, false, false, false, false, false, false, false, false] 14 33 (str ((el a1 a0).2.1)) [15, 16, 17, 18, 19, 20, 21, 22, 23, 24, 25, 26, 27, 28, 29, 30, 31, 32, 33, 34, 35, 36] (fun _ _ _ h => h.2.2.2.1) _ rfl rfl krf krf krf krf krf rfl (ady 31 krf krf krf (by intro w hS_; exact (afc a2 1 [(str ((el a1 a0).1)), (str ((el a1 a0).2.1)), (Vb ((el a1 a0).2.2))] 46 (str ((el a1 a0).2.1)) hS_ rfl krf krf))) (by exact a6.blkAt 0 rfl) (ro 15 rfl (gy 31 (wc ent133 a6 (amp c8 (hG.hp0 a6)) fun d5 a7 => wl (abq (by exact ⟨aax.out rfl, aax.out rfl, aax.out rfl, aax.out rfl, aax.new (a7.blkAt 0 rfl), aax.new (a7.blkAt 0 rfl), aax.new (a7.blkAt 0 rfl), trivial⟩) (rp 16 [16, 17] (rt 18 (Vb false) rfl rfl (abc rfl (by intro w hS_; exact Eq.trans (b := Result.ok (Next.value (.bool (!c4))) w) krf (congrArg (fun b => Result.ok (Next.value (.bool b)) w) b7))) ?_))))))))
  refine rp 14 [19] (aak [true, true, true, true, true, true, true, true, true, true, true, true, true, true, true, true, true, true, true, true, true, false, false, false, false, false, false, false, false, false, false, false, false, false, false, false, false] 20 39 (Vb ((el a1 a0).2.2)) [21, 22, 23, 24, 25, 26, 27, 28, 29, 30, 31, 32, 33, 34, 35, 36] (fun _ _ _ h => h.2.2.2.2.1) _ rfl rfl krf krf krf krf krf rfl (ady 37 krf krf krf (by intro w hS_; exact (afc a2 2 [(str ((el a1 a0).1)), (str ((el a1 a0).2.1)), (Vb ((el a1 a0).2.2))] 46 (Vb ((el a1 a0).2.2)) hS_ rfl krf krf))) (by exact a7.blkAt 0 rfl) (rp 12 [21] (rt 22 (Vb true) rfl rfl (ady 37 krf krf krf (by intro w hS_; exact Eq.trans (b := Result.ok (Next.value (.bool (!((el a1 a0).2.2)))) w) krf (congrArg (fun b => Result.ok (Next.value (.bool b)) w) c1))) (rp 10 [23] (aak [true, true, true, true, true, true, true, true, true, true, true, true, true, true, true, true, true, true, true, true, true, true, true, true, true, false, false, false, false, false, false, false, false, false, false, false, false] 24 43 (str ((el a1 a0).2.1)) [25, 26, 27, 28, 29, 30, 31, 32, 33, 34, 35, 36] (fun _ _ _ h => h.2.2.2.2.2.1) _ rfl rfl krf krf krf krf krf rfl (ady 41 krf krf krf (by intro w hS_; exact (afc a2 1 [(str ((el a1 a0).1)), (str ((el a1 a0).2.1)), (Vb ((el a1 a0).2.2))] 46 (str ((el a1 a0).2.1)) hS_ rfl krf krf))) (by exact a7.blkAt 0 rfl) (rp 6 [25, 26, 27] (rt 28 (Vb false) rfl rfl (abc rfl (by intro w hS_; exact Eq.trans (b := Result.ok (Next.value (.bool (!decide (((el a1 a0).2.1) = ([] : Str))))) w) krf (congrArg (fun b => Result.ok (Next.value (.bool b)) w) (by rw [decide_eq_true d0]; rfl)))) (rp 3 [29, 30] (rt 31 (Vs b0 (zad a0) b1) rfl rfl (ady 47 krf krf krf (by intro w hS_; exact (x_slTo b0 a1.length b1 46 3 .i64 a0 Tryz.underlying22 krf krf krf a1 rfl e2 c6))) ?_)))))))))
  refine rp 1 [32] (aak [true, true, true, true, true, true, true, true, true, true, true, true, true, true, true, true, true, true, true, true, true, true, true, true, true, true, true, true, true, true, true, true, true, true, false, false, false] 33 52 (str ((el a1 a0).1)) [34, 35, 36] (fun _ _ _ h => h.2.2.2.2.2.2.1) _ rfl rfl krf krf krf krf krf rfl (ady 47 krf krf krf (by intro w hS_; exact (afc a2 0 [(str ((el a1 a0).1)), (str ((el a1 a0).2.1)), (Vb ((el a1 a0).2.2))] 46 (str ((el a1 a0).1)) hS_ rfl krf krf))) (by exact a7.blkAt 0 rfl) (adi krf (gy 47 (bi a5 fun f3 f4 a5 => wc ent123 a7 (api b0 (zad a0) b1 f4 (hG.hp0 a7) (by first | rfl | (simp; done) | omega | (simp; omega) | (rw [zah]; omega)) (Rd.takeT aab (zad a0) (c5.hp a7)) (toNat_le e2 c6)) fun i6 f5 => gy 47 (afs f3 (0 : UInt8) krf krf (wp 1 (wl ?_)))))))
  refine ql ?_
  obtain rfl := oi a5
  exact je f5.kp
  replace a5 := ifn d0 a5
  refine adu 34 (fun j_ w_ w_' => aax [2, 3, 4, 5, 6, 7, 8, 9, 10, 11, 12, 13, 14, 15, 16, 17, 18, 19, 20, 21, 22, 23, 24, 25, 26, 27, 28, 29, 30, 31, 32, 33, 34, 35, 36] (fun w' => w'.heap[a2]? = some (.cells [(str ((el a1 a0).1)), (str ((el a1 a0).2.1)), (Vb ((el a1 a0).2.2))].toArray 46 (0, 0))) j_ w_ w_' ∧ aax [7, 10, 11, 12, 13, 14, 15, 16, 17, 18, 19, 20, 21, 22, 23, 24, 25, 26, 27, 28, 29, 30, 31, 32, 33, 34, 35, 36] (fun w' => w'.heap[a2]? = some (.cells [(str ((el a1 a0).1)), (str ((el a1 a0).2.1)), (Vb ((el a1 a0).2.2))].toArray 46 (0, 0))) j_ w_ w_' ∧ aax [10, 11, 12, 13, 14, 15, 16, 17, 18, 19, 20, 21, 22, 23, 24, 25, 26, 27, 28, 29, 30, 31, 32, 33, 34, 35, 36] (fun w' => w'.heap[a2]? = some (.cells [(str ((el a1 a0).1)), (str ((el a1 a0).2.1)), (Vb ((el a1 a0).2.2))].toArray 46 (0, 0))) j_ w_ w_' ∧ aax [15, 16, 17, 18, 19, 20, 21, 22, 23, 24, 25, 26, 27, 28, 29, 30, 31, 32, 33, 34, 35, 36] (fun w' => w'.heap[a2]? = some (.cells [(str ((el a1 a0).1)), (str ((el a1 a0).2.1)), (Vb ((el a1 a0).2.2))].toArray 46 (0, 0))) j_ w_ w_' ∧ aax [21, 22, 23, 24, 25, 26, 27, 28, 29, 30, 31, 32, 33, 34, 35, 36] (fun w' => w'.heap[a2]? = some (.cells [(str ((el a1 a0).1)), (str ((el a1 a0).2.1)), (Vb ((el a1 a0).2.2))].toArray 46 (0, 0))) j_ w_ w_' ∧ aax [25, 26, 27, 28, 29, 30, 31, 32, 33, 34, 35, 36] (fun w' => w'.heap[a2]? = some (.cells [(str ((el a1 a0).1)), (str ((el a1 a0).2.1)), (Vb ((el a1 a0).2.2))].toArray 46 (0, 0))) j_ w_ w_' ∧ aax [34, 35, 36] (fun w' => w'.heap[a2]? = some (.cells [(str ((el a1 a0).1)), (str ((el a1 a0).2.1)), (Vb ((el a1 a0).2.2))].toArray 46 (0, 0))) j_ w_ w_' ∧ True) [false, false, false, false, false, false, false, false, false, false, false, false, false, false, false, false, false, false, false, false, false, false, false, false, false, false, false, false, false, false, false, false, false, false, false, false, false] (fun _ _ => ⟨aax.same, aax.same, aax.same, aax.same, aax.same, aax.same, aax.same, trivial⟩) krf krf b4 rfl (aaq (acz (aas (acz (aaq (aas (aaq acy))))))) fun i7 d7 => rp 33 [0] (aak [true, true, false, false, false, false, false, false, false, false, false, false, false, false, false, false, false, false, false, false, false, false, false, false, false, false, false, false, false, false, false, false, false, false, false, false, false] 1 20 (str ((el a1 a0).1)) [2, 3, 4, 5, 6, 7, 8, 9, 10, 11, 12, 13, 14, 15, 16, 17, 18, 19, 20, 21, 22, 23, 24, 25, 26, 27, 28, 29, 30, 31, 32, 33, 34, 35, 36] (fun _ _ _ h => h.1) _ rfl rfl krf krf krf krf krf rfl (abc rfl (by intro w hS_; exact (afc a2 0 [(str ((el a1 a0).1)), (str ((el a1 a0).2.1)), (Vb ((el a1 a0).2.2))] 46 (str ((el a1 a0).1)) hS_ rfl krf krf))) (by exact d7.blkAt 0 rfl) (ro 2 rfl (wc ent73 d7 (ahp b9 (hG.hp0 d7)) fun c2 a3 => wl (abq (by exact ⟨aax.out rfl, aax.new (a3.blkAt 0 rfl), aax.new (a3.blkAt 0 rfl), aax.new (a3.blkAt 0 rfl), aax.new (a3.blkAt 0 rfl), aax.new (a3.blkAt 0 rfl), aax.new (a3.blkAt 0 rfl), trivial⟩) (rp 30 [3] (rt 4 (Vb false) rfl rfl (abc rfl (by intro w hS_; exact Eq.trans (b := Result.ok (Next.value (.bool (!b5))) w) krf (congrArg (fun b => Result.ok (Next.value (.bool b)) w) b2))) (rp 28 [5] ?_)))))))
  refine aak [true, true, true, true, true, true, true, false, false, false, false, false, false, false, false, false, false, false, false, false, false, false, false, false, false, false, false, false, false, false, false, false, false, false, false, false, false] 6 25 (str ((el a1 a0).1)) [7, 10, 11, 12, 13, 14, 15, 16, 17, 18, 19, 20, 21, 22, 23, 24, 25, 26, 27, 28, 29, 30, 31, 32, 33, 34, 35, 36] (fun _ _ _ h => h.2.1) _ rfl rfl krf krf krf krf krf rfl (ady 23 krf krf krf (by intro w hS_; exact (afc a2 0 [(str ((el a1 a0).1)), (str ((el a1 a0).2.1)), (Vb ((el a1 a0).2.2))] 46 (str ((el a1 a0).1)) hS_ rfl krf krf))) (by exact a3.blkAt 0 rfl) (rp 26 [8] (aak [true, true, true, true, true, true, true, false, true, true, false, false, false, false, false, false, false, false, false, false, false, false, false, false, false, false, false, false, false, false, false, false, false, false, false, false, false] 9 28 (str ((el a1 a0).1)) [10, 11, 12, 13, 14, 15, 16, 17, 18, 19, 20, 21, 22, 23, 24, 25, 26, 27, 28, 29, 30, 31, 32, 33, 34, 35, 36] (fun _ _ _ h => h.2.2.1) _ rfl rfl krf krf krf krf krf rfl (ady 23 krf krf krf (by intro w hS_; exact (afc a2 0 [(str ((el a1 a0).1)), (str ((el a1 a0).2.1)), (Vb ((el a1 a0).2.2))] 46 (str ((el a1 a0).1)) hS_ rfl krf krf))) (by exact a3.blkAt 0 rfl) (ro 7 rfl (gy 23 (wc ent27 a3 (afo c3 (hG.hp0 a3)) fun c9 a6 => wl (abq (by exact ⟨aax.out rfl, aax.out rfl, aax.new (a6.blkAt 0 rfl), aax.new (a6.blkAt 0 rfl), aax.new (a6.blkAt 0 rfl), aax.new (a6.blkAt 0 rfl), aax.new (a6.blkAt 0 rfl), trivial⟩) (rp 22 [10, 11] (rt 12 (Vb false) rfl rfl (abc rfl (by intro w hS_; exact Eq.trans (b := Result.ok (Next.value (.bool (!decide (c0 = ((el a1 a0).1))))) w) krf (congrArg (fun b => Result.ok (Next.value (.bool b)) w) (by rw [decide_eq_true b6]; rfl)))) ?_))))))))
  refine rp 20 [13] (aak [true, true, true, true, true, true, true, true, true, true, true, true, true, true, true, false, false, false, false, false, false, false, false, false, false, false, false, false, false, false, false, false, false, false, false, false, false] 14 33 (str ((el a1 a0).2.1)) [15, 16, 17, 18, 19, 20, 21, 22, 23, 24, 25, 26, 27, 28, 29, 30, 31, 32, 33, 34, 35, 36] (fun _ _ _ h => h.2.2.2.1) _ rfl rfl krf krf krf krf krf rfl (ady 31 krf krf krf (by intro w hS_; exact (afc a2 1 [(str ((el a1 a0).1)), (str ((el a1 a0).2.1)), (Vb ((el a1 a0).2.2))] 46 (str ((el a1 a0).2.1)) hS_ rfl krf krf))) (by exact a6.blkAt 0 rfl) (ro 15 rfl (gy 31 (wc ent133 a6 (amp c8 (hG.hp0 a6)) fun d5 a7 => wl (abq (by exact ⟨aax.out rfl, aax.out rfl, aax.out rfl, aax.out rfl, aax.new (a7.blkAt 0 rfl), aax.new (a7.blkAt 0 rfl), aax.new (a7.blkAt 0 rfl), trivial⟩) (rp 16 [16, 17] (rt 18 (Vb false) rfl rfl (abc rfl (by intro w hS_; exact Eq.trans (b := Result.ok (Next.value (.bool (!c4))) w) krf (congrArg (fun b => Result.ok (Next.value (.bool b)) w) b7))) (rp 14 [19] ?_))))))))
  refine aak [true, true, true, true, true, true, true, true, true, true, true, true, true, true, true, true, true, true, true, true, true, false, false, false, false, false, false, false, false, false, false, false, false, false, false, false, false] 20 39 (Vb ((el a1 a0).2.2)) [21, 22, 23, 24, 25, 26, 27, 28, 29, 30, 31, 32, 33, 34, 35, 36] (fun _ _ _ h => h.2.2.2.2.1) _ rfl rfl krf krf krf krf krf rfl (ady 37 krf krf krf (by intro w hS_; exact (afc a2 2 [(str ((el a1 a0).1)), (str ((el a1 a0).2.1)), (Vb ((el a1 a0).2.2))] 46 (Vb ((el a1 a0).2.2)) hS_ rfl krf krf))) (by exact a7.blkAt 0 rfl) (rp 12 [21] (rt 22 (Vb true) rfl rfl (ady 37 krf krf krf (by intro w hS_; exact Eq.trans (b := Result.ok (Next.value (.bool (!((el a1 a0).2.2)))) w) krf (congrArg (fun b => Result.ok (Next.value (.bool b)) w) c1))) (rp 10 [23] (aak [true, true, true, true, true, true, true, true, true, true, true, true, true, true, true, true, true, true, true, true, true, true, true, true, true, false, false, false, false, false, false, false, false, false, false, false, false] 24 43 (str ((el a1 a0).2.1)) [25, 26, 27, 28, 29, 30, 31, 32, 33, 34, 35, 36] (fun _ _ _ h => h.2.2.2.2.2.1) _ rfl rfl krf krf krf krf krf rfl (ady 41 krf krf krf (by intro w hS_; exact (afc a2 1 [(str ((el a1 a0).1)), (str ((el a1 a0).2.1)), (Vb ((el a1 a0).2.2))] 46 (str ((el a1 a0).2.1)) hS_ rfl krf krf))) (by exact a7.blkAt 0 rfl) (rp 6 [25, 26, 27] (rt 28 (Vb true) rfl rfl (abc rfl (by intro w hS_; exact Eq.trans (b := Result.ok (Next.value (.bool (!decide (((el a1 a0).2.1) = ([] : Str))))) w) krf (congrArg (fun b => Result.ok (Next.value (.bool b)) w) (by rw [decide_eq_false d0]; rfl)))) (rp 0 [29, 30, 31, 32, 33] (adi krf (wp 3 ?_)))))))))
  refine wl (ql ?_)
  obtain rfl := oi a5
  exact je a7.kp
  replace a5 := cff c1 a5
  refine gi a5 fun e3 a5 => adu 34 (fun j_ w_ w_' => aax [2, 3, 4, 5, 6, 7, 8, 9, 10, 11, 12, 13, 14, 15, 16, 17, 18, 19, 20, 21, 22, 23, 24, 25, 26, 27, 28, 29, 30, 31, 32, 33, 34, 35, 36] (fun w' => w'.heap[a2]? = some (.cells [(str ((el a1 a0).1)), (str ((el a1 a0).2.1)), (Vb ((el a1 a0).2.2))].toArray 46 (0, 0))) j_ w_ w_' ∧ aax [7, 10, 11, 12, 13, 14, 15, 16, 17, 18, 19, 20, 21, 22, 23, 24, 25, 26, 27, 28, 29, 30, 31, 32, 33, 34, 35, 36] (fun w' => w'.heap[a2]? = some (.cells [(str ((el a1 a0).1)), (str ((el a1 a0).2.1)), (Vb ((el a1 a0).2.2))].toArray 46 (0, 0))) j_ w_ w_' ∧ aax [10, 11, 12, 13, 14, 15, 16, 17, 18, 19, 20, 21, 22, 23, 24, 25, 26, 27, 28, 29, 30, 31, 32, 33, 34, 35, 36] (fun w' => w'.heap[a2]? = some (.cells [(str ((el a1 a0).1)), (str ((el a1 a0).2.1)), (Vb ((el a1 a0).2.2))].toArray 46 (0, 0))) j_ w_ w_' ∧ aax [15, 16, 17, 18, 19, 20, 21, 22, 23, 24, 25, 26, 27, 28, 29, 30, 31, 32, 33, 34, 35, 36] (fun w' => w'.heap[a2]? = some (.cells [(str ((el a1 a0).1)), (str ((el a1 a0).2.1)), (Vb ((el a1 a0).2.2))].toArray 46 (0, 0))) j_ w_ w_' ∧ aax [21, 22, 23, 24, 25, 26, 27, 28, 29, 30, 31, 32, 33, 34, 35, 36] (fun w' => w'.heap[a2]? = some (.cells [(str ((el a1 a0).1)), (str ((el a1 a0).2.1)), (Vb ((el a1 a0).2.2))].toArray 46 (0, 0))) j_ w_ w_' ∧ aax [25, 26, 27, 28, 29, 30, 31, 32, 33, 34, 35, 36] (fun w' => w'.heap[a2]? = some (.cells [(str ((el a1 a0).1)), (str ((el a1 a0).2.1)), (Vb ((el a1 a0).2.2))].toArray 46 (0, 0))) j_ w_ w_' ∧ aax [34, 35, 36] (fun w' => w'.heap[a2]? = some (.cells [(str ((el a1 a0).1)), (str ((el a1 a0).2.1)), (Vb ((el a1 a0).2.2))].toArray 46 (0, 0))) j_ w_ w_' ∧ True) [false, false, false, false, false, false, false, false, false, false, false, false, false, false, false, false, false, false, false, false, false, false, false, false, false, false, false, false, false, false, false, false, false, false, false, false, false] (fun _ _ => ⟨aax.same, aax.same, aax.same, aax.same, aax.same, aax.same, aax.same, trivial⟩) krf krf b4 rfl (aaq (acz (aas (acz (aaq (aas (aaq acy))))))) fun i9 d8 => rp 33 [0] (aak [true, true, false, false, false, false, false, false, false, false, false, false, false, false, false, false, false, false, false, false, false, false, false, false, false, false, false, false, false, false, false, false, false, false, false, false, false] 1 20 (str ((el a1 a0).1)) [2, 3, 4, 5, 6, 7, 8, 9, 10, 11, 12, 13, 14, 15, 16, 17, 18, 19, 20, 21, 22, 23, 24, 25, 26, 27, 28, 29, 30, 31, 32, 33, 34, 35, 36] (fun _ _ _ h => h.1) _ rfl rfl krf krf krf krf krf rfl (abc rfl (by intro w hS_; exact (afc a2 0 [(str ((el a1 a0).1)), (str ((el a1 a0).2.1)), (Vb ((el a1 a0).2.2))] 46 (str ((el a1 a0).1)) hS_ rfl krf krf))) (by exact d8.blkAt 0 rfl) (ro 2 rfl (wc ent73 d8 (ahp b9 (hG.hp0 d8)) fun c2 a3 => wl (abq (by exact ⟨aax.out rfl, aax.new (a3.blkAt 0 rfl), aax.new (a3.blkAt 0 rfl), aax.new (a3.blkAt 0 rfl), aax.new (a3.blkAt 0 rfl), aax.new (a3.blkAt 0 rfl), aax.new (a3.blkAt 0 rfl), trivial⟩) (rp 30 [3] (rt 4 (Vb false) rfl rfl (abc rfl (by intro w hS_; exact Eq.trans (b := Result.ok (Next.value (.bool (!b5))) w) krf (congrArg (fun b => Result.ok (Next.value (.bool b)) w) b2))) ?_))))))
  refine rp 28 [5] (aak [true, true, true, true, true, true, true, false, false, false, false, false, false, false, false, false, false, false, false, false, false, false, false, false, false, false, false, false, false, false, false, false, false, false, false, false, false] 6 25 (str ((el a1 a0).1)) [7, 10, 11, 12, 13, 14, 15, 16, 17, 18, 19, 20, 21, 22, 23, 24, 25, 26, 27, 28, 29, 30, 31, 32, 33, 34, 35, 36] (fun _ _ _ h => h.2.1) _ rfl rfl krf krf krf krf krf rfl (ady 23 krf krf krf (by intro w hS_; exact (afc a2 0 [(str ((el a1 a0).1)), (str ((el a1 a0).2.1)), (Vb ((el a1 a0).2.2))] 46 (str ((el a1 a0).1)) hS_ rfl krf krf))) (by exact a3.blkAt 0 rfl) (rp 26 [8] (aak [true, true, true, true, true, true, true, false, true, true, false, false, false, false, false, false, false, false, false, false, false, false, false, false, false, false, false, false, false, false, false, false, false, false, false, false, false] 9 28 (str ((el a1 a0).1)) [10, 11, 12, 13, 14, 15, 16, 17, 18, 19, 20, 21, 22, 23, 24, 25, 26, 27, 28, 29, 30, 31, 32, 33, 34, 35, 36] (fun _ _ _ h => h.2.2.1) _ rfl rfl krf krf krf krf krf rfl (ady 23 krf krf krf (by intro w hS_; exact (afc a2 0 [(str ((el a1 a0).1)), (str ((el a1 a0).2.1)), (Vb ((el a1 a0).2.2))] 46 (str ((el a1 a0).1)) hS_ rfl krf krf))) (by exact a3.blkAt 0 rfl) (ro 7 rfl (gy 23 (wc ent27 a3 (afo c3 (hG.hp0 a3)) fun c9 a6 => wl (abq (by exact ⟨aax.out rfl, aax.out rfl, aax.new (a6.blkAt 0 rfl), aax.new (a6.blkAt 0 rfl), aax.new (a6.blkAt 0 rfl), aax.new (a6.blkAt 0 rfl), aax.new (a6.blkAt 0 rfl), trivial⟩) (rp 22 [10, 11] ?_))))))))
  refine rt 12 (Vb false) rfl rfl (abc rfl (by intro w hS_; exact Eq.trans (b := Result.ok (Next.value (.bool (!decide (c0 = ((el a1 a0).1))))) w) krf (congrArg (fun b => Result.ok (Next.value (.bool b)) w) (by rw [decide_eq_true b6]; rfl)))) (rp 20 [13] (aak [true, true, true, true, true, true, true, true, true, true, true, true, true, true, true, false, false, false, false, false, false, false, false, false, false, false, false, false, false, false, false, false, false, false, false, false, false] 14 33 (str ((el a1 a0).2.1)) [15, 16, 17, 18, 19, 20, 21, 22, 23, 24, 25, 26, 27, 28, 29, 30, 31, 32, 33, 34, 35, 36] (fun _ _ _ h => h.2.2.2.1) _ rfl rfl krf krf krf krf krf rfl (ady 31 krf krf krf (by intro w hS_; exact (afc a2 1 [(str ((el a1 a0).1)), (str ((el a1 a0).2.1)), (Vb ((el a1 a0).2.2))] 46 (str ((el a1 a0).2.1)) hS_ rfl krf krf))) (by exact a6.blkAt 0 rfl) (ro 15 rfl (gy 31 (wc ent133 a6 (amp c8 (hG.hp0 a6)) fun d5 a7 => wl (abq (by exact ⟨aax.out rfl, aax.out rfl, aax.out rfl, aax.out rfl, aax.new (a7.blkAt 0 rfl), aax.new (a7.blkAt 0 rfl), aax.new (a7.blkAt 0 rfl), trivial⟩) (rp 16 [16, 17] (rt 18 (Vb false) rfl rfl (abc rfl (by intro w hS_; exact Eq.trans (b := Result.ok (Next.value (.bool (!c4))) w) krf (congrArg (fun b => Result.ok (Next.value (.bool b)) w) b7))) ?_))))))))
  refine rp 14 [19] (aak [true, true, true, true, true, true, true, true, true, true, true, true, true, true, true, true, true, true, true, true, true, false, false, false, false, false, false, false, false, false, false, false, false, false, false, false, false] 20 39 (Vb ((el a1 a0).2.2)) [21, 22, 23, 24, 25, 26, 27, 28, 29, 30, 31, 32, 33, 34, 35, 36] (fun _ _ _ h => h.2.2.2.2.1) _ rfl rfl krf krf krf krf krf rfl (ady 37 krf krf krf (by intro w hS_; exact (afc a2 2 [(str ((el a1 a0).1)), (str ((el a1 a0).2.1)), (Vb ((el a1 a0).2.2))] 46 (Vb ((el a1 a0).2.2)) hS_ rfl krf krf))) (by exact a7.blkAt 0 rfl) (rp 12 [21] (rt 22 (Vb false) rfl rfl (ady 37 krf krf krf (by intro w hS_; exact Eq.trans (b := Result.ok (Next.value (.bool (!((el a1 a0).2.2)))) w) krf (congrArg (fun b => Result.ok (Next.value (.bool b)) w) c1))) (rp 3 [23, 24, 25, 26, 27, 28, 29, 30] (rt 31 (Vs b0 (zad a0) b1) rfl rfl (ady 47 krf krf krf (by intro w hS_; exact (x_slTo b0 a1.length b1 46 3 .i64 a0 Tryz.underlying22 krf krf krf a1 rfl e3 c6))) (rp 1 [32] (aak [true, true, true, true, true, true, true, true, true, true, true, true, true, true, true, true, true, true, true, true, true, true, true, true, true, true, true, true, true, true, true, true, true, true, false, false, false] 33 52 (str ((el a1 a0).1)) [34, 35, 36] (fun _ _ _ h => h.2.2.2.2.2.2.1) _ rfl rfl krf krf krf krf krf rfl (ady 47 krf krf krf (by intro w hS_; exact (afc a2 0 [(str ((el a1 a0).1)), (str ((el a1 a0).2.1)), (Vb ((el a1 a0).2.2))] 46 (str ((el a1 a0).1)) hS_ rfl krf krf))) (by exact a7.blkAt 0 rfl) (adi krf (gy 47 ?_)))))))))
  refine bi a5 fun f6 f7 a5 => wc ent123 a7 (api b0 (zad a0) b1 f7 (hG.hp0 a7) (by first | rfl | (simp; done) | omega | (simp; omega) | (rw [zah]; omega)) (Rd.takeT aab (zad a0) (c5.hp a7)) (toNat_le e3 c6)) fun j0 f8 => gy 47 (afs f6 (0 : UInt8) krf krf (wp 1 (wl (ql ?_))))
  obtain rfl := oi a5
  exact je f8.kp
  replace a5 := ifn b6 a5
  refine adu 34 (fun j_ w_ w_' => aax [2, 3, 4, 5, 6, 7, 8, 9, 10, 11, 12, 13, 14, 15, 16, 17, 18, 19, 20, 21, 22, 23, 24, 25, 26, 27, 28, 29, 30, 31, 32, 33, 34, 35, 36] (fun w' => w'.heap[a2]? = some (.cells [(str ((el a1 a0).1)), (str ((el a1 a0).2.1)), (Vb ((el a1 a0).2.2))].toArray 46 (0, 0))) j_ w_ w_' ∧ aax [7, 10, 11, 12, 13, 14, 15, 16, 17, 18, 19, 20, 21, 22, 23, 24, 25, 26, 27, 28, 29, 30, 31, 32, 33, 34, 35, 36] (fun w' => w'.heap[a2]? = some (.cells [(str ((el a1 a0).1)), (str ((el a1 a0).2.1)), (Vb ((el a1 a0).2.2))].toArray 46 (0, 0))) j_ w_ w_' ∧ aax [10, 11, 12, 13, 14, 15, 16, 17, 18, 19, 20, 21, 22, 23, 24, 25, 26, 27, 28, 29, 30, 31, 32, 33, 34, 35, 36] (fun w' => w'.heap[a2]? = some (.cells [(str ((el a1 a0).1)), (str ((el a1 a0).2.1)), (Vb ((el a1 a0).2.2))].toArray 46 (0, 0))) j_ w_ w_' ∧ aax [15, 16, 17, 18, 19, 20, 21, 22, 23, 24, 25, 26, 27, 28, 29, 30, 31, 32, 33, 34, 35, 36] (fun w' => w'.heap[a2]? = some (.cells [(str ((el a1 a0).1)), (str ((el a1 a0).2.1)), (Vb ((el a1 a0).2.2))].toArray 46 (0, 0))) j_ w_ w_' ∧ aax [21, 22, 23, 24, 25, 26, 27, 28, 29, 30, 31, 32, 33, 34, 35, 36] (fun w' => w'.heap[a2]? = some (.cells [(str ((el a1 a0).1)), (str ((el a1 a0).2.1)), (Vb ((el a1 a0).2.2))].toArray 46 (0, 0))) j_ w_ w_' ∧ aax [25, 26, 27, 28, 29, 30, 31, 32, 33, 34, 35, 36] (fun w' => w'.heap[a2]? = some (.cells [(str ((el a1 a0).1)), (str ((el a1 a0).2.1)), (Vb ((el a1 a0).2.2))].toArray 46 (0, 0))) j_ w_ w_' ∧ aax [34, 35, 36] (fun w' => w'.heap[a2]? = some (.cells [(str ((el a1 a0).1)), (str ((el a1 a0).2.1)), (Vb ((el a1 a0).2.2))].toArray 46 (0, 0))) j_ w_ w_' ∧ True) [false, false, false, false, false, false, false, false, false, false, false, false, false, false, false, false, false, false, false, false, false, false, false, false, false, false, false, false, false, false, false, false, false, false, false, false, false] (fun _ _ => ⟨aax.same, aax.same, aax.same, aax.same, aax.same, aax.same, aax.same, trivial⟩) krf krf b4 rfl (aaq (acz (aas (acz (aaq (aas (aaq acy))))))) fun j1 d9 => rp 33 [0] (aak [true, true, false, false, false, false, false, false, false, false, false, false, false, false, false, false, false, false, false, false, false, false, false, false, false, false, false, false, false, false, false, false, false, false, false, false, false] 1 20 (str ((el a1 a0).1)) [2, 3, 4, 5, 6, 7, 8, 9, 10, 11, 12, 13, 14, 15, 16, 17, 18, 19, 20, 21, 22, 23, 24, 25, 26, 27, 28, 29, 30, 31, 32, 33, 34, 35, 36] (fun _ _ _ h => h.1) _ rfl rfl krf krf krf krf krf rfl (abc rfl (by intro w hS_; exact (afc a2 0 [(str ((el a1 a0).1)), (str ((el a1 a0).2.1)), (Vb ((el a1 a0).2.2))] 46 (str ((el a1 a0).1)) hS_ rfl krf krf))) (by exact d9.blkAt 0 rfl) (ro 2 rfl (wc ent73 d9 (ahp b9 (hG.hp0 d9)) fun c2 a3 => wl (abq (by exact ⟨aax.out rfl, aax.new (a3.blkAt 0 rfl), aax.new (a3.blkAt 0 rfl), aax.new (a3.blkAt 0 rfl), aax.new (a3.blkAt 0 rfl), aax.new (a3.blkAt 0 rfl), aax.new (a3.blkAt 0 rfl), trivial⟩) (rp 30 [3] (rt 4 (Vb false) rfl rfl (abc rfl (by intro w hS_; exact Eq.trans (b := Result.ok (Next.value (.bool (!b5))) w) krf (congrArg (fun b => Result.ok (Next.value (.bool b)) w) b2))) (rp 28 [5] ?_)))))))
  refine aak [true, true, true, true, true, true, true, false, false, false, false, false, false, false, false, false, false, false, false, false, false, false, false, false, false, false, false, false, false, false, false, false, false, false, false, false, false] 6 25 (str ((el a1 a0).1)) [7, 10, 11, 12, 13, 14, 15, 16, 17, 18, 19, 20, 21, 22, 23, 24, 25, 26, 27, 28, 29, 30, 31, 32, 33, 34, 35, 36] (fun _ _ _ h => h.2.1) _ rfl rfl krf krf krf krf krf rfl (ady 23 krf krf krf (by intro w hS_; exact (afc a2 0 [(str ((el a1 a0).1)), (str ((el a1 a0).2.1)), (Vb ((el a1 a0).2.2))] 46 (str ((el a1 a0).1)) hS_ rfl krf krf))) (by exact a3.blkAt 0 rfl) (rp 26 [8] (aak [true, true, true, true, true, true, true, false, true, true, false, false, false, false, false, false, false, false, false, false, false, false, false, false, false, false, false, false, false, false, false, false, false, false, false, false, false] 9 28 (str ((el a1 a0).1)) [10, 11, 12, 13, 14, 15, 16, 17, 18, 19, 20, 21, 22, 23, 24, 25, 26, 27, 28, 29, 30, 31, 32, 33, 34, 35, 36] (fun _ _ _ h => h.2.2.1) _ rfl rfl krf krf krf krf krf rfl (ady 23 krf krf krf (by intro w hS_; exact (afc a2 0 [(str ((el a1 a0).1)), (str ((el a1 a0).2.1)), (Vb ((el a1 a0).2.2))] 46 (str ((el a1 a0).1)) hS_ rfl krf krf))) (by exact a3.blkAt 0 rfl) (ro 7 rfl (gy 23 (wc ent27 a3 (afo c3 (hG.hp0 a3)) fun c9 a6 => wl (abq (by exact ⟨aax.out rfl, aax.out rfl, aax.new (a6.blkAt 0 rfl), aax.new (a6.blkAt 0 rfl), aax.new (a6.blkAt 0 rfl), aax.new (a6.blkAt 0 rfl), aax.new (a6.blkAt 0 rfl), trivial⟩) (rp 22 [10, 11] (rt 12 (Vb true) rfl rfl (abc rfl (by intro w hS_; exact Eq.trans (b := Result.ok (Next.value (.bool (!decide (c0 = ((el a1 a0).1))))) w) krf (congrArg (fun b => Result.ok (Next.value (.bool b)) w) (by rw [decide_eq_false b6]; rfl)))) ?_))))))))
  refine rp 19 [13, 14] (ro 15 rfl (wp 1 (wl (abq (by exact ⟨aax.same, aax.same, aax.same, aax.same, aax.same, aax.same, aax.same, trivial⟩) (rp 0 [16, 17, 18, 19, 20, 21, 22, 23, 24, 25, 26, 27, 28, 29, 30, 31, 32, 33] (adi krf (wp 3 (wl (ql ?_)))))))))
  obtain rfl := oi a5
  exact je a6.kp
  intro j2 G b3
  refine cb a4 (fun f9 a4 => ?_) (fun f9 a4 => ?_)
  refine sr (wp 2 (nq (ct (st (bt_ (st (adl ?_)))))))
  refine bt_ (adl ?_)
  obtain rfl := oi a4
  obtain rfl := oi hr
  exact rv b3.kp
  refine ck (qn (sr (wp 1 (gi a4 fun g0 a4 => aej a8 ([59] : Str) krf krf g0 (wp 1 (acr b3 0 a2 0 [(str ((el a1 a0).1)), (str ((el a1 a0).2.1)), (Vb ((el a1 a0).2.2))] 46 (str ((el a1 a0).1)) rfl rfl krf krf (gi a4 fun g1 a4 => ?_)))))))
  refine aej (a8 ++ ([59] : Str)) ((el a1 a0).1) krf krf g1 (wp 1 (nq (bi a4 fun g2 a9 a4 => agq b3 [0, 2, 3, 4, 5, 6, 72] [(72, (Vb g2))] ?_ ?_)))
  refine cr (wp 1 (acr b3 0 a2 2 [(str ((el a1 a0).1)), (str ((el a1 a0).2.1)), (Vb ((el a1 a0).2.2))] 46 (Vb ((el a1 a0).2.2)) rfl rfl krf krf (wb a9 (fun g3 a9 => ?_) (fun g3 a9 => ?_))))
  refine wp 1 (gy 63 (acr b3 0 a2 1 [(str ((el a1 a0).1)), (str ((el a1 a0).2.1)), (Vb ((el a1 a0).2.2))] 46 (str ((el a1 a0).2.1)) rfl rfl krf krf (gy 63 (bi a9 fun j3 g4 a9 => wc ent73 b3 (ahp g4 (hG.hp0 b3)) fun j4 d1 => gy 63 (wb a9 (fun g5 a9 => ?_) (fun g5 a9 => ?_))))))
  refine wp 5 (wl (ql ?_))
  obtain rfl := oi a9
  exact je d1.kp
  refine wp 1 (gy 67 (acr d1 0 a2 1 [(str ((el a1 a0).1)), (str ((el a1 a0).2.1)), (Vb ((el a1 a0).2.2))] 46 (str ((el a1 a0).2.1)) rfl rfl krf krf (gy 67 (bi a9 fun j5 g6 a9 => wc ent134 d1 (K_L_ref02_Bracketed g6 (hG.hp0 d1)) fun j6 g7 => wp 2 (wl (ql ?_))))))
  obtain rfl := oi a9
  exact je g7.kp
  refine wp 9 (wl (ql ?_))
  obtain rfl := oi a9
  exact je b3.kp
  intro j7 G b8
  refine cb a4 (fun g8 a4 => ?_) (fun g8 a4 => ?_)
  refine cr (wp 1 (gi a4 fun g9 a4 => aej ((a8 ++ ([59] : Str)) ++ ((el a1 a0).1)) ([61] : Str) krf krf g9 (wp 1 (acr b8 0 a2 1 [(str ((el a1 a0).1)), (str ((el a1 a0).2.1)), (Vb ((el a1 a0).2.2))] 46 (str ((el a1 a0).2.1)) rfl rfl krf krf (gi a4 fun h0 a4 => aej (((a8 ++ ([59] : Str)) ++ ((el a1 a0).1)) ++ ([61] : Str)) ((el a1 a0).2.1) krf krf h0 (wp 1 (wl ?_)))))))
  exact bn (qn (cr (wp 1 (gi a4 fun h1 a4 => aah a0 (1 : Int) krf krf h1 (wp 1 (wl (ql (le' ((((a8 ++ ([59] : Str)) ++ ((el a1 a0).1)) ++ ([61] : Str)) ++ ((el a1 a0).2.1), a0 + (1 : Int)) b8.kp a4))))))))
  refine sr (wp 1 (acr b8 0 a2 2 [(str ((el a1 a0).1)), (str ((el a1 a0).2.1)), (Vb ((el a1 a0).2.2))] 46 (Vb ((el a1 a0).2.2)) rfl rfl krf krf (nq (cb a4 (fun h2 a4 => ?_) (fun h2 a4 => ?_)))))
  refine sr (wp 1 (acr b8 0 a2 1 [(str ((el a1 a0).1)), (str ((el a1 a0).2.1)), (Vb ((el a1 a0).2.2))] 46 (str ((el a1 a0).2.1)) rfl rfl krf krf (bi a4 fun e4 h3 a4 => wc ent135 b8 (K_L_ref01_Quote h3 (hG.hp0 b8)) fun j8 h4 => wp 5 (nq (cr ?_)))))
  refine wp 1 (gi a4 fun h5 a4 => aej ((a8 ++ ([59] : Str)) ++ ((el a1 a0).1)) ([61] : Str) krf krf h5 (wp 1 (gi a4 fun h6 a4 => aej (((a8 ++ ([59] : Str)) ++ ((el a1 a0).1)) ++ ([61] : Str)) e4.1 krf krf h6 (wp 1 (wl (bn (qn ?_)))))))
  exact cr (wp 1 (gi a4 fun h7 a4 => aah a0 (1 : Int) krf krf h7 (wp 1 (wl (ql (le' ((((a8 ++ ([59] : Str)) ++ ((el a1 a0).1)) ++ ([61] : Str)) ++ e4.1, a0 + (1 : Int)) h4.kp a4))))))
  exact ck (bn (qn (cr (wp 1 (gi a4 fun h8 a4 => aah a0 (1 : Int) krf krf h8 (wp 1 (wl (ql (le' ((a8 ++ ([59] : Str)) ++ ((el a1 a0).1), a0 + (1 : Int)) b8.kp a4)))))))))
  refine ace (acd (acq (acf (ql ?_))))
  obtain rfl := oi a4
  exact je1 rfl c7.kp
  rintro e0 j9 G h9 rfl
  refine sr (wp 3 (nq (ct ?_)))
  obtain rfl := oi hr
  exact rv h9.kp
theorem K_L_ref03_PrintItem {fu : Nat} {a0 : (Str × (List (Str × Str × Bool)))} (a1 : Option Addr) (a9 : Nat) (a2 : Nat) {w : World} {r : (Str × UInt8)} (hr : aje fu a0 = some r) (hG : Gl w) (b9 : a9 = a0.2.length) (c0 : Rd w a1 (zai aaa a0.2)) (c1 : a9 ≤ a2) : CR Tryz.prog 23 [(zam #[(str a0.1), (Vs a1 a9 a2)])] w fun v w' => v = (zal #[(str r.1), (bt r.2)]) ∧ Hp w [] [] w' := by
  subst b9
  have hH : Hp w [] [] w := Hp.refl w
  refine enter (k := 33) Tryz.func23 rfl rfl nbe ?_
  unfold aje at hr
  refine sr (adx hH [(str a0.1), (Vs a1 a0.2.length a2)] 34 (fun b => (Vp (some ⟨b, 0, none⟩))) rfl rfl krf fun b1 w2 a5 => wp 2 (nq (sr (wp 1 (acr a5 0 b1 1 [(str a0.1), (Vs a1 a0.2.length a2)] 34 (Vs a1 a0.2.length a2) rfl rfl krf krf ?_)))))
  refine bi hr fun y4 c2 hr => aat 29 #[] [(Vs a1 a0.2.length a2)] _ ent29 krf krf (K_L_ref02_Sorted a1 a0.2.length a2 c2 (hG.hp0 a5) rfl (c0.hp a5) c1) ?_
  rintro _ w6 ⟨o9, b4, b5, rfl, b6⟩
  have a6 : Hp w [] [rwt aaa 46 3 o9 b4 b5 y4, blk b1 [(str a0.1), (Vs a1 a0.2.length a2)] 34] w6 := Hp.callK (L1 := []) (L2 := [blk b1 [(str a0.1), (Vs a1 a0.2.length a2)] 34]) a5 b6; clear b6
  refine bi hr fun b0 c3 hr => wc ent74 a6 (K_L_ref02_PrintParams b4 y4.length b5 c3 (hG.hp0 a6) rfl (a6.rdrw 0 rfl) (a6.rwcap 0 rfl)) fun c9 b7 => wp 5 (nq (cs (bi hr fun c4 a3 hr => cut (σ := Bool) [1, 2, 3, 4, 28] (fun a7 => [(28, (Vb a7))]) (fun a7 w' => Hp w [] [blk b1 [(str a0.1), (Vs a1 a0.2.length a2)] 34] w' ∧ a7 = c4) ?_ ?_)))
  by_cases a8 : a0.1 = ([] : Str)
  replace a3 := ift a8 a3
  refine adu 10 (fun j_ w_ w_' => aax [2, 3, 4, 5, 6, 7, 8, 9, 10, 11, 12, 13, 14, 15] (fun w' => w'.heap[b1]? = some (.cells [(str a0.1), (Vs a1 a0.2.length a2)].toArray 34 (0, 0))) j_ w_ w_' ∧ True) [false, false, false, false, false, false, false, false, false, false, false, false, false, false, false, false] (fun _ _ => ⟨aax.same, trivial⟩) krf krf b7 rfl (aaq (acz acy)) fun d0 b8 => rp 9 [0] (aak [true, true, false, false, false, false, false, false, false, false, false, false, false, false, false, false] 1 14 (str a0.1) [2, 3, 4, 5, 6, 7, 8, 9, 10, 11, 12, 13, 14, 15] (fun _ _ _ h => h.1) _ rfl rfl krf krf krf krf krf rfl (abc rfl (by intro w hS_; exact (afc b1 0 [(str a0.1), (Vs a1 a0.2.length a2)] 34 (str a0.1) hS_ rfl krf krf))) (by exact b8.blkAt 1 rfl) (rp 7 [2] (rt 3 (Vb true) rfl rfl (abc rfl (by intro w hS_; exact Eq.trans (b := Result.ok (Next.value (.bool (decide (a0.1 = ([] : Str))))) w) krf (congrArg (fun b => Result.ok (Next.value (.bool b)) w) (decide_eq_true a8)))) (rp 1 [4, 5, 7, 8, 9] (ro 6 rfl (wp 1 (wl (abq (by exact ⟨aax.same, trivial⟩) ?_))))))))
  refine adi krf (wp 6 (wl (ql ?_)))
  obtain rfl := oi a3
  exact ⟨true, _, rfl, by kernel_rfl, (Hp.front b8 1 _ rfl).kp, rfl⟩
  replace a3 := ifn a8 a3
  refine bi a3 fun d1 c5 a3 => adu 10 (fun j_ w_ w_' => aax [2, 3, 4, 5, 6, 7, 8, 9, 10, 11, 12, 13, 14, 15] (fun w' => w'.heap[b1]? = some (.cells [(str a0.1), (Vs a1 a0.2.length a2)].toArray 34 (0, 0))) j_ w_ w_' ∧ aax [6, 10, 11, 12, 13, 14, 15] (fun w' => w'.heap[b1]? = some (.cells [(str a0.1), (Vs a1 a0.2.length a2)].toArray 34 (0, 0))) j_ w_ w_' ∧ aax [9, 10, 11, 12, 13, 14, 15] (fun w' => w'.heap[b1]? = some (.cells [(str a0.1), (Vs a1 a0.2.length a2)].toArray 34 (0, 0))) j_ w_ w_' ∧ True) [false, false, false, false, false, false, false, false, false, false, false, false, false, false, false, false] (fun _ _ => ⟨aax.same, aax.same, aax.same, trivial⟩) krf krf b7 rfl (aaq (acz acy)) fun d2 a4 => rp 9 [0] (aak [true, true, false, false, false, false, false, false, false, false, false, false, false, false, false, false] 1 14 (str a0.1) [2, 3, 4, 5, 6, 7, 8, 9, 10, 11, 12, 13, 14, 15] (fun _ _ _ h => h.1) _ rfl rfl krf krf krf krf krf rfl (abc rfl (by intro w hS_; exact (afc b1 0 [(str a0.1), (Vs a1 a0.2.length a2)] 34 (str a0.1) hS_ rfl krf krf))) (by exact a4.blkAt 1 rfl) (rp 7 [2] (rt 3 (Vb false) rfl rfl (abc rfl (by intro w hS_; exact Eq.trans (b := Result.ok (Next.value (.bool (decide (a0.1 = ([] : Str))))) w) krf (congrArg (fun b => Result.ok (Next.value (.bool b)) w) (decide_eq_false a8)))) (rp 5 [4] (aak [true, true, true, true, true, true, false, false, false, false, false, false, false, false, false, false] 5 18 (str a0.1) [6, 10, 11, 12, 13, 14, 15] (fun _ _ _ h => h.2.1) _ rfl rfl krf krf krf krf krf rfl (ady 16 krf krf krf (by intro w hS_; exact (afc b1 0 [(str a0.1), (Vs a1 a0.2.length a2)] 34 (str a0.1) hS_ rfl krf krf))) (by exact a4.blkAt 1 rfl) (rp 3 [7] (aak [true, true, true, true, true, true, false, true, true, false, false, false, false, false, false, false] 8 21 (str a0.1) [9, 10, 11, 12, 13, 14, 15] (fun _ _ _ h => h.2.2.1) _ rfl rfl krf krf krf krf krf rfl (ady 16 krf krf krf (by intro w hS_; exact (afc b1 0 [(str a0.1), (Vs a1 a0.2.length a2)] 34 (str a0.1) hS_ rfl krf krf))) (by exact a4.blkAt 1 rfl) ?_)))))))
  refine rp 1 [9] (ro 6 rfl (gy 16 (wc ent76 a4 (apr c5 (hG.hp0 a4)) fun d3 b2 => wl (abq (by exact ⟨aax.out rfl, aax.out rfl, aax.new (b2.blkAt 1 rfl), trivial⟩) (adi krf (wp 2 (wn a3 (fun c6 a3 => ?_) (fun c6 a3 => ?_))))))))
  refine wp 3 (wl (ql ?_))
  obtain rfl := oi a3
  exact ⟨true, _, rfl, by kernel_rfl, (Hp.front b2 1 _ rfl).kp, rfl⟩
  refine wp 1 (gy 25 (afs b0.2 (0 : UInt8) krf krf (wp 1 (wl (ql ?_)))))
  obtain rfl := oi a3
  exact ⟨(!decide (b0.2 = (0 : UInt8))), _, rfl, by kernel_rfl, (Hp.front b2 1 _ rfl).kp, rfl⟩
  rintro a7 d4 G ⟨b3, rfl⟩
  refine cb hr (fun c7 hr => ?_) (fun c7 hr => ?_)
  refine sr (wp 2 (nq (ct (st ?_))))
  obtain rfl := oi hr
  exact rv b3.kp
  refine ck (qn (sr (wp 1 (acr b3 0 b1 0 [(str a0.1), (Vs a1 a0.2.length a2)] 34 (str a0.1) rfl rfl krf krf (wp 1 (gi hr fun c8 hr => aej a0.1 b0.1 krf krf c8 (wp 2 ?_)))))))
  refine nq (ct ?_)
  obtain rfl := oi hr
  exact rv b3.kp
end Go.Proofs
set_option linter.unusedVariables false
set_option linter.unusedSimpArgs false
set_option maxRecDepth 20000
set_option maxHeartbeats 1000000
namespace Go.Proofs
open Go.Wk Go.Px
open Go.Value renaming slice → Vs, int → Vi, bool → Vb, pointer → Vp
open Go.Value renaming agg → zam
open List renaming flatMap → zai
theorem ent14 : Go.Wk.Enters Tryz.prog 14 := ⟨Tryz.f14, _, Tryz.func14, rfl, by kernel_rfl⟩
theorem ent20 : Go.Wk.Enters Tryz.prog 20 := ⟨Tryz.f20, _, Tryz.func20, rfl, by kernel_rfl⟩
theorem ent21 : Go.Wk.Enters Tryz.prog 21 := ⟨Tryz.f21, _, Tryz.func21, rfl, by kernel_rfl⟩
theorem ent22 : Go.Wk.Enters Tryz.prog 22 := ⟨Tryz.f22, _, Tryz.func22, rfl, by kernel_rfl⟩
theorem ent23 : Go.Wk.Enters Tryz.prog 23 := ⟨Tryz.f23, _, Tryz.func23, rfl, by kernel_rfl⟩
theorem ent24 : Go.Wk.Enters Tryz.prog 24 := ⟨Tryz.f24, _, Tryz.func24, rfl, by kernel_rfl⟩
theorem K_L_ref02_SameParams {fu : Nat} {a1 : List (Str × Str × Bool)} {a2 : List (Str × Str × Bool)} (a4 : Option Addr) (a7 : Nat) (a8 : Nat) (a5 : Option Addr) (a9 : Nat) (b0 : Nat) {w : World} {r : Bool} (hr : aif fu a1 a2 = some r) (hG : Gl w) (b5 : a7 = a1.length) (b1 : Rd w a4 (zai aaa a1)) (c8 : a7 ≤ a8) (b6 : a9 = a2.length) (b2 : Rd w a5 (zai aaa a2)) (c9 : a9 ≤ b0) : CR Tryz.prog 24 [(Vs a4 a7 a8), (Vs a5 a9 b0)] w fun v w' => v = (Vb r) ∧ Hp w [] [] w' := by
  subst b5
  subst b6
  have hH : Hp w [] [] w := Hp.refl w
  refine enter (k := 26) Tryz.func24 rfl rfl nbe ?_
  unfold aif at hr
  refine sr (wp 1 (nq (cs (sr (wp 5 (wl ?_))))))
  refine qn (cn hr (fun h1 hr => ?_) (fun h1 hr => ?_))
  refine sr (wp 1 (nq (ct (st ?_))))
  obtain rfl := oi hr
  exact rv hH.kp
  refine ck (qn (bi hr fun b7 b8 hr => cut1 hH b7 [4] (fun b9 => []) ?_ ?_))
  refine sr (wp 1 (nq (ce (lpS (fun b3 a0 => adw fu a1 a2 b3 a0) (0 : Int) hH b8 [0, 1, 4, 5] (fun a0 => [(5, (Vi .i64 a0))]) (fun _ => rfl) ?_))))
  rintro b3 a0 d0 G b4 a3
  rw [adw.eq_2] at a3
  refine cs (sr (wp 4 (nq (cd a3 (fun c0 a3 => ?_) (fun c0 a3 => ?_)))))
  refine ck (qn (cs (ce (cs (gi a3 fun c1 a3 => gi a3 fun c2 a3 => gi a3 fun c3 a3 => gi a3 fun c4 a3 => adu 8 (fun j_ w_ w_' => aax [3, 8] (fun w' => Rd w' a4 (zai aaa a1)) j_ w_ w_' ∧ aax [8] (fun w' => Rd w' a4 (zai aaa a1)) j_ w_ w_' ∧ aax [7, 8] (fun w' => Rd w' a5 (zai aaa a2)) j_ w_ w_' ∧ aax [8] (fun w' => Rd w' a5 (zai aaa a2)) j_ w_ w_' ∧ True) [false, false, false, false, false, false, false, false, false] (fun _ _ => ⟨aax.same, aax.same, aax.same, aax.same, trivial⟩) krf krf b4 rfl (acz (aas (acz (aaq (aas (aaq acy)))))) fun d1 a6 => ?_)))))
  refine rp 6 [0, 1] (aak [true, true, true, false, false, false, false, false, false] 2 19 (Vp (some (ea a4 (a0.toNat * 3)))) [3, 8] (fun _ _ _ h => h.1) _ rfl rfl krf krf krf krf krf rfl (abc rfl (by intro w hS_; exact (apd a4 a1.length a8 46 3 .i64 a0 Tryz.underlying22 krf krf krf a1 rfl c1 hS_ aab (by decide)))) (by exact (b1.hp a6)) (aak [true, true, true, true, false, false, false, false, false] 3 20 (zam #[(str ((el a1 a0).1)), (str ((el a1 a0).2.1)), (Vb ((el a1 a0).2.2))]) [8] (fun _ _ _ h => h.2.1) _ rfl rfl krf krf krf krf krf rfl (abc rfl (by intro w hS_; exact (apw a4 aaa a1 3 a0 aab hS_ [(str ((el a1 a0).1)), (str ((el a1 a0).2.1)), (Vb ((el a1 a0).2.2))] c2 krf krf krf krf (by decide)))) (by exact (b1.hp a6)) (rp 2 [4, 5] (aak [true, true, true, true, true, true, true, false, false] 6 23 (Vp (some (ea a5 (a0.toNat * 3)))) [7, 8] (fun _ _ _ h => h.2.2.1) _ rfl rfl krf krf krf krf krf rfl (abc rfl (by intro w hS_; exact (apd a5 a2.length b0 46 3 .i64 a0 Tryz.underlying22 krf krf krf a2 rfl c3 hS_ aab (by decide)))) (by exact (b2.hp a6)) (aak [true, true, true, true, true, true, true, true, false] 7 24 (zam #[(str ((el a2 a0).1)), (str ((el a2 a0).2.1)), (Vb ((el a2 a0).2.2))]) [8] (fun _ _ _ h => h.2.2.2.1) _ rfl rfl krf krf krf krf krf rfl (abc rfl (by intro w hS_; exact (apw a5 aaa a2 3 a0 aab hS_ [(str ((el a2 a0).1)), (str ((el a2 a0).2.1)), (Vb ((el a2 a0).2.2))] c4 krf krf krf krf (by decide)))) (by exact (b2.hp a6)) (adi krf (w_aggneq [(str ((el a1 a0).1)), (str ((el a1 a0).2.1)), (Vb ((el a1 a0).2.2))] [(str ((el a2 a0).1)), (str ((el a2 a0).2.1)), (Vb ((el a2 a0).2.2))] [(decide (((el a1 a0).1) = ((el a2 a0).1))), (decide (((el a1 a0).2.1) = ((el a2 a0).2.1))), (((el a1 a0).2.2) == ((el a2 a0).2.2))] (decide (((el a1 a0).1, (el a1 a0).2.1, ((el a1 a0).2.2)) = ((el a2 a0).1, (el a2 a0).2.1, ((el a2 a0).2.2)))) Tryz.underlying46 krf krf krf krf ⟨by decide, ⟨_, _, by kernel_rfl, by kernel_rfl, (fun d => eqi_str d ((el a1 a0).1) ((el a2 a0).1) Tryz.underlying9)⟩, ⟨by decide, ⟨_, _, by kernel_rfl, by kernel_rfl, (fun d => eqi_str d ((el a1 a0).2.1) ((el a2 a0).2.1) Tryz.underlying9)⟩, ⟨by decide, ⟨_, _, by kernel_rfl, by kernel_rfl, (fun d => run_equalIn_bool' _ d _ _ _ Tryz.underlying4)⟩, trivial⟩⟩⟩ (by rw [Bool.eq_iff_iff]; simp [Prod.ext_iff, and_assoc]) (nq (cn a3 (fun c5 a3 => ?_) (fun c5 a3 => ?_))))))))))
  refine sr (wp 1 (nq (ct (bt_ (st (adl (bt_ ?_)))))))
  refine adl ?_
  obtain rfl := oi a3
  obtain rfl := oi hr
  exact rv a6.kp
  exact ck (bn (qn (cr (wp 1 (gi a3 fun c6 a3 => aah a0 (1 : Int) krf krf c6 (wp 1 (wl (ql (le' (a0 + (1 : Int)) a6.kp a3)))))))))
  refine ace (acd (acq (acf (ql ?_))))
  obtain rfl := oi a3
  exact je1 rfl b4.kp
  rintro b9 d2 G c7 rfl
  refine sr (wp 1 (nq (ct ?_)))
  obtain rfl := oi hr
  exact rv c7.kp
theorem K_L_law03_HeaderItems {fu : Nat} {b6 : Str} {a0 : (Str × (List (Str × Str × Bool)))} (a3 : Option Addr) (c1 : Nat) (a4 : Nat) {w : World} {r : Bool} (hr : ajq fu b6 a0 = some r) (hG : Gl w) (c8 : c1 = a0.2.length) (c2 : Rd w a3 (zai aaa a0.2)) (c3 : c1 ≤ a4) : CR Tryz.prog 4 [(str b6), (zam #[(str a0.1), (Vs a3 c1 a4)])] w fun v w' => v = (Vb r) ∧ Hp w [] [] w' := by
  subst c8
  have hH : Hp w [] [] w := Hp.refl w
  refine enter (k := 68) Tryz.func4 rfl rfl nbe ?_
  unfold ajq at hr
  refine sr (adx hH [(str a0.1), (Vs a3 a0.2.length a4)] 34 (fun b => (Vp (some ⟨b, 0, none⟩))) rfl rfl krf fun b1 w2 b4 => wp 1 (nq (cs (sr (wp 1 ?_)))))
  refine acr b4 0 b1 1 [(str a0.1), (Vs a3 a0.2.length a4)] 34 (Vs a3 a0.2.length a4) rfl rfl krf krf (wp 2 (nq (cd hr (fun h4 hr => ?_) (fun h4 hr => ?_))))
  refine sr (bi hr fun y5 c9 hr => wc ent14 b4 (K_L_law03_awake c9 (hG.hp0 b4)) fun w7 d0 => wp 1 (nq (ct (st ?_))))
  obtain rfl := oi hr
  exact rv d0.kp
  refine ck (qn (sr (wp 1 (bi hr fun a2 d1 hr => aat 20 #[] [(str b6)] _ ent20 krf krf (K_L_header_Item d1 (hG.hp0 b4)) ?_))))
  rintro _ d2 ⟨b5, a5, a6, rfl, c4⟩
  have d3 : Hp w [] [rwt aaa 46 3 b5 a5 a6 a2.1.2, blk b1 [(str a0.1), (Vs a3 a0.2.length a4)] 34] d2 := Hp.callK (L1 := []) (L2 := [blk b1 [(str a0.1), (Vs a3 a0.2.length a4)] 34]) b4 c4; clear c4
  refine wp 3 (adx d3 [(str ([] : Str)), (Vs none 0 0)] 34 (fun b => (Vp (some ⟨b, 0, none⟩))) rfl rfl krf fun b2 f4 d4 => ahl d4 0 b2 0 [(str ([] : Str)), (Vs none 0 0)] [(str a2.1.1), (Vs a5 a2.1.2.length a6)] 34 [blk b2 [(str a2.1.1), (Vs a5 a2.1.2.length a6)] 34, rwt aaa 46 3 b5 a5 a6 a2.1.2, blk b1 [(str a0.1), (Vs a3 a0.2.length a4)] 34] rfl nbe krf krf rfl krf rfl fun f5 c5 => wp 1 (nq (sr (wp 1 (bi hr fun a7 d5 hr => ?_)))))
  refine aat 21 #[] [(str b6)] _ ent21 krf krf (K_L_ref03_Item d5 (hG.hp0 c5)) ?_
  rintro _ d6 ⟨c6, a9, b0, rfl, c7⟩
  have d7 : Hp w [] [rwt aaa 46 3 c6 a9 b0 a7.1.2, blk b2 [(str a2.1.1), (Vs a5 a2.1.2.length a6)] 34, rwt aaa 46 3 b5 a5 a6 a2.1.2, blk b1 [(str a0.1), (Vs a3 a0.2.length a4)] 34] d6 := Hp.callK (L1 := []) (L2 := [blk b2 [(str a2.1.1), (Vs a5 a2.1.2.length a6)] 34, rwt aaa 46 3 b5 a5 a6 a2.1.2, blk b1 [(str a0.1), (Vs a3 a0.2.length a4)] 34]) c5 c7; clear c7
  refine wp 3 (adx d7 [(str ([] : Str)), (Vs none 0 0)] 34 (fun b => (Vp (some ⟨b, 0, none⟩))) rfl rfl krf fun b7 f6 d8 => ahl d8 0 b7 0 [(str ([] : Str)), (Vs none 0 0)] [(str a7.1.1), (Vs a9 a7.1.2.length b0)] 34 [blk b7 [(str a7.1.1), (Vs a9 a7.1.2.length b0)] 34, rwt aaa 46 3 c6 a9 b0 a7.1.2, blk b2 [(str a2.1.1), (Vs a5 a2.1.2.length a6)] 34, rwt aaa 46 3 b5 a5 a6 a2.1.2, blk b1 [(str a0.1), (Vs a3 a0.2.length a4)] 34] rfl nbe krf krf rfl krf rfl fun f7 b8 => wp 1 (nq (sr (aob b8 4 b1 0 2 [(str a0.1), (Vs a3 a0.2.length a4)] [(str a0.1), (Vs a3 a0.2.length a4)] 34 rfl rfl rfl krf krf krf (bi hr fun d9 e0 hr => ?_)))))
  refine wc ent22 b8 (K_L_header_PrintItem a3 a0.2.length a4 e0 (hG.hp0 b8) rfl (c2.hp b8) c3) fun f8 b9 => wp 5 (nq (sr (aob b9 4 b1 0 2 [(str a0.1), (Vs a3 a0.2.length a4)] [(str a0.1), (Vs a3 a0.2.length a4)] 34 rfl rfl rfl krf krf krf (bi hr fun e1 e2 hr => wc ent23 b9 (K_L_ref03_PrintItem a3 a0.2.length a4 e2 (hG.hp0 b9) rfl (c2.hp b9) c3) fun f9 a8 => wp 5 ?_))))
  refine nq (bi hr fun e3 a1 hr => cut (σ := Bool) [4] (fun c0 => [(4, (Vb c0))]) (fun c0 w' => Hp w [] [] w' ∧ c0 = e3) ?_ ?_)
  refine cr (wp 1 (acr a8 2 b2 0 [(str a2.1.1), (Vs a5 a2.1.2.length a6)] 34 (str a2.1.1) rfl rfl krf krf (wp 1 (acr a8 0 b7 0 [(str a7.1.1), (Vs a9 a7.1.2.length b0)] 34 (str a7.1.1) rfl rfl krf krf (wp 1 (wd a1 (fun e4 a1 => ?_) (fun e4 a1 => ?_)))))))
  refine wp 1 (gy 43 (acr a8 2 b2 1 [(str a2.1.1), (Vs a5 a2.1.2.length a6)] 34 (Vs a5 a2.1.2.length a6) rfl rfl krf krf (wp 1 (gy 43 (acr a8 0 b7 1 [(str a7.1.1), (Vs a9 a7.1.2.length b0)] 34 (Vs a9 a7.1.2.length b0) rfl rfl krf krf (gy 43 (bi a1 fun g0 e5 a1 => wc ent24 a8 (K_L_ref02_SameParams a5 a2.1.2.length a6 a9 a7.1.2.length b0 e5 (hG.hp0 a8) rfl (a8.rdrw 3 rfl) (a8.rwcap 3 rfl) rfl (a8.rdrw 1 rfl) (a8.rwcap 1 rfl)) fun g1 b3 => wp 1 (wb a1 (fun e6 a1 => ?_) (fun e6 a1 => ?_)))))))))
  refine wp 2 (gy 50 (acv a2.2 a7.2 krf krf (wp 1 (wd a1 (fun e7 a1 => ?_) (fun e7 a1 => ?_)))))
  refine wp 4 (wd a1 (fun e8 a1 => ?_) (fun e8 a1 => ?_))
  refine wp 2 (gy 60 (acv d9.2 e1.2 krf krf (wp 1 (wd a1 (fun e9 a1 => ?_) (fun e9 a1 => ?_)))))
  refine gy 65 (bi a1 fun f0 f1 a1 => wc ent14 b3 (K_L_law03_awake f1 (hG.hp0 b3)) fun g2 f2 => wp 2 (wl (ql ?_)))
  obtain rfl := oi a1
  exact ⟨f0, _, rfl, by kernel_rfl, f2.kp, rfl⟩
  refine wp 3 (wl (ql ?_))
  obtain rfl := oi a1
  exact ⟨false, _, rfl, by kernel_rfl, b3.kp, rfl⟩
  refine wp 8 (wl (ql ?_))
  obtain rfl := oi a1
  exact ⟨false, _, rfl, by kernel_rfl, b3.kp, rfl⟩
  refine wp 13 (wl (ql ?_))
  obtain rfl := oi a1
  exact ⟨false, _, rfl, by kernel_rfl, b3.kp, rfl⟩
  refine wp 18 (wl (ql ?_))
  obtain rfl := oi a1
  exact ⟨false, _, rfl, by kernel_rfl, b3.kp, rfl⟩
  refine wp 25 (wl (ql ?_))
  obtain rfl := oi a1
  exact ⟨false, _, rfl, by kernel_rfl, a8.kp, rfl⟩
  rintro c0 g3 G ⟨f3, rfl⟩
  refine ct ?_
  obtain rfl := oi hr
  exact rv f3.kp
end Go.Proofs
