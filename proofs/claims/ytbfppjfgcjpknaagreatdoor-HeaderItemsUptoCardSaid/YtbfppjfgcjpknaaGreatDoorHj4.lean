/-
  The law HeaderItems holds, second form: for every text and every item of at most 1048576 values and letters the call returns true; no condition beyond the statement's own (part 4 of 7).
-/
import Derived.Test.YtbfppjfgcjpknaaGreatDoorHj3
import Derived.Test.YtbfppjfgcjpknaaGreatDoorProg
set_option linter.unusedVariables false
set_option linter.unusedSimpArgs false
set_option maxRecDepth 20000
set_option maxHeartbeats 1000000
namespace Go.Proofs
open Go.Wk Go.Px
open Go.Value renaming slice → Vs, int → Vi, bool → Vb, pointer → Vp
open Go.IntKind renaming wrap → zab
open Go.Value renaming agg → zam, func → zan, tuple → zal
open Int renaming toNat → zad
open List renaming flatMap → zai, length_take → zah, set → zak
open Nat renaming lt_succ_self → zac
theorem ent131 : Go.Wk.Enters Tryz.prog 131 := ⟨Tryz.f131, _, Tryz.func131, rfl, by kernel_rfl⟩
theorem ent164 : Go.Wk.Enters Tryz.prog 164 := ⟨Tryz.f164, _, Tryz.func164, rfl, by kernel_rfl⟩
theorem ent187 : Go.Wk.Enters Tryz.prog 187 := ⟨Tryz.f187, _, Tryz.func187, rfl, by kernel_rfl⟩
theorem ent209 : Go.Wk.Enters Tryz.prog 209 := ⟨Tryz.f209, _, Tryz.func209, rfl, by kernel_rfl⟩
theorem ent241 : Go.Wk.Enters Tryz.prog 241 := ⟨Tryz.f241, _, Tryz.func241, rfl, by kernel_rfl⟩
theorem ent242 : Go.Wk.Enters Tryz.prog 242 := ⟨Tryz.f242, _, Tryz.func242, rfl, by kernel_rfl⟩
theorem ent262 : Go.Wk.Enters Tryz.prog 262 := ⟨Tryz.f262, _, Tryz.func262, rfl, by kernel_rfl⟩
theorem ent270 : Go.Wk.Enters Tryz.prog 270 := ⟨Tryz.f270, _, Tryz.func270, rfl, by kernel_rfl⟩
theorem amv {fu : Nat} {a1 : Str} {a2 : Str} {w : World} {r : Int} (hr : ahc fu a1 a2 = some r) (hG : Gl w) : CR Tryz.prog 131 [(str a1), (str a2)] w fun v w' => v = (Vi .i64 r) ∧ Hp w [] [] w' := by
  have hH : Hp w [] [] w := Hp.refl w
  refine enter (k := 20) Tryz.func131 rfl rfl nbe ?_
  unfold ahc at hr
  refine sr (wp 1 (nq (sr (wp 1 (bi hr fun y1 a4 hr => wc ent187 hH (aoa a4 (hG.hp0 hH)) fun w3 a3 => ?_)))))
  refine wp 1 (nq (sr (wp 1 (bi hr fun y6 a5 hr => wc ent187 a3 (aoa a5 (hG.hp0 a3)) fun w8 a0 => wp 1 (wl ?_)))))
  refine qn (cs (sr (wp 1 (nq (cb hr (fun a6 hr => ?_) (fun a6 hr => ?_))))))
  refine cs (sr (wp 1 (nq (cb hr (fun a7 hr => ?_) (fun a7 hr => ?_)))))
  refine sr (wp 1 (nq (ct (st (st ?_)))))
  obtain rfl := oi hr
  exact rv a0.kp
  refine ck (qn (sr (wp 1 (nq (ct (st ?_))))))
  obtain rfl := oi hr
  exact rv a0.kp
  refine ck (qn (cs (sr (wp 1 (nq (cb hr (fun a8 hr => ?_) (fun a8 hr => ?_)))))))
  refine sr (wp 1 (nq (ct (st ?_))))
  obtain rfl := oi hr
  exact rv a0.kp
  refine ck (qn (cs (sr (wp 3 (nq (cb hr (fun a9 hr => ?_) (fun a9 hr => ?_)))))))
  refine sr (wp 1 (nq (ct (st ?_))))
  obtain rfl := oi hr
  exact rv a0.kp
  refine ck (qn (cs (sr (wp 3 (nq (cb hr (fun b0 hr => ?_) (fun b0 hr => ?_)))))))
  refine sr (wp 1 (nq (ct (st ?_))))
  obtain rfl := oi hr
  exact rv a0.kp
  refine ck (qn (sr (wp 1 (nq (ct ?_)))))
  obtain rfl := oi hr
  exact rv a0.kp
theorem aix {fu : Nat} {a0 : (Str × Str × Bool)} {a1 : (Str × Str × Bool)} {w : World} {r : Int} (hr : agz fu a0 a1 = some r) (hG : Gl w) : CR Tryz.prog 164 [(zam #[(str a0.1), (str a0.2.1), (Vb a0.2.2)]), (zam #[(str a1.1), (str a1.2.1), (Vb a1.2.2)])] w fun v w' => v = (Vi .i64 r) ∧ Hp w [] [] w' := by
  have hH : Hp w [] [] w := Hp.refl w
  refine enter (k := 10) Tryz.func164 rfl rfl nbe ?_
  unfold agz at hr
  refine sr (adx hH [(str a0.1), (str a0.2.1), (Vb a0.2.2)] 46 (fun b => (Vp (some ⟨b, 0, none⟩))) rfl rfl krf fun b1 w2 a3 => adx a3 [(str a1.1), (str a1.2.1), (Vb a1.2.2)] 46 (fun b => (Vp (some ⟨b, 0, none⟩))) rfl rfl krf fun b4 w5 a2 => wp 1 (nq (sr (wp 1 ?_))))
  refine acr a2 1 b1 0 [(str a0.1), (str a0.2.1), (Vb a0.2.2)] 46 (str a0.1) rfl rfl krf krf (wp 1 (acr a2 0 b4 0 [(str a1.1), (str a1.2.1), (Vb a1.2.2)] 46 (str a1.1) rfl rfl krf krf (bi hr fun y7 a4 hr => wc ent131 a2 (amv a4 (hG.hp0 a2)) fun w9 a5 => wp 1 (nq (ct ?_)))))
  obtain rfl := oi hr
  exact rv a5.kp
theorem aeo {fu : Nat} {a6 : List (Str × Str × Bool)} {b0 : Int} {c0 : Int} (a5 : Option Nat) (a2 : Option Addr) (a3 : Nat) {w : World} {r : List (Str × Str × Bool)} (hr : aci fu a6 b0 c0 = some r) (hG : Gl w) (hM : Hp w (abf [rwt aaa 46 3 a5 a2 a3 a6]) [rwt aaa 46 3 a5 a2 a3 a6] w) (hS : ∀ b ∈ abf [rwt aaa 46 3 a5 a2 a3 a6], 9 ≤ b) : CR Tryz.prog 241 [(Vs a2 a6.length a3), (Vi .i64 b0), (Vi .i64 c0), (zan (.func 164) #[] #[])] w fun v w' => v = (zal #[]) ∧ r.length = a6.length ∧ Hp w (abf [rwt aaa 46 3 a5 a2 a3 a6]) [rwt aaa 46 3 a5 a2 a3 r] w' := by
  have hH : Hp w (abf [rwt aaa 46 3 a5 a2 a3 a6]) [rwt aaa 46 3 a5 a2 a3 a6] w := hM
  refine enter (k := 53) Tryz.func241 rfl rfl nbe ?_
  unfold aci at hr
  refine sr (wp 1 (gi hr fun g1 hr => aah b0 (1 : Int) krf krf g1 (wp 1 (nq (ce (lpG (σ := Nat × (List (Str × Str × Bool)) × Int) [0, 1, 2, 3, 8] (fun ⟨b5, a9, b2⟩ => [(0, (Vs a2 a9.length a3)), (8, (Vi .i64 b2))]) (fun ⟨b5, a9, b2⟩ w' => Hp w (abf [rwt aaa 46 3 a5 a2 a3 a6]) [rwt aaa 46 3 a5 a2 a3 a9] w' ∧ a9.length = a6.length ∧ abw fu b0 c0 b5 a9 b2 = some r) (fun ⟨b5, a9, b2⟩ => b5) (fu, a6, b0 + (1 : Int)) (by exact ⟨hH.kp, lsz, hr⟩) ?_))))))
  rintro ⟨_ | b5, a9, b2⟩ g0 G ⟨c6, g2, a8⟩
  · exact nzz a8
  rw [abw.eq_2] at a8
  refine cs (sr (wp 3 (nq (cd a8 (fun d4 a8 => ?_) (fun d4 a8 => ?_)))))
  refine ck (qn (bi a8 fun c7 d5 a8 => cut (σ := (List (Str × Str × Bool))) [0, 1, 2, 3, 8] (fun b3 => [(0, (Vs a2 b3.length a3))]) (fun b3 w' => Hp w (abf [rwt aaa 46 3 a5 a2 a3 a6]) [rwt aaa 46 3 a5 a2 a3 b3] w' ∧ b3.length = a9.length ∧ b3 = c7) ?_ ?_))
  refine ce (sr (wp 2 (nq (ce (lpG (σ := Nat × (List (Str × Str × Bool)) × Int) [0, 1, 2, 3, 8, 9] (fun ⟨b4, a1, a0⟩ => [(0, (Vs a2 a1.length a3)), (9, (Vi .i64 a0))]) (fun ⟨b4, a1, a0⟩ w' => Hp w (abf [rwt aaa 46 3 a5 a2 a3 a6]) [rwt aaa 46 3 a5 a2 a3 a1] w' ∧ a1.length = a9.length ∧ abv fu b0 b4 a1 a0 = some c7) (fun ⟨b4, a1, a0⟩ => b4) (fu, a9, b2) (by exact ⟨c6.kp, lsz, d5⟩) ?_)))))
  rintro ⟨_ | b4, a1, a0⟩ g3 G ⟨c1, g4, a4⟩
  · exact nzz a4
  rw [abv.eq_2] at a4
  refine cs (bi a4 fun d6 a7 a4 => agq c1 [0, 1, 2, 3, 8, 9, 34] [(34, (Vb d6))] ?_ ?_)
  by_cases b9 : b0 < a0
  replace a7 := ift b9 a7
  refine gi a7 fun d7 a7 => gi a7 fun d8 a7 => gi a7 fun d9 a7 => gi a7 fun e0 a7 => gi a7 fun e1 a7 => adu 14 (fun j_ w_ w_' => aax [8, 14, 15, 16] (fun w' => Rd w' a2 (zai aaa a1)) j_ w_ w_' ∧ aax [14, 15, 16] (fun w' => Rd w' a2 (zai aaa a1)) j_ w_ w_' ∧ aax [13, 14, 15, 16] (fun w' => Rd w' a2 (zai aaa a1)) j_ w_ w_' ∧ True) [false, false, false, false, false, false, false, false, false, false, false, false, false, false, false, false, false] (fun _ _ => ⟨aax.same, aax.same, aax.same, trivial⟩) krf krf c1 rfl (aaq (acz (aaq (aas (aas (aaq (aaq (aas acy)))))))) fun g5 b6 => rp 11 [0, 1, 2] (rt 3 (Vb true) rfl rfl (abc rfl (by intro w hS_; exact Eq.trans (b := Result.ok (Next.value (.bool (decide (b0 < a0)))) w) krf (congrArg (fun b => Result.ok (Next.value (.bool b)) w) (decide_eq_true b9)))) (rp 7 [4, 5, 6] (aak [true, true, true, true, true, true, true, true, false, false, false, false, false, false, false, false, false] 7 25 (Vp (some (ea a2 (a0.toNat * 3)))) [8, 14, 15, 16] (fun _ _ _ h => h.1) _ rfl rfl krf krf krf krf krf rfl (ady 21 krf krf krf (by intro w hS_; exact (apd a2 a1.length a3 46 3 .i64 a0 Tryz.underlying22 krf krf krf a1 rfl d7 hS_ aab (by decide)))) (by exact (b6.rdrw 0 rfl)) ?_)))
  refine aak [true, true, true, true, true, true, true, true, true, false, false, false, false, false, false, false, false] 8 26 (zam #[(str ((el a1 a0).1)), (str ((el a1 a0).2.1)), (Vb ((el a1 a0).2.2))]) [14, 15, 16] (fun _ _ _ h => h.2.1) _ rfl rfl krf krf krf krf krf rfl (ady 21 krf krf krf (by intro w hS_; exact (apw a2 aaa a1 3 a0 aab hS_ [(str ((el a1 a0).1)), (str ((el a1 a0).2.1)), (Vb ((el a1 a0).2.2))] d8 krf krf krf krf (by decide)))) (by exact (b6.rdrw 0 rfl)) (rp 3 [9, 10] (rt 11 (Vi .i64 (a0 - (1 : Int))) rfl rfl (ady 21 krf krf krf (by intro w hS_; exact (amc a0 (1 : Int) krf krf d9))) (aak [true, true, true, true, true, true, true, true, true, true, true, true, true, false, false, false, false] 12 30 (Vp (some (ea a2 ((a0 - (1 : Int)).toNat * 3)))) [13, 14, 15, 16] (fun _ _ _ h => h.2.2.1) _ rfl rfl krf krf krf krf krf rfl (ady 21 krf krf krf (by intro w hS_; exact (apd a2 a1.length a3 46 3 .i64 (a0 - (1 : Int)) Tryz.underlying22 krf krf krf a1 rfl e0 hS_ aab (by decide)))) (by exact (b6.rdrw 0 rfl)) (aak [true, true, true, true, true, true, true, true, true, true, true, true, true, true, false, false, false] 13 31 (zam #[(str ((el a1 (a0 - (1 : Int))).1)), (str ((el a1 (a0 - (1 : Int))).2.1)), (Vb ((el a1 (a0 - (1 : Int))).2.2))]) [14, 15, 16] (fun _ _ _ h => h.2.1) _ rfl rfl krf krf krf krf krf rfl (ady 21 krf krf krf (by intro w hS_; exact (apw a2 aaa a1 3 (a0 - (1 : Int)) aab hS_ [(str ((el a1 (a0 - (1 : Int))).1)), (str ((el a1 (a0 - (1 : Int))).2.1)), (Vb ((el a1 (a0 - (1 : Int))).2.2))] e1 krf krf krf krf (by decide)))) (by exact (b6.rdrw 0 rfl)) (adi krf (gy 21 (bi a7 fun g6 e2 a7 => wc ent164 b6 (aix e2 (hG.hp b6 hS)) fun g7 e3 => wp 2 ?_)))))))
  refine wl (ql ?_)
  obtain rfl := oi a7
  exact je e3.kp
  replace a7 := ifn b9 a7
  refine adu 14 (fun j_ w_ w_' => aax [8, 14, 15, 16] (fun w' => Rd w' a2 (zai aaa a1)) j_ w_ w_' ∧ aax [14, 15, 16] (fun w' => Rd w' a2 (zai aaa a1)) j_ w_ w_' ∧ aax [13, 14, 15, 16] (fun w' => Rd w' a2 (zai aaa a1)) j_ w_ w_' ∧ True) [false, false, false, false, false, false, false, false, false, false, false, false, false, false, false, false, false] (fun _ _ => ⟨aax.same, aax.same, aax.same, trivial⟩) krf krf c1 rfl (aaq (acz (aaq (aas (aas (aaq (aaq (aas acy)))))))) fun g8 e4 => rp 11 [0, 1, 2] (rt 3 (Vb false) rfl rfl (abc rfl (by intro w hS_; exact Eq.trans (b := Result.ok (Next.value (.bool (decide (b0 < a0)))) w) krf (congrArg (fun b => Result.ok (Next.value (.bool b)) w) (decide_eq_false b9)))) (rp 0 [4, 5, 6, 7, 8, 9, 10, 11, 12, 13] (adi krf (wp 3 (wl (ql ?_))))))
  obtain rfl := oi a7
  exact je e4.kp
  intro g9 G b8
  refine cb a4 (fun e5 a4 => ?_) (fun e5 a4 => ?_)
  refine ck (qn (cs (ce (gi a4 fun e6 a4 => gi a4 fun e7 a4 => gi a4 fun c8 a4 => ?_))))
  have e8 := afy (b8.rdrw 0 rfl) aab (by decide) c8
  refine gi a4 fun c9 a4 => gi a4 fun d0 a4 => ?_
  have e9 := afy (b8.rdrw 0 rfl) aab (by decide) d0
  refine gi a4 fun d1 a4 => gi a4 fun c2 a4 => ?_
  have d2 := afy (b8.rdrw 0 rfl) aab (by decide) c2
  refine gi a4 fun d3 a4 => cdr 16 b8 (aas (acz (aaq (aas (aas (aaq (aaq (aas acy)))))))) fun h0 b7 => rp 12 [0, 1, 2, 3] (rt 4 (Vi .i64 (a0 - (1 : Int))) rfl rfl (abc rfl (by intro w hS_; exact (amc a0 (1 : Int) krf krf e6))) (rp 9 [5, 6] (rt 7 (Vi .i64 (a0 - (1 : Int))) rfl rfl (abc rfl (by intro w hS_; exact (amc a0 (1 : Int) krf krf e7))) (rt 8 (Vp (some (ea a2 ((a0 - (1 : Int)).toNat * 3)))) rfl rfl (abc rfl (by intro w hS_; exact (alg a2 a1.length a3 46 3 .i64 (a0 - (1 : Int)) Tryz.underlying22 krf krf krf (afn (l := a1) rfl c8) e8))) (rp 5 [10, 11] (rt 12 (Vp (some (ea a2 (a0.toNat * 3)))) rfl rfl (abc rfl (by intro w hS_; exact (alg a2 a1.length a3 46 3 .i64 a0 Tryz.underlying22 krf krf krf (afn (l := a1) rfl d0) e9))) (r_one2 [true, true, true, true, true, true, true, true, true, true, true, true, true, false, false, false, false, false] [true, true, true, true, true, true, true, true, true, false, true, true, true, true, false, false, false, false] 9 13 _ _ rfl rfl krf krf krf rfl rfl ?_ ?_)))))))
  refine aiy a2 aaa a1 3 (a0 - (1 : Int)) aab (b7.rdrw 0 rfl) [(str ((el a1 (a0 - (1 : Int))).1)), (str ((el a1 (a0 - (1 : Int))).2.1)), (Vb ((el a1 (a0 - (1 : Int))).2.2))] c9 krf krf krf krf (by decide) (wl (abq (by exact trivial) (ro 13 rfl (aiy a2 aaa a1 3 a0 aab (b7.rdrw 0 rfl) [(str ((el a1 a0).1)), (str ((el a1 a0).2.1)), (Vb ((el a1 a0).2.2))] d1 krf krf krf krf (by decide) (wl (abq (by exact trivial) (rt 14 (Vp (some (ea a2 (a0.toNat * 3)))) rfl rfl (abc rfl (by intro w hS_; exact (alg a2 a1.length a3 46 3 .i64 a0 Tryz.underlying22 krf krf krf (afn (l := a1) rfl c2) d2))) (ro 15 rfl (alh b7 0 a5 a2 a3 46 3 a0 a1 ((el a1 (a0 - (1 : Int))).1, (el a1 (a0 - (1 : Int))).2.1, ((el a1 (a0 - (1 : Int))).2.2)) rfl aab [(str ((el a1 (a0 - (1 : Int))).1)), (str ((el a1 (a0 - (1 : Int))).2.1)), (Vb ((el a1 (a0 - (1 : Int))).2.2))] d3 krf krf krf (by decide) krf fun c3 b1 => ?_)))))))))
  replace b1 : Hp w (abf [rwt aaa 46 3 a5 a2 a3 a6]) [rwt aaa 46 3 a5 a2 a3 (zak a1 (zad a0) ((el a1 (a0 - (1 : Int))).1, (el a1 (a0 - (1 : Int))).2.1, ((el a1 (a0 - (1 : Int))).2.2)))] c3 := b1
  refine wl (abq (by exact trivial) (adi krf (gi a4 fun f0 a4 => ahu a2 a1.length a3 46 3 .i64 (a0 - (1 : Int)) Tryz.underlying22 krf krf krf (zak a1 (zad a0) ((el a1 (a0 - (1 : Int))).1, (el a1 (a0 - (1 : Int))).2.1, ((el a1 (a0 - (1 : Int))).2.2))) (by first | rfl | (simp; done) | omega | (simp; omega) | (rw [zah]; omega)) f0 (b1.rdrw 0 rfl) aab (by decide) (gi a4 fun f1 a4 => alh b1 0 a5 a2 a3 46 3 (a0 - (1 : Int)) (zak a1 (zad a0) ((el a1 (a0 - (1 : Int))).1, (el a1 (a0 - (1 : Int))).2.1, ((el a1 (a0 - (1 : Int))).2.2))) ((el a1 a0).1, (el a1 a0).2.1, ((el a1 a0).2.2)) rfl aab [(str ((el a1 a0).1)), (str ((el a1 a0).2.1)), (Vb ((el a1 a0).2.2))] f1 krf krf krf (by decide) krf fun f2 c4 => ?_))))
  replace c4 : Hp w (abf [rwt aaa 46 3 a5 a2 a3 a6]) [rwt aaa 46 3 a5 a2 a3 (zak (zak a1 (zad a0) ((el a1 (a0 - (1 : Int))).1, (el a1 (a0 - (1 : Int))).2.1, ((el a1 (a0 - (1 : Int))).2.2))) (zad (a0 - (1 : Int))) ((el a1 a0).1, (el a1 a0).2.1, ((el a1 a0).2.2)))] f2 := c4
  refine wl (bn (qn (cr (wp 1 (gi a4 fun f3 a4 => adg a0 (1 : Int) krf krf f3 (wp 1 (wl (ql ?_))))))))
  exact ⟨(b4, zak (zak a1 (zad a0) ((el a1 (a0 - (1 : Int))).1, (el a1 (a0 - (1 : Int))).2.1, ((el a1 (a0 - (1 : Int))).2.2))) (zad (a0 - (1 : Int))) ((el a1 a0).1, (el a1 a0).2.1, ((el a1 a0).2.2)), a0 - (1 : Int)), _, rfl, (mc (Eq.trans (b := (Vs a2 a1.length a3)) krf (aaj lsy)) (mc krf (mc krf (mc krf (mc krf (mc krf rfl)))))), ⟨c4.kp, lsz, a4⟩, zac _⟩
  refine aiy a2 aaa a1 3 a0 aab (b7.rdrw 0 rfl) [(str ((el a1 a0).1)), (str ((el a1 a0).2.1)), (Vb ((el a1 a0).2.2))] d1 krf krf krf krf (by decide) (wl (abq (by exact trivial) (ro 9 rfl (aiy a2 aaa a1 3 (a0 - (1 : Int)) aab (b7.rdrw 0 rfl) [(str ((el a1 (a0 - (1 : Int))).1)), (str ((el a1 (a0 - (1 : Int))).2.1)), (Vb ((el a1 (a0 - (1 : Int))).2.2))] c9 krf krf krf krf (by decide) (wl (abq (by exact trivial) (rt 14 (Vp (some (ea a2 (a0.toNat * 3)))) rfl rfl (abc rfl (by intro w hS_; exact (alg a2 a1.length a3 46 3 .i64 a0 Tryz.underlying22 krf krf krf (afn (l := a1) rfl c2) d2))) (ro 15 rfl (alh b7 0 a5 a2 a3 46 3 a0 a1 ((el a1 (a0 - (1 : Int))).1, (el a1 (a0 - (1 : Int))).2.1, ((el a1 (a0 - (1 : Int))).2.2)) rfl aab [(str ((el a1 (a0 - (1 : Int))).1)), (str ((el a1 (a0 - (1 : Int))).2.1)), (Vb ((el a1 (a0 - (1 : Int))).2.2))] d3 krf krf krf (by decide) krf fun c3 b1 => ?_)))))))))
  replace b1 : Hp w (abf [rwt aaa 46 3 a5 a2 a3 a6]) [rwt aaa 46 3 a5 a2 a3 (zak a1 (zad a0) ((el a1 (a0 - (1 : Int))).1, (el a1 (a0 - (1 : Int))).2.1, ((el a1 (a0 - (1 : Int))).2.2)))] c3 := b1
  refine wl (abq (by exact trivial) (adi krf (gi a4 fun f4 a4 => ahu a2 a1.length a3 46 3 .i64 (a0 - (1 : Int)) Tryz.underlying22 krf krf krf (zak a1 (zad a0) ((el a1 (a0 - (1 : Int))).1, (el a1 (a0 - (1 : Int))).2.1, ((el a1 (a0 - (1 : Int))).2.2))) (by first | rfl | (simp; done) | omega | (simp; omega) | (rw [zah]; omega)) f4 (b1.rdrw 0 rfl) aab (by decide) (gi a4 fun f5 a4 => alh b1 0 a5 a2 a3 46 3 (a0 - (1 : Int)) (zak a1 (zad a0) ((el a1 (a0 - (1 : Int))).1, (el a1 (a0 - (1 : Int))).2.1, ((el a1 (a0 - (1 : Int))).2.2))) ((el a1 a0).1, (el a1 a0).2.1, ((el a1 a0).2.2)) rfl aab [(str ((el a1 a0).1)), (str ((el a1 a0).2.1)), (Vb ((el a1 a0).2.2))] f5 krf krf krf (by decide) krf fun f6 c5 => ?_))))
  replace c5 : Hp w (abf [rwt aaa 46 3 a5 a2 a3 a6]) [rwt aaa 46 3 a5 a2 a3 (zak (zak a1 (zad a0) ((el a1 (a0 - (1 : Int))).1, (el a1 (a0 - (1 : Int))).2.1, ((el a1 (a0 - (1 : Int))).2.2))) (zad (a0 - (1 : Int))) ((el a1 a0).1, (el a1 a0).2.1, ((el a1 a0).2.2)))] f6 := c5
  refine wl (bn (qn (cr (wp 1 (gi a4 fun f7 a4 => adg a0 (1 : Int) krf krf f7 (wp 1 (wl (ql ?_))))))))
  exact ⟨(b4, zak (zak a1 (zad a0) ((el a1 (a0 - (1 : Int))).1, (el a1 (a0 - (1 : Int))).2.1, ((el a1 (a0 - (1 : Int))).2.2))) (zad (a0 - (1 : Int))) ((el a1 a0).1, (el a1 a0).2.1, ((el a1 a0).2.2)), a0 - (1 : Int)), _, rfl, (mc (Eq.trans (b := (Vs a2 a1.length a3)) krf (aaj lsy)) (mc krf (mc krf (mc krf (mc krf (mc krf rfl)))))), ⟨c5.kp, lsz, a4⟩, zac _⟩
  refine ace (acd (acq (acf (bn (ql ?_)))))
  obtain rfl := oi a4
  exact ⟨a1, _, rfl, by kernel_rfl, b8.kp, lsz, rfl⟩
  rintro b3 h1 G ⟨f8, h2, rfl⟩
  refine cr (wp 1 (gi a8 fun f9 a8 => aah b2 (1 : Int) krf krf f9 (wp 1 (wl (ql ?_)))))
  exact ⟨(b5, b3, b2 + (1 : Int)), _, rfl, by kernel_rfl, ⟨f8.kp, lsz, a8⟩, zac _⟩
  refine ace (acd (acq (acf ?_)))
  obtain rfl := oi a8
  refine ajb  rfl  ?_
  exact ⟨(by first | rfl | (simp; done) | (simp; omega)), lsz, c6.kp⟩
theorem adh {fu : Nat} {a8 : List (Str × Str × Bool)} {a3 : Int} {a2 : Int} {b3 : Int} (a7 : Option Nat) (a5 : Option Addr) (a6 : Nat) {w : World} {r : List (Str × Str × Bool)} (hr : abt fu a8 a3 a2 b3 = some r) (hG : Gl w) (hM : Hp w (abf [rwt aaa 46 3 a7 a5 a6 a8]) [rwt aaa 46 3 a7 a5 a6 a8] w) (hS : ∀ b ∈ abf [rwt aaa 46 3 a7 a5 a6 a8], 9 ≤ b) : CR Tryz.prog 270 [(Vs a5 a8.length a6), (Vi .i64 a3), (Vi .i64 a2), (Vi .i64 b3), (zan (.func 164) #[] #[])] w fun v w' => v = (zal #[]) ∧ r.length = a8.length ∧ Hp w (abf [rwt aaa 46 3 a7 a5 a6 a8]) [rwt aaa 46 3 a7 a5 a6 r] w' := by
  have hH : Hp w (abf [rwt aaa 46 3 a7 a5 a6 a8]) [rwt aaa 46 3 a7 a5 a6 a8] w := hM
  refine enter (k := 38) Tryz.func270 rfl rfl nbe ?_
  unfold abt at hr
  refine sr (wp 1 (nq (ce (lpG (σ := Nat × (List (Str × Str × Bool)) × Int) [0, 1, 2, 3, 10] (fun ⟨b0, a1, a0⟩ => [(0, (Vs a5 a1.length a6)), (10, (Vi .i64 a0))]) (fun ⟨b0, a1, a0⟩ w' => Hp w (abf [rwt aaa 46 3 a7 a5 a6 a8]) [rwt aaa 46 3 a7 a5 a6 a1] w' ∧ a1.length = a8.length ∧ ach fu a3 a2 b3 b0 a1 a0 = some r) (fun ⟨b0, a1, a0⟩ => b0) (fu, a8, (0 : Int)) (by exact ⟨hH.kp, lsz, hr⟩) ?_))))
  rintro ⟨_ | b0, a1, a0⟩ d9 G ⟨b2, e0, a4⟩
  · exact nzz a4
  rw [ach.eq_2] at a4
  refine cs (sr (wp 3 (nq (cd a4 (fun c4 a4 => ?_) (fun c4 a4 => ?_)))))
  refine ck (qn (cs (ce (gi a4 fun c5 a4 => gi a4 fun c6 a4 => gi a4 fun c7 a4 => gi a4 fun b8 a4 => ?_))))
  have c8 := afy (b2.rdrw 0 rfl) aab (by decide) b8
  refine gi a4 fun b9 a4 => gi a4 fun c9 a4 => gi a4 fun c0 a4 => ?_
  have d0 := afy (b2.rdrw 0 rfl) aab (by decide) c0
  refine gi a4 fun c1 a4 => gi a4 fun b4 a4 => ?_
  have c2 := afy (b2.rdrw 0 rfl) aab (by decide) b4
  refine gi a4 fun c3 a4 => cdr 22 b2 (aas (acz (aaq (aas acy)))) fun e1 b1 => rp 19 [0, 1, 2] (rt 3 (Vi .i64 (a3 + a0)) rfl rfl (abc rfl (by intro w hS_; exact (alv a3 a0 krf krf c5))) (rp 15 [4, 5, 6] (rt 7 (Vi .i64 (a2 + a0)) rfl rfl (abc rfl (by intro w hS_; exact (alv a2 a0 krf krf c6))) (rp 11 [8, 9, 10] (rt 11 (Vi .i64 (a2 + a0)) rfl rfl (abc rfl (by intro w hS_; exact (alv a2 a0 krf krf c7))) (rt 12 (Vp (some (ea a5 ((a2 + a0).toNat * 3)))) rfl rfl (abc rfl (by intro w hS_; exact (alg a5 a1.length a6 46 3 .i64 (a2 + a0) Tryz.underlying22 krf krf krf (afn (l := a1) rfl b8) c8))) (rp 6 [14, 15, 16] ?_)))))))
  refine rt 17 (Vi .i64 (a3 + a0)) rfl rfl (abc rfl (by intro w hS_; exact (alv a3 a0 krf krf c9))) (rt 18 (Vp (some (ea a5 ((a3 + a0).toNat * 3)))) rfl rfl (abc rfl (by intro w hS_; exact (alg a5 a1.length a6 46 3 .i64 (a3 + a0) Tryz.underlying22 krf krf krf (afn (l := a1) rfl c0) d0))) (r_one2 [true, true, true, true, true, true, true, true, true, true, true, true, true, true, true, true, true, true, true, false, false, false, false, false] [true, true, true, true, true, true, true, true, true, true, true, true, true, false, true, true, true, true, true, true, false, false, false, false] 13 19 _ _ rfl rfl krf krf krf rfl rfl ?_ ?_))
  refine aiy a5 aaa a1 3 (a2 + a0) aab (b1.rdrw 0 rfl) [(str ((el a1 (a2 + a0)).1)), (str ((el a1 (a2 + a0)).2.1)), (Vb ((el a1 (a2 + a0)).2.2))] b9 krf krf krf krf (by decide) (wl (abq (by exact trivial) (ro 19 rfl (aiy a5 aaa a1 3 (a3 + a0) aab (b1.rdrw 0 rfl) [(str ((el a1 (a3 + a0)).1)), (str ((el a1 (a3 + a0)).2.1)), (Vb ((el a1 (a3 + a0)).2.2))] c1 krf krf krf krf (by decide) (wl (abq (by exact trivial) (rt 20 (Vp (some (ea a5 ((a3 + a0).toNat * 3)))) rfl rfl (abc rfl (by intro w hS_; exact (alg a5 a1.length a6 46 3 .i64 (a3 + a0) Tryz.underlying22 krf krf krf (afn (l := a1) rfl b4) c2))) (ro 21 rfl (alh b1 0 a7 a5 a6 46 3 (a3 + a0) a1 ((el a1 (a2 + a0)).1, (el a1 (a2 + a0)).2.1, ((el a1 (a2 + a0)).2.2)) rfl aab [(str ((el a1 (a2 + a0)).1)), (str ((el a1 (a2 + a0)).2.1)), (Vb ((el a1 (a2 + a0)).2.2))] c3 krf krf krf (by decide) krf fun b5 a9 => ?_)))))))))
  replace a9 : Hp w (abf [rwt aaa 46 3 a7 a5 a6 a8]) [rwt aaa 46 3 a7 a5 a6 (zak a1 (zad (a3 + a0)) ((el a1 (a2 + a0)).1, (el a1 (a2 + a0)).2.1, ((el a1 (a2 + a0)).2.2)))] b5 := a9
  refine wl (abq (by exact trivial) (adi krf (gi a4 fun d1 a4 => ahu a5 a1.length a6 46 3 .i64 (a2 + a0) Tryz.underlying22 krf krf krf (zak a1 (zad (a3 + a0)) ((el a1 (a2 + a0)).1, (el a1 (a2 + a0)).2.1, ((el a1 (a2 + a0)).2.2))) (by first | rfl | (simp; done) | omega | (simp; omega) | (rw [zah]; omega)) d1 (a9.rdrw 0 rfl) aab (by decide) (gi a4 fun d2 a4 => alh a9 0 a7 a5 a6 46 3 (a2 + a0) (zak a1 (zad (a3 + a0)) ((el a1 (a2 + a0)).1, (el a1 (a2 + a0)).2.1, ((el a1 (a2 + a0)).2.2))) ((el a1 (a3 + a0)).1, (el a1 (a3 + a0)).2.1, ((el a1 (a3 + a0)).2.2)) rfl aab [(str ((el a1 (a3 + a0)).1)), (str ((el a1 (a3 + a0)).2.1)), (Vb ((el a1 (a3 + a0)).2.2))] d2 krf krf krf (by decide) krf fun d3 b6 => ?_))))
  replace b6 : Hp w (abf [rwt aaa 46 3 a7 a5 a6 a8]) [rwt aaa 46 3 a7 a5 a6 (zak (zak a1 (zad (a3 + a0)) ((el a1 (a2 + a0)).1, (el a1 (a2 + a0)).2.1, ((el a1 (a2 + a0)).2.2))) (zad (a2 + a0)) ((el a1 (a3 + a0)).1, (el a1 (a3 + a0)).2.1, ((el a1 (a3 + a0)).2.2)))] d3 := b6
  refine wl (bn (qn (cr (wp 1 (gi a4 fun d4 a4 => aah a0 (1 : Int) krf krf d4 (wp 1 (wl (ql ?_))))))))
  exact ⟨(b0, zak (zak a1 (zad (a3 + a0)) ((el a1 (a2 + a0)).1, (el a1 (a2 + a0)).2.1, ((el a1 (a2 + a0)).2.2))) (zad (a2 + a0)) ((el a1 (a3 + a0)).1, (el a1 (a3 + a0)).2.1, ((el a1 (a3 + a0)).2.2)), a0 + (1 : Int)), _, rfl, (mc (Eq.trans (b := (Vs a5 a1.length a6)) krf (aaj lsy)) (mc krf (mc krf (mc krf (mc krf rfl))))), ⟨b6.kp, lsz, a4⟩, zac _⟩
  refine aiy a5 aaa a1 3 (a3 + a0) aab (b1.rdrw 0 rfl) [(str ((el a1 (a3 + a0)).1)), (str ((el a1 (a3 + a0)).2.1)), (Vb ((el a1 (a3 + a0)).2.2))] c1 krf krf krf krf (by decide) (wl (abq (by exact trivial) (ro 13 rfl (aiy a5 aaa a1 3 (a2 + a0) aab (b1.rdrw 0 rfl) [(str ((el a1 (a2 + a0)).1)), (str ((el a1 (a2 + a0)).2.1)), (Vb ((el a1 (a2 + a0)).2.2))] b9 krf krf krf krf (by decide) (wl (abq (by exact trivial) (rt 20 (Vp (some (ea a5 ((a3 + a0).toNat * 3)))) rfl rfl (abc rfl (by intro w hS_; exact (alg a5 a1.length a6 46 3 .i64 (a3 + a0) Tryz.underlying22 krf krf krf (afn (l := a1) rfl b4) c2))) (ro 21 rfl (alh b1 0 a7 a5 a6 46 3 (a3 + a0) a1 ((el a1 (a2 + a0)).1, (el a1 (a2 + a0)).2.1, ((el a1 (a2 + a0)).2.2)) rfl aab [(str ((el a1 (a2 + a0)).1)), (str ((el a1 (a2 + a0)).2.1)), (Vb ((el a1 (a2 + a0)).2.2))] c3 krf krf krf (by decide) krf fun b5 a9 => ?_)))))))))
  replace a9 : Hp w (abf [rwt aaa 46 3 a7 a5 a6 a8]) [rwt aaa 46 3 a7 a5 a6 (zak a1 (zad (a3 + a0)) ((el a1 (a2 + a0)).1, (el a1 (a2 + a0)).2.1, ((el a1 (a2 + a0)).2.2)))] b5 := a9
  refine wl (abq (by exact trivial) (adi krf (gi a4 fun d5 a4 => ahu a5 a1.length a6 46 3 .i64 (a2 + a0) Tryz.underlying22 krf krf krf (zak a1 (zad (a3 + a0)) ((el a1 (a2 + a0)).1, (el a1 (a2 + a0)).2.1, ((el a1 (a2 + a0)).2.2))) (by first | rfl | (simp; done) | omega | (simp; omega) | (rw [zah]; omega)) d5 (a9.rdrw 0 rfl) aab (by decide) (gi a4 fun d6 a4 => alh a9 0 a7 a5 a6 46 3 (a2 + a0) (zak a1 (zad (a3 + a0)) ((el a1 (a2 + a0)).1, (el a1 (a2 + a0)).2.1, ((el a1 (a2 + a0)).2.2))) ((el a1 (a3 + a0)).1, (el a1 (a3 + a0)).2.1, ((el a1 (a3 + a0)).2.2)) rfl aab [(str ((el a1 (a3 + a0)).1)), (str ((el a1 (a3 + a0)).2.1)), (Vb ((el a1 (a3 + a0)).2.2))] d6 krf krf krf (by decide) krf fun d7 b7 => ?_))))
  replace b7 : Hp w (abf [rwt aaa 46 3 a7 a5 a6 a8]) [rwt aaa 46 3 a7 a5 a6 (zak (zak a1 (zad (a3 + a0)) ((el a1 (a2 + a0)).1, (el a1 (a2 + a0)).2.1, ((el a1 (a2 + a0)).2.2))) (zad (a2 + a0)) ((el a1 (a3 + a0)).1, (el a1 (a3 + a0)).2.1, ((el a1 (a3 + a0)).2.2)))] d7 := b7
  refine wl (bn (qn (cr (wp 1 (gi a4 fun d8 a4 => aah a0 (1 : Int) krf krf d8 (wp 1 (wl (ql ?_))))))))
  exact ⟨(b0, zak (zak a1 (zad (a3 + a0)) ((el a1 (a2 + a0)).1, (el a1 (a2 + a0)).2.1, ((el a1 (a2 + a0)).2.2))) (zad (a2 + a0)) ((el a1 (a3 + a0)).1, (el a1 (a3 + a0)).2.1, ((el a1 (a3 + a0)).2.2)), a0 + (1 : Int)), _, rfl, (mc (Eq.trans (b := (Vs a5 a1.length a6)) krf (aaj lsy)) (mc krf (mc krf (mc krf (mc krf rfl))))), ⟨b7.kp, lsz, a4⟩, zac _⟩
  refine ace (acd (acq (acf ?_)))
  obtain rfl := oi a4
  refine ajb  rfl  ?_
  exact ⟨(by first | rfl | (simp; done) | (simp; omega)), lsz, b2.kp⟩
theorem air {fu : Nat} {a6 : List (Str × Str × Bool)} {b2 : Int} {a4 : Int} {b3 : Int} (a3 : Option Nat) (a0 : Option Addr) (a1 : Nat) {w : World} {r : List (Str × Str × Bool)} (hr : aeb fu a6 b2 a4 b3 = some r) (hG : Gl w) (hM : Hp w (abf [rwt aaa 46 3 a3 a0 a1 a6]) [rwt aaa 46 3 a3 a0 a1 a6] w) (hS : ∀ b ∈ abf [rwt aaa 46 3 a3 a0 a1 a6], 9 ≤ b) : CR Tryz.prog 262 [(Vs a0 a6.length a1), (Vi .i64 b2), (Vi .i64 a4), (Vi .i64 b3), (zan (.func 164) #[] #[])] w fun v w' => v = (zal #[]) ∧ r.length = a6.length ∧ Hp w (abf [rwt aaa 46 3 a3 a0 a1 a6]) [rwt aaa 46 3 a3 a0 a1 r] w' := by
  have hH : Hp w (abf [rwt aaa 46 3 a3 a0 a1 a6]) [rwt aaa 46 3 a3 a0 a1 a6] w := hM
  refine enter (k := 58) Tryz.func262 rfl rfl nbe ?_
  unfold aeb at hr
  refine sr (wp 2 (gi hr fun g1 hr => adg a4 b2 krf krf g1 (wp 1 (nq (sr ?_)))))
  refine wp 2 (gi hr fun g2 hr => adg b3 a4 krf krf g2 (wp 1 (nq (bi hr fun b5 c1 hr => cut (σ := ((List (Str × Str × Bool)) × Int)) [0, 2, 4, 10] (fun a9 => [(0, (Vs a0 a9.1.length a1)), (10, (Vi .i64 a9.2))]) (fun a9 w' => Hp w (abf [rwt aaa 46 3 a3 a0 a1 a6]) [rwt aaa 46 3 a3 a0 a1 a9.1] w' ∧ a9.1.length = a6.length ∧ a9 = b5) ?_ ?_))))
  refine ce (lpG (σ := Nat × (List (Str × Str × Bool)) × Int × Int) [0, 2, 4, 10, 11] (fun ⟨b1, a7, a5, a8⟩ => [(0, (Vs a0 a7.length a1)), (10, (Vi .i64 a5)), (11, (Vi .i64 a8))]) (fun ⟨b1, a7, a5, a8⟩ w' => Hp w (abf [rwt aaa 46 3 a3 a0 a1 a6]) [rwt aaa 46 3 a3 a0 a1 a7] w' ∧ a7.length = a6.length ∧ abs fu a4 b1 a7 a5 a8 = some b5) (fun ⟨b1, a7, a5, a8⟩ => b1) (fu, a6, a4 - b2, b3 - a4) (by exact ⟨hH.kp, lsz, c1⟩) ?_)
  rintro ⟨_ | b1, a7, a5, a8⟩ e1 G ⟨b0, e2, a2⟩
  · exact nzz a2
  rw [abs.eq_2] at a2
  refine cs (sr (wp 3 (nq (cn a2 (fun c2 a2 => ?_) (fun c2 a2 => ?_)))))
  refine ck (qn (ce (sr (wp 3 (nq (cd a2 (fun c3 a2 => ?_) (fun c3 a2 => ?_)))))))
  refine sr (wp 3 (gi a2 fun c4 a2 => adg a4 a5 krf krf c4 (wp 3 (bi a2 fun b6 c5 a2 => aat 270 #[] [(Vs a0 a7.length a1), (Vi .i64 (a4 - a5)), (Vi .i64 a4), (Vi .i64 a8), (zan (.func 164) #[] #[])] _ ent270 krf krf (adh a3 a0 a1 c5 (hG.hp b0 hS) (b0.hand (L1 := [rwt aaa 46 3 a3 a0 a1 a7]) (L2 := [])) (b0.highs hG hS 1 rfl)) ?_))))
  rintro _ c6 ⟨rfl, e3, b7⟩
  have c7 : Hp w (abf [rwt aaa 46 3 a3 a0 a1 a6]) [rwt aaa 46 3 a3 a0 a1 b6] c6 := Hp.callK (L1 := [rwt aaa 46 3 a3 a0 a1 a7]) (L2 := []) b0 b7; clear b7
  refine nq (cr (wp 2 (gi a2 fun c8 a2 => adg a5 a8 krf krf c8 (wp 1 (wl (bn (ql ?_)))))))
  exact ⟨(b1, b6, a5 - a8, a8), _, rfl, (mc (Eq.trans (b := (Vs a0 a7.length a1)) krf (aaj lsy)) (mc krf (mc krf (mc krf (mc krf rfl))))), ⟨c7.kp, lsz, a2⟩, zac _⟩
  refine sr (wp 3 (gi a2 fun c9 a2 => adg a4 a5 krf krf c9 (wp 2 (gi a2 fun d0 a2 => aah a4 a8 krf krf d0 (wp 1 (gi a2 fun d1 a2 => ?_))))))
  refine adg (a4 + a8) a5 krf krf d1 (wp 2 (bi a2 fun b8 d2 a2 => aat 270 #[] [(Vs a0 a7.length a1), (Vi .i64 (a4 - a5)), (Vi .i64 ((a4 + a8) - a5)), (Vi .i64 a5), (zan (.func 164) #[] #[])] _ ent270 krf krf (adh a3 a0 a1 d2 (hG.hp b0 hS) (b0.hand (L1 := [rwt aaa 46 3 a3 a0 a1 a7]) (L2 := [])) (b0.highs hG hS 1 rfl)) ?_))
  rintro _ d3 ⟨rfl, e4, b9⟩
  have d4 : Hp w (abf [rwt aaa 46 3 a3 a0 a1 a6]) [rwt aaa 46 3 a3 a0 a1 b8] d3 := Hp.callK (L1 := [rwt aaa 46 3 a3 a0 a1 a7]) (L2 := []) b0 b9; clear b9
  refine nq (cr (wp 2 (gi a2 fun d5 a2 => adg a8 a5 krf krf d5 (wp 1 (wl (bn (ql ?_)))))))
  exact ⟨(b1, b8, a5, a8 - a5), _, rfl, (mc (Eq.trans (b := (Vs a0 a7.length a1)) krf (aaj lsy)) (mc krf (mc krf (mc krf (mc krf rfl))))), ⟨d4.kp, lsz, a2⟩, zac _⟩
  refine ace (acd (acq (acf (ql ?_))))
  obtain rfl := oi a2
  exact ⟨(a7, a5), _, rfl, by kernel_rfl, b0.kp, lsz, rfl⟩
  rintro a9 e5 G ⟨b4, e6, rfl⟩
  refine cr (wp 3 (gi hr fun d6 hr => adg a4 a9.2 krf krf d6 (wp 3 (bi hr fun d7 d8 hr => aat 270 #[] [(Vs a0 a9.1.length a1), (Vi .i64 (a4 - a9.2)), (Vi .i64 a4), (Vi .i64 a9.2), (zan (.func 164) #[] #[])] _ ent270 krf krf (adh a3 a0 a1 d8 (hG.hp b4 hS) (b4.hand (L1 := [rwt aaa 46 3 a3 a0 a1 a9.1]) (L2 := [])) (b4.highs hG hS 1 rfl)) ?_))))
  rintro _ d9 ⟨rfl, e7, c0⟩
  have e0 : Hp w (abf [rwt aaa 46 3 a3 a0 a1 a6]) [rwt aaa 46 3 a3 a0 a1 d7] d9 := Hp.callK (L1 := [rwt aaa 46 3 a3 a0 a1 a9.1]) (L2 := []) b4 c0; clear c0
  refine wl ?_
  obtain rfl := oi hr
  refine ajb  rfl  ?_
  exact ⟨(by first | rfl | (simp; done) | (simp; omega)), lsz, e0.kp⟩
theorem afd : ∀ {fu : Nat} {a5 : List (Str × Str × Bool)} {a8 : Int} {a9 : Int} {b2 : Int} (a7 : Option Nat) (a0 : Option Addr) (a6 : Nat) {w : World} {r : List (Str × Str × Bool)} (hr : abe fu a5 a8 a9 b2 = some r) (hG : Gl w) (hM : Hp w (abf [rwt aaa 46 3 a7 a0 a6 a5]) [rwt aaa 46 3 a7 a0 a6 a5] w) (hS : ∀ b ∈ abf [rwt aaa 46 3 a7 a0 a6 a5], 9 ≤ b), CR Tryz.prog 242 [(Vs a0 a5.length a6), (Vi .i64 a8), (Vi .i64 a9), (Vi .i64 b2), (zan (.func 164) #[] #[])] w fun v w' => v = (zal #[]) ∧ r.length = a5.length ∧ Hp w (abf [rwt aaa 46 3 a7 a0 a6 a5]) [rwt aaa 46 3 a7 a0 a6 r] w' := by
  intro fu
  induction fu with
  | zero =>
    intro a5 a8 a9 b2 a7 a0 a6 w r hr hG hM hS
    exact nzz hr
  | succ fu ih =>
  intro a5 a8 a9 b2 a7 a0 a6 w r hr hG hM hS
  have hH : Hp w (abf [rwt aaa 46 3 a7 a0 a6 a5]) [rwt aaa 46 3 a7 a0 a6 a5] w := hM
  refine enter (k := 220) Tryz.func242 rfl rfl nbe ?_
  rw [abe.eq_2] at hr
  refine bi hr fun j5 c3 hr => cut1 hH j5 [0, 1, 2, 3, 4] (fun j6 => []) ?_ ?_
  refine sr (wp 2 (gi c3 fun j7 c3 => adg a9 a8 krf krf j7 (wp 1 (nq (cd c3 (fun j8 c3 => ?_) (fun j8 c3 => ?_))))))
  refine sr (wp 2 (nq (sr (wp 2 (nq ?_)))))
  refine bi c3 fun f1 j9 c3 => agq hH [0, 1, 2, 3, 4, 10] [(10, (Vi .i64 f1))] ?_ ?_
  refine ce (lpS (fun g4 ⟨b8, b9⟩ => abl fu a5 a8 g4 b8 b9) (a9, b2) hH j9 [0, 1, 2, 3, 4, 10, 11] (fun ⟨b8, b9⟩ => [(10, (Vi .i64 b8)), (11, (Vi .i64 b9))]) (fun _ => rfl) ?_)
  rintro g4 ⟨b8, b9⟩ t4 G g5 b6
  dsimp only at b6
  rw [abl.eq_2] at b6
  refine cs (sr (wp 3 (nq (cd b6 (fun k0 b6 => ?_) (fun k0 b6 => ?_)))))
  refine ck (qn (ce (sr (wp 2 (gi b6 fun k1 b6 => aah b8 b9 krf krf k1 (anw .u64 .i64 (b8 + b9) Tryz.underlying3 Tryz.underlying172 krf (w_shr .u64 .u64 (zab .u64 (b8 + b9)) (1 : Int) 2 krf krf (by decide) (by decide) (by decide) ?_)))))))
  refine anw .i64 .u64 ((zab .u64 (b8 + b9)) / 2) Tryz.underlying172 Tryz.underlying3 krf (wp 1 (nq (cs (gi b6 fun k2 b6 => gi b6 fun k3 b6 => gi b6 fun k4 b6 => gi b6 fun k5 b6 => adu 9 (fun j_ w_ w_' => aax [4, 9, 10] (fun w' => Rd w' a0 (zai aaa a5)) j_ w_ w_' ∧ aax [9, 10] (fun w' => Rd w' a0 (zai aaa a5)) j_ w_ w_' ∧ aax [8, 9, 10] (fun w' => Rd w' a0 (zai aaa a5)) j_ w_ w_' ∧ True) [false, false, false, false, false, false, false, false, false, false, false] (fun _ _ => ⟨aax.same, aax.same, aax.same, trivial⟩) krf krf g5 rfl (acz (aas (aaq (aas (aaq (aaq acy)))))) fun t5 d3 => ?_))))
  refine rp 6 [0, 1, 2] (aak [true, true, true, true, false, false, false, false, false, false, false] 3 43 (Vp (some (ea a0 ((zab .i64 ((zab .u64 (b8 + b9)) / 2)).toNat * 3)))) [4, 9, 10] (fun _ _ _ h => h.1) _ rfl rfl krf krf krf krf krf rfl (abc rfl (by intro w hS_; exact (apd a0 a5.length a6 46 3 .i64 (zab .i64 ((zab .u64 (b8 + b9)) / 2)) Tryz.underlying22 krf krf krf a5 rfl k2 hS_ aab (by decide)))) (by exact (d3.rdrw 0 rfl)) (aak [true, true, true, true, true, false, false, false, false, false, false] 4 44 (zam #[(str ((el a5 (zab .i64 ((zab .u64 (b8 + b9)) / 2))).1)), (str ((el a5 (zab .i64 ((zab .u64 (b8 + b9)) / 2))).2.1)), (Vb ((el a5 (zab .i64 ((zab .u64 (b8 + b9)) / 2))).2.2))]) [9, 10] (fun _ _ _ h => h.2.1) _ rfl rfl krf krf krf krf krf rfl (abc rfl (by intro w hS_; exact (apw a0 aaa a5 3 (zab .i64 ((zab .u64 (b8 + b9)) / 2)) aab hS_ [(str ((el a5 (zab .i64 ((zab .u64 (b8 + b9)) / 2))).1)), (str ((el a5 (zab .i64 ((zab .u64 (b8 + b9)) / 2))).2.1)), (Vb ((el a5 (zab .i64 ((zab .u64 (b8 + b9)) / 2))).2.2))] k3 krf krf krf krf (by decide)))) (by exact (d3.rdrw 0 rfl)) (rp 2 [5, 6] (aak [true, true, true, true, true, true, true, true, false, false, false] 7 47 (Vp (some (ea a0 (a8.toNat * 3)))) [8, 9, 10] (fun _ _ _ h => h.2.2.1) _ rfl rfl krf krf krf krf krf rfl (abc rfl (by intro w hS_; exact (apd a0 a5.length a6 46 3 .i64 a8 Tryz.underlying22 krf krf krf a5 rfl k4 hS_ aab (by decide)))) (by exact (d3.rdrw 0 rfl)) (aak [true, true, true, true, true, true, true, true, true, false, false] 8 48 (zam #[(str ((el a5 a8).1)), (str ((el a5 a8).2.1)), (Vb ((el a5 a8).2.2))]) [9, 10] (fun _ _ _ h => h.2.1) _ rfl rfl krf krf krf krf krf rfl (abc rfl (by intro w hS_; exact (apw a0 aaa a5 3 a8 aab hS_ [(str ((el a5 a8).1)), (str ((el a5 a8).2.1)), (Vb ((el a5 a8).2.2))] k5 krf krf krf krf (by decide)))) (by exact (d3.rdrw 0 rfl)) (adi krf (bi b6 fun t6 k6 b6 => wc ent164 d3 (aix k6 (hG.hp d3 hS)) fun t7 g6 => wp 1 ?_)))))))
  refine nq (cd b6 (fun k7 b6 => ?_) (fun k7 b6 => ?_))
  exact cr (wp 1 (gi b6 fun k8 b6 => aah (zab .i64 ((zab .u64 (b8 + b9)) / 2)) (1 : Int) krf krf k8 (wp 1 (wl (bn (ql (le' ((zab .i64 ((zab .u64 (b8 + b9)) / 2)) + (1 : Int), b9) g6.kp b6)))))))
  exact cr (wp 2 (wl (bn (ql (le' (b8, zab .i64 ((zab .u64 (b8 + b9)) / 2)) g6.kp b6)))))
  refine ace (acd (acq (acf (ql ?_))))
  obtain rfl := oi b6
  exact je g5.kp
  intro t8 G k9
  refine bi c3 fun g7 l0 c3 => cut (σ := (List (Str × Str × Bool))) [0, 1, 2, 3, 4] (fun d4 => [(0, (Vs a0 d4.length a6))]) (fun d4 w' => Hp w (abf [rwt aaa 46 3 a7 a0 a6 a5]) [rwt aaa 46 3 a7 a0 a6 d4] w' ∧ d4.length = a5.length ∧ d4 = g7) ?_ ?_
  refine sr (wp 2 (nq (ce (lpG (σ := Nat × (List (Str × Str × Bool)) × Int) [0, 1, 2, 3, 4, 10, 13] (fun ⟨d0, a3, a1⟩ => [(0, (Vs a0 a3.length a6)), (13, (Vi .i64 a1))]) (fun ⟨d0, a3, a1⟩ w' => Hp w (abf [rwt aaa 46 3 a7 a0 a6 a5]) [rwt aaa 46 3 a7 a0 a6 a3] w' ∧ a3.length = a5.length ∧ acm fu f1 d0 a3 a1 = some g7) (fun ⟨d0, a3, a1⟩ => d0) (fu, a5, a8) (by exact ⟨k9.kp, lsz, l0⟩) ?_))))
  rintro ⟨_ | d0, a3, a1⟩ t9 G ⟨e1, u0, b0⟩
  · exact nzz b0
  rw [acm.eq_2] at b0
  refine cs (sr (wp 2 (gi b0 fun l1 b0 => adg f1 (1 : Int) krf krf l1 (wp 1 (nq (cd b0 (fun l2 b0 => ?_) (fun l2 b0 => ?_)))))))
  refine ck (qn (cs (ce (gi b0 fun l3 b0 => gi b0 fun l4 b0 => gi b0 fun g8 b0 => ?_))))
  have l5 := afy (e1.rdrw 0 rfl) aab (by decide) g8
  refine gi b0 fun g9 b0 => gi b0 fun h0 b0 => ?_
  have l6 := afy (e1.rdrw 0 rfl) aab (by decide) h0
  refine gi b0 fun h1 b0 => gi b0 fun f2 b0 => ?_
  have h2 := afy (e1.rdrw 0 rfl) aab (by decide) f2
  refine gi b0 fun h3 b0 => cdr 16 e1 (aas (acz (aaq (aas (aaq (aaq acy)))))) fun u1 d5 => rp 12 [0, 1, 2, 3] (rt 4 (Vi .i64 (a1 + (1 : Int))) rfl rfl (abc rfl (by intro w hS_; exact (alv a1 (1 : Int) krf krf l3))) (rp 9 [5, 6] (rt 7 (Vi .i64 (a1 + (1 : Int))) rfl rfl (abc rfl (by intro w hS_; exact (alv a1 (1 : Int) krf krf l4))) (rt 8 (Vp (some (ea a0 ((a1 + (1 : Int)).toNat * 3)))) rfl rfl (abc rfl (by intro w hS_; exact (alg a0 a3.length a6 46 3 .i64 (a1 + (1 : Int)) Tryz.underlying22 krf krf krf (afn (l := a3) rfl g8) l5))) (rp 5 [10, 11] (rt 12 (Vp (some (ea a0 (a1.toNat * 3)))) rfl rfl (abc rfl (by intro w hS_; exact (alg a0 a3.length a6 46 3 .i64 a1 Tryz.underlying22 krf krf krf (afn (l := a3) rfl h0) l6))) (r_one2 [true, true, true, true, true, true, true, true, true, true, true, true, true, false, false, false, false, false] [true, true, true, true, true, true, true, true, true, false, true, true, true, true, false, false, false, false] 9 13 _ _ rfl rfl krf krf krf rfl rfl ?_ ?_)))))))
  refine aiy a0 aaa a3 3 (a1 + (1 : Int)) aab (d5.rdrw 0 rfl) [(str ((el a3 (a1 + (1 : Int))).1)), (str ((el a3 (a1 + (1 : Int))).2.1)), (Vb ((el a3 (a1 + (1 : Int))).2.2))] g9 krf krf krf krf (by decide) (wl (abq (by exact trivial) (ro 13 rfl (aiy a0 aaa a3 3 a1 aab (d5.rdrw 0 rfl) [(str ((el a3 a1).1)), (str ((el a3 a1).2.1)), (Vb ((el a3 a1).2.2))] h1 krf krf krf krf (by decide) (wl (abq (by exact trivial) (rt 14 (Vp (some (ea a0 (a1.toNat * 3)))) rfl rfl (abc rfl (by intro w hS_; exact (alg a0 a3.length a6 46 3 .i64 a1 Tryz.underlying22 krf krf krf (afn (l := a3) rfl f2) h2))) (ro 15 rfl (alh d5 0 a7 a0 a6 46 3 a1 a3 ((el a3 (a1 + (1 : Int))).1, (el a3 (a1 + (1 : Int))).2.1, ((el a3 (a1 + (1 : Int))).2.2)) rfl aab [(str ((el a3 (a1 + (1 : Int))).1)), (str ((el a3 (a1 + (1 : Int))).2.1)), (Vb ((el a3 (a1 + (1 : Int))).2.2))] h3 krf krf krf (by decide) krf fun f3 c5 => ?_)))))))))
  replace c5 : Hp w (abf [rwt aaa 46 3 a7 a0 a6 a5]) [rwt aaa 46 3 a7 a0 a6 (zak a3 (zad a1) ((el a3 (a1 + (1 : Int))).1, (el a3 (a1 + (1 : Int))).2.1, ((el a3 (a1 + (1 : Int))).2.2)))] f3 := c5
  refine wl (abq (by exact trivial) (adi krf (gi b0 fun l7 b0 => ahu a0 a3.length a6 46 3 .i64 (a1 + (1 : Int)) Tryz.underlying22 krf krf krf (zak a3 (zad a1) ((el a3 (a1 + (1 : Int))).1, (el a3 (a1 + (1 : Int))).2.1, ((el a3 (a1 + (1 : Int))).2.2))) (by first | rfl | (simp; done) | omega | (simp; omega) | (rw [zah]; omega)) l7 (c5.rdrw 0 rfl) aab (by decide) (gi b0 fun l8 b0 => alh c5 0 a7 a0 a6 46 3 (a1 + (1 : Int)) (zak a3 (zad a1) ((el a3 (a1 + (1 : Int))).1, (el a3 (a1 + (1 : Int))).2.1, ((el a3 (a1 + (1 : Int))).2.2))) ((el a3 a1).1, (el a3 a1).2.1, ((el a3 a1).2.2)) rfl aab [(str ((el a3 a1).1)), (str ((el a3 a1).2.1)), (Vb ((el a3 a1).2.2))] l8 krf krf krf (by decide) krf fun l9 f4 => ?_))))
  replace f4 : Hp w (abf [rwt aaa 46 3 a7 a0 a6 a5]) [rwt aaa 46 3 a7 a0 a6 (zak (zak a3 (zad a1) ((el a3 (a1 + (1 : Int))).1, (el a3 (a1 + (1 : Int))).2.1, ((el a3 (a1 + (1 : Int))).2.2))) (zad (a1 + (1 : Int))) ((el a3 a1).1, (el a3 a1).2.1, ((el a3 a1).2.2)))] l9 := f4
  refine wl (bn (qn (cr (wp 1 (gi b0 fun m0 b0 => aah a1 (1 : Int) krf krf m0 (wp 1 (wl (ql ?_))))))))
  exact ⟨(d0, zak (zak a3 (zad a1) ((el a3 (a1 + (1 : Int))).1, (el a3 (a1 + (1 : Int))).2.1, ((el a3 (a1 + (1 : Int))).2.2))) (zad (a1 + (1 : Int))) ((el a3 a1).1, (el a3 a1).2.1, ((el a3 a1).2.2)), a1 + (1 : Int)), _, rfl, (mc (Eq.trans (b := (Vs a0 a3.length a6)) krf (aaj lsy)) (mc krf (mc krf (mc krf (mc krf (mc krf (mc krf rfl))))))), ⟨f4.kp, lsz, b0⟩, zac _⟩
  refine aiy a0 aaa a3 3 a1 aab (d5.rdrw 0 rfl) [(str ((el a3 a1).1)), (str ((el a3 a1).2.1)), (Vb ((el a3 a1).2.2))] h1 krf krf krf krf (by decide) (wl (abq (by exact trivial) (ro 9 rfl (aiy a0 aaa a3 3 (a1 + (1 : Int)) aab (d5.rdrw 0 rfl) [(str ((el a3 (a1 + (1 : Int))).1)), (str ((el a3 (a1 + (1 : Int))).2.1)), (Vb ((el a3 (a1 + (1 : Int))).2.2))] g9 krf krf krf krf (by decide) (wl (abq (by exact trivial) (rt 14 (Vp (some (ea a0 (a1.toNat * 3)))) rfl rfl (abc rfl (by intro w hS_; exact (alg a0 a3.length a6 46 3 .i64 a1 Tryz.underlying22 krf krf krf (afn (l := a3) rfl f2) h2))) (ro 15 rfl (alh d5 0 a7 a0 a6 46 3 a1 a3 ((el a3 (a1 + (1 : Int))).1, (el a3 (a1 + (1 : Int))).2.1, ((el a3 (a1 + (1 : Int))).2.2)) rfl aab [(str ((el a3 (a1 + (1 : Int))).1)), (str ((el a3 (a1 + (1 : Int))).2.1)), (Vb ((el a3 (a1 + (1 : Int))).2.2))] h3 krf krf krf (by decide) krf fun f3 c5 => ?_)))))))))
  replace c5 : Hp w (abf [rwt aaa 46 3 a7 a0 a6 a5]) [rwt aaa 46 3 a7 a0 a6 (zak a3 (zad a1) ((el a3 (a1 + (1 : Int))).1, (el a3 (a1 + (1 : Int))).2.1, ((el a3 (a1 + (1 : Int))).2.2)))] f3 := c5
  refine wl (abq (by exact trivial) (adi krf (gi b0 fun m1 b0 => ahu a0 a3.length a6 46 3 .i64 (a1 + (1 : Int)) Tryz.underlying22 krf krf krf (zak a3 (zad a1) ((el a3 (a1 + (1 : Int))).1, (el a3 (a1 + (1 : Int))).2.1, ((el a3 (a1 + (1 : Int))).2.2))) (by first | rfl | (simp; done) | omega | (simp; omega) | (rw [zah]; omega)) m1 (c5.rdrw 0 rfl) aab (by decide) (gi b0 fun m2 b0 => alh c5 0 a7 a0 a6 46 3 (a1 + (1 : Int)) (zak a3 (zad a1) ((el a3 (a1 + (1 : Int))).1, (el a3 (a1 + (1 : Int))).2.1, ((el a3 (a1 + (1 : Int))).2.2))) ((el a3 a1).1, (el a3 a1).2.1, ((el a3 a1).2.2)) rfl aab [(str ((el a3 a1).1)), (str ((el a3 a1).2.1)), (Vb ((el a3 a1).2.2))] m2 krf krf krf (by decide) krf fun m3 f5 => ?_))))
  replace f5 : Hp w (abf [rwt aaa 46 3 a7 a0 a6 a5]) [rwt aaa 46 3 a7 a0 a6 (zak (zak a3 (zad a1) ((el a3 (a1 + (1 : Int))).1, (el a3 (a1 + (1 : Int))).2.1, ((el a3 (a1 + (1 : Int))).2.2))) (zad (a1 + (1 : Int))) ((el a3 a1).1, (el a3 a1).2.1, ((el a3 a1).2.2)))] m3 := f5
  refine wl (bn (qn (cr (wp 1 (gi b0 fun m4 b0 => aah a1 (1 : Int) krf krf m4 (wp 1 (wl (ql ?_))))))))
  exact ⟨(d0, zak (zak a3 (zad a1) ((el a3 (a1 + (1 : Int))).1, (el a3 (a1 + (1 : Int))).2.1, ((el a3 (a1 + (1 : Int))).2.2))) (zad (a1 + (1 : Int))) ((el a3 a1).1, (el a3 a1).2.1, ((el a3 a1).2.2)), a1 + (1 : Int)), _, rfl, (mc (Eq.trans (b := (Vs a0 a3.length a6)) krf (aaj lsy)) (mc krf (mc krf (mc krf (mc krf (mc krf (mc krf rfl))))))), ⟨f5.kp, lsz, b0⟩, zac _⟩
  refine ace (acd (acq (acf (ql ?_))))
  obtain rfl := oi b0
  exact ⟨a3, _, rfl, by kernel_rfl, e1.kp, lsz, rfl⟩
  rintro d4 u2 G ⟨m5, u3, rfl⟩
  refine ct (adl ?_)
  obtain rfl := oi c3
  obtain rfl := oi hr
  refine r_none  rfl  ?_
  exact ⟨(by first | rfl | (simp; done) | (simp; omega)), lsz, m5.kp⟩
  refine ck (ql ?_)
  obtain rfl := oi c3
  exact je1 rfl hH.kp
  rintro j6 u4 G e9 rfl
  refine bi hr fun m6 c4 hr => cut1 e9 m6 [0, 1, 2, 3, 4] (fun m7 => []) ?_ ?_
  refine sr (wp 2 (gi c4 fun m8 c4 => adg b2 a9 krf krf m8 (wp 1 (nq (cd c4 (fun m9 c4 => ?_) (fun m9 c4 => ?_))))))
  refine sr (wp 2 (nq (sr (wp 2 (nq ?_)))))
  refine bi c4 fun h4 n0 c4 => agq e9 [0, 1, 2, 3, 4, 14] [(14, (Vi .i64 h4))] ?_ ?_
  refine ce (lpS (fun h5 ⟨c0, c1⟩ => abk fu a5 a9 h5 c0 c1) (a8, a9) e9 n0 [0, 1, 2, 3, 4, 14, 15] (fun ⟨c0, c1⟩ => [(14, (Vi .i64 c0)), (15, (Vi .i64 c1))]) (fun _ => rfl) ?_)
  rintro h5 ⟨c0, c1⟩ u5 G h6 b7
  dsimp only at b7
  rw [abk.eq_2] at b7
  refine cs (sr (wp 3 (nq (cd b7 (fun n1 b7 => ?_) (fun n1 b7 => ?_)))))
  refine ck (qn (ce (sr (wp 2 (gi b7 fun n2 b7 => aah c0 c1 krf krf n2 (anw .u64 .i64 (c0 + c1) Tryz.underlying3 Tryz.underlying172 krf (w_shr .u64 .u64 (zab .u64 (c0 + c1)) (1 : Int) 2 krf krf (by decide) (by decide) (by decide) ?_)))))))
  refine anw .i64 .u64 ((zab .u64 (c0 + c1)) / 2) Tryz.underlying172 Tryz.underlying3 krf (wp 1 (nq (cs (gi b7 fun n3 b7 => gi b7 fun n4 b7 => gi b7 fun n5 b7 => gi b7 fun n6 b7 => adu 9 (fun j_ w_ w_' => aax [4, 9, 10, 11] (fun w' => Rd w' a0 (zai aaa a5)) j_ w_ w_' ∧ aax [9, 10, 11] (fun w' => Rd w' a0 (zai aaa a5)) j_ w_ w_' ∧ aax [8, 9, 10, 11] (fun w' => Rd w' a0 (zai aaa a5)) j_ w_ w_' ∧ True) [false, false, false, false, false, false, false, false, false, false, false, false] (fun _ _ => ⟨aax.same, aax.same, aax.same, trivial⟩) krf krf h6 rfl (acz (aas (aaq (aas (aaq (aaq acy)))))) fun u6 d6 => ?_))))
  refine rp 6 [0, 1, 2] (aak [true, true, true, true, false, false, false, false, false, false, false, false] 3 95 (Vp (some (ea a0 (a9.toNat * 3)))) [4, 9, 10, 11] (fun _ _ _ h => h.1) _ rfl rfl krf krf krf krf krf rfl (abc rfl (by intro w hS_; exact (apd a0 a5.length a6 46 3 .i64 a9 Tryz.underlying22 krf krf krf a5 rfl n3 hS_ aab (by decide)))) (by exact (d6.rdrw 0 rfl)) (aak [true, true, true, true, true, false, false, false, false, false, false, false] 4 96 (zam #[(str ((el a5 a9).1)), (str ((el a5 a9).2.1)), (Vb ((el a5 a9).2.2))]) [9, 10, 11] (fun _ _ _ h => h.2.1) _ rfl rfl krf krf krf krf krf rfl (abc rfl (by intro w hS_; exact (apw a0 aaa a5 3 a9 aab hS_ [(str ((el a5 a9).1)), (str ((el a5 a9).2.1)), (Vb ((el a5 a9).2.2))] n4 krf krf krf krf (by decide)))) (by exact (d6.rdrw 0 rfl)) (rp 2 [5, 6] (aak [true, true, true, true, true, true, true, true, false, false, false, false] 7 99 (Vp (some (ea a0 ((zab .i64 ((zab .u64 (c0 + c1)) / 2)).toNat * 3)))) [8, 9, 10, 11] (fun _ _ _ h => h.2.2.1) _ rfl rfl krf krf krf krf krf rfl (abc rfl (by intro w hS_; exact (apd a0 a5.length a6 46 3 .i64 (zab .i64 ((zab .u64 (c0 + c1)) / 2)) Tryz.underlying22 krf krf krf a5 rfl n5 hS_ aab (by decide)))) (by exact (d6.rdrw 0 rfl)) (aak [true, true, true, true, true, true, true, true, true, false, false, false] 8 100 (zam #[(str ((el a5 (zab .i64 ((zab .u64 (c0 + c1)) / 2))).1)), (str ((el a5 (zab .i64 ((zab .u64 (c0 + c1)) / 2))).2.1)), (Vb ((el a5 (zab .i64 ((zab .u64 (c0 + c1)) / 2))).2.2))]) [9, 10, 11] (fun _ _ _ h => h.2.1) _ rfl rfl krf krf krf krf krf rfl (abc rfl (by intro w hS_; exact (apw a0 aaa a5 3 (zab .i64 ((zab .u64 (c0 + c1)) / 2)) aab hS_ [(str ((el a5 (zab .i64 ((zab .u64 (c0 + c1)) / 2))).1)), (str ((el a5 (zab .i64 ((zab .u64 (c0 + c1)) / 2))).2.1)), (Vb ((el a5 (zab .i64 ((zab .u64 (c0 + c1)) / 2))).2.2))] n6 krf krf krf krf (by decide)))) (by exact (d6.rdrw 0 rfl)) (adi krf (bi b7 fun u7 n7 b7 => wc ent164 d6 (aix n7 (hG.hp d6 hS)) fun u9 h7 => wp 2 ?_)))))))
  refine nq (cn b7 (fun n8 b7 => ?_) (fun n8 b7 => ?_))
  exact cr (wp 1 (gi b7 fun n9 b7 => aah (zab .i64 ((zab .u64 (c0 + c1)) / 2)) (1 : Int) krf krf n9 (wp 1 (wl (bn (ql (le' ((zab .i64 ((zab .u64 (c0 + c1)) / 2)) + (1 : Int), c1) h7.kp b7)))))))
  exact cr (wp 2 (wl (bn (ql (le' (c0, zab .i64 ((zab .u64 (c0 + c1)) / 2)) h7.kp b7)))))
  refine ace (acd (acq (acf (ql ?_))))
  obtain rfl := oi b7
  exact je h6.kp
  intro v0 G o0
  refine bi c4 fun h8 o1 c4 => cut (σ := (List (Str × Str × Bool))) [0, 1, 2, 3, 4] (fun d7 => [(0, (Vs a0 d7.length a6))]) (fun d7 w' => Hp w (abf [rwt aaa 46 3 a7 a0 a6 a5]) [rwt aaa 46 3 a7 a0 a6 d7] w' ∧ d7.length = a5.length ∧ d7 = h8) ?_ ?_
  refine sr (wp 2 (nq (ce (lpG (σ := Nat × (List (Str × Str × Bool)) × Int) [0, 1, 2, 3, 4, 14, 17] (fun ⟨d1, a4, a2⟩ => [(0, (Vs a0 a4.length a6)), (17, (Vi .i64 a2))]) (fun ⟨d1, a4, a2⟩ w' => Hp w (abf [rwt aaa 46 3 a7 a0 a6 a5]) [rwt aaa 46 3 a7 a0 a6 a4] w' ∧ a4.length = a5.length ∧ acl fu h4 d1 a4 a2 = some h8) (fun ⟨d1, a4, a2⟩ => d1) (fu, a5, a9) (by exact ⟨o0.kp, lsz, o1⟩) ?_))))
  rintro ⟨_ | d1, a4, a2⟩ v1 G ⟨e2, v2, b1⟩
  · exact nzz b1
  rw [acl.eq_2] at b1
  refine cs (sr (wp 3 (nq (cd b1 (fun o2 b1 => ?_) (fun o2 b1 => ?_)))))
  refine ck (qn (cs (ce (gi b1 fun o3 b1 => gi b1 fun o4 b1 => gi b1 fun h9 b1 => ?_))))
  have o5 := afy (e2.rdrw 0 rfl) aab (by decide) h9
  refine gi b1 fun i0 b1 => gi b1 fun i1 b1 => ?_
  have o6 := afy (e2.rdrw 0 rfl) aab (by decide) i1
  refine gi b1 fun i2 b1 => gi b1 fun f6 b1 => ?_
  have i3 := afy (e2.rdrw 0 rfl) aab (by decide) f6
  refine gi b1 fun i4 b1 => cdr 16 e2 (aas (acz (aaq (aas (aaq (aaq acy)))))) fun v3 d8 => rp 12 [0, 1, 2, 3] (rt 4 (Vi .i64 (a2 - (1 : Int))) rfl rfl (abc rfl (by intro w hS_; exact (amc a2 (1 : Int) krf krf o3))) (rp 9 [5, 6] (rt 7 (Vi .i64 (a2 - (1 : Int))) rfl rfl (abc rfl (by intro w hS_; exact (amc a2 (1 : Int) krf krf o4))) (rt 8 (Vp (some (ea a0 ((a2 - (1 : Int)).toNat * 3)))) rfl rfl (abc rfl (by intro w hS_; exact (alg a0 a4.length a6 46 3 .i64 (a2 - (1 : Int)) Tryz.underlying22 krf krf krf (afn (l := a4) rfl h9) o5))) (rp 5 [10, 11] (rt 12 (Vp (some (ea a0 (a2.toNat * 3)))) rfl rfl (abc rfl (by intro w hS_; exact (alg a0 a4.length a6 46 3 .i64 a2 Tryz.underlying22 krf krf krf (afn (l := a4) rfl i1) o6))) (r_one2 [true, true, true, true, true, true, true, true, true, true, true, true, true, false, false, false, false, false] [true, true, true, true, true, true, true, true, true, false, true, true, true, true, false, false, false, false] 9 13 _ _ rfl rfl krf krf krf rfl rfl ?_ ?_)))))))
  refine aiy a0 aaa a4 3 (a2 - (1 : Int)) aab (d8.rdrw 0 rfl) [(str ((el a4 (a2 - (1 : Int))).1)), (str ((el a4 (a2 - (1 : Int))).2.1)), (Vb ((el a4 (a2 - (1 : Int))).2.2))] i0 krf krf krf krf (by decide) (wl (abq (by exact trivial) (ro 13 rfl (aiy a0 aaa a4 3 a2 aab (d8.rdrw 0 rfl) [(str ((el a4 a2).1)), (str ((el a4 a2).2.1)), (Vb ((el a4 a2).2.2))] i2 krf krf krf krf (by decide) (wl (abq (by exact trivial) (rt 14 (Vp (some (ea a0 (a2.toNat * 3)))) rfl rfl (abc rfl (by intro w hS_; exact (alg a0 a4.length a6 46 3 .i64 a2 Tryz.underlying22 krf krf krf (afn (l := a4) rfl f6) i3))) (ro 15 rfl (alh d8 0 a7 a0 a6 46 3 a2 a4 ((el a4 (a2 - (1 : Int))).1, (el a4 (a2 - (1 : Int))).2.1, ((el a4 (a2 - (1 : Int))).2.2)) rfl aab [(str ((el a4 (a2 - (1 : Int))).1)), (str ((el a4 (a2 - (1 : Int))).2.1)), (Vb ((el a4 (a2 - (1 : Int))).2.2))] i4 krf krf krf (by decide) krf fun f7 c6 => ?_)))))))))
  replace c6 : Hp w (abf [rwt aaa 46 3 a7 a0 a6 a5]) [rwt aaa 46 3 a7 a0 a6 (zak a4 (zad a2) ((el a4 (a2 - (1 : Int))).1, (el a4 (a2 - (1 : Int))).2.1, ((el a4 (a2 - (1 : Int))).2.2)))] f7 := c6
  refine wl (abq (by exact trivial) (adi krf (gi b1 fun o7 b1 => ahu a0 a4.length a6 46 3 .i64 (a2 - (1 : Int)) Tryz.underlying22 krf krf krf (zak a4 (zad a2) ((el a4 (a2 - (1 : Int))).1, (el a4 (a2 - (1 : Int))).2.1, ((el a4 (a2 - (1 : Int))).2.2))) (by first | rfl | (simp; done) | omega | (simp; omega) | (rw [zah]; omega)) o7 (c6.rdrw 0 rfl) aab (by decide) (gi b1 fun o8 b1 => alh c6 0 a7 a0 a6 46 3 (a2 - (1 : Int)) (zak a4 (zad a2) ((el a4 (a2 - (1 : Int))).1, (el a4 (a2 - (1 : Int))).2.1, ((el a4 (a2 - (1 : Int))).2.2))) ((el a4 a2).1, (el a4 a2).2.1, ((el a4 a2).2.2)) rfl aab [(str ((el a4 a2).1)), (str ((el a4 a2).2.1)), (Vb ((el a4 a2).2.2))] o8 krf krf krf (by decide) krf fun o9 f8 => ?_))))
  replace f8 : Hp w (abf [rwt aaa 46 3 a7 a0 a6 a5]) [rwt aaa 46 3 a7 a0 a6 (zak (zak a4 (zad a2) ((el a4 (a2 - (1 : Int))).1, (el a4 (a2 - (1 : Int))).2.1, ((el a4 (a2 - (1 : Int))).2.2))) (zad (a2 - (1 : Int))) ((el a4 a2).1, (el a4 a2).2.1, ((el a4 a2).2.2)))] o9 := f8
  refine wl (bn (qn (cr (wp 1 (gi b1 fun p0 b1 => adg a2 (1 : Int) krf krf p0 (wp 1 (wl (ql ?_))))))))
  exact ⟨(d1, zak (zak a4 (zad a2) ((el a4 (a2 - (1 : Int))).1, (el a4 (a2 - (1 : Int))).2.1, ((el a4 (a2 - (1 : Int))).2.2))) (zad (a2 - (1 : Int))) ((el a4 a2).1, (el a4 a2).2.1, ((el a4 a2).2.2)), a2 - (1 : Int)), _, rfl, (mc (Eq.trans (b := (Vs a0 a4.length a6)) krf (aaj lsy)) (mc krf (mc krf (mc krf (mc krf (mc krf (mc krf rfl))))))), ⟨f8.kp, lsz, b1⟩, zac _⟩
  refine aiy a0 aaa a4 3 a2 aab (d8.rdrw 0 rfl) [(str ((el a4 a2).1)), (str ((el a4 a2).2.1)), (Vb ((el a4 a2).2.2))] i2 krf krf krf krf (by decide) (wl (abq (by exact trivial) (ro 9 rfl (aiy a0 aaa a4 3 (a2 - (1 : Int)) aab (d8.rdrw 0 rfl) [(str ((el a4 (a2 - (1 : Int))).1)), (str ((el a4 (a2 - (1 : Int))).2.1)), (Vb ((el a4 (a2 - (1 : Int))).2.2))] i0 krf krf krf krf (by decide) (wl (abq (by exact trivial) (rt 14 (Vp (some (ea a0 (a2.toNat * 3)))) rfl rfl (abc rfl (by intro w hS_; exact (alg a0 a4.length a6 46 3 .i64 a2 Tryz.underlying22 krf krf krf (afn (l := a4) rfl f6) i3))) (ro 15 rfl (alh d8 0 a7 a0 a6 46 3 a2 a4 ((el a4 (a2 - (1 : Int))).1, (el a4 (a2 - (1 : Int))).2.1, ((el a4 (a2 - (1 : Int))).2.2)) rfl aab [(str ((el a4 (a2 - (1 : Int))).1)), (str ((el a4 (a2 - (1 : Int))).2.1)), (Vb ((el a4 (a2 - (1 : Int))).2.2))] i4 krf krf krf (by decide) krf fun f7 c6 => ?_)))))))))
  replace c6 : Hp w (abf [rwt aaa 46 3 a7 a0 a6 a5]) [rwt aaa 46 3 a7 a0 a6 (zak a4 (zad a2) ((el a4 (a2 - (1 : Int))).1, (el a4 (a2 - (1 : Int))).2.1, ((el a4 (a2 - (1 : Int))).2.2)))] f7 := c6
  refine wl (abq (by exact trivial) (adi krf (gi b1 fun p1 b1 => ahu a0 a4.length a6 46 3 .i64 (a2 - (1 : Int)) Tryz.underlying22 krf krf krf (zak a4 (zad a2) ((el a4 (a2 - (1 : Int))).1, (el a4 (a2 - (1 : Int))).2.1, ((el a4 (a2 - (1 : Int))).2.2))) (by first | rfl | (simp; done) | omega | (simp; omega) | (rw [zah]; omega)) p1 (c6.rdrw 0 rfl) aab (by decide) (gi b1 fun p2 b1 => alh c6 0 a7 a0 a6 46 3 (a2 - (1 : Int)) (zak a4 (zad a2) ((el a4 (a2 - (1 : Int))).1, (el a4 (a2 - (1 : Int))).2.1, ((el a4 (a2 - (1 : Int))).2.2))) ((el a4 a2).1, (el a4 a2).2.1, ((el a4 a2).2.2)) rfl aab [(str ((el a4 a2).1)), (str ((el a4 a2).2.1)), (Vb ((el a4 a2).2.2))] p2 krf krf krf (by decide) krf fun p3 f9 => ?_))))
  replace f9 : Hp w (abf [rwt aaa 46 3 a7 a0 a6 a5]) [rwt aaa 46 3 a7 a0 a6 (zak (zak a4 (zad a2) ((el a4 (a2 - (1 : Int))).1, (el a4 (a2 - (1 : Int))).2.1, ((el a4 (a2 - (1 : Int))).2.2))) (zad (a2 - (1 : Int))) ((el a4 a2).1, (el a4 a2).2.1, ((el a4 a2).2.2)))] p3 := f9
  refine wl (bn (qn (cr (wp 1 (gi b1 fun p4 b1 => adg a2 (1 : Int) krf krf p4 (wp 1 (wl (ql ?_))))))))
  exact ⟨(d1, zak (zak a4 (zad a2) ((el a4 (a2 - (1 : Int))).1, (el a4 (a2 - (1 : Int))).2.1, ((el a4 (a2 - (1 : Int))).2.2))) (zad (a2 - (1 : Int))) ((el a4 a2).1, (el a4 a2).2.1, ((el a4 a2).2.2)), a2 - (1 : Int)), _, rfl, (mc (Eq.trans (b := (Vs a0 a4.length a6)) krf (aaj lsy)) (mc krf (mc krf (mc krf (mc krf (mc krf (mc krf rfl))))))), ⟨f9.kp, lsz, b1⟩, zac _⟩
  refine ace (acd (acq (acf (ql ?_))))
  obtain rfl := oi b1
  exact ⟨a4, _, rfl, by kernel_rfl, e2.kp, lsz, rfl⟩
  rintro d7 v4 G ⟨p5, v5, rfl⟩
  refine ct (adl ?_)
  obtain rfl := oi c4
  obtain rfl := oi hr
  refine r_none  rfl  ?_
  exact ⟨(by first | rfl | (simp; done) | (simp; omega)), lsz, p5.kp⟩
  refine ck (ql ?_)
  obtain rfl := oi c4
  exact je1 rfl e9.kp
  rintro m7 v6 G g0 rfl
  refine sr (wp 2 (gi hr fun p6 hr => aah a8 b2 krf krf p6 (anw .u64 .i64 (a8 + b2) Tryz.underlying3 Tryz.underlying172 krf (w_shr .u64 .u64 (zab .u64 (a8 + b2)) (1 : Int) 2 krf krf (by decide) (by decide) (by decide) (anw .i64 .u64 ((zab .u64 (a8 + b2)) / 2) Tryz.underlying172 Tryz.underlying3 krf (wp 1 (wl ?_)))))))
  refine qn (sr (wp 2 (gi hr fun p7 hr => aah (zab .i64 ((zab .u64 (a8 + b2)) / 2)) a9 krf krf p7 (wp 1 (nq (cs ?_))))))
  refine cr (wp 2 (nq (bi hr fun f0 d2 hr => agq g0 [0, 1, 2, 3, 4, 18, 19, 20, 21] [(20, (Vi .i64 f0.1)), (21, (Vi .i64 f0.2))] ?_ ?_)))
  refine sr (wp 3 (nq (cd d2 (fun p8 d2 => ?_) (fun p8 d2 => ?_))))
  refine sr (wp 2 (gi d2 fun p9 d2 => adg ((zab .i64 ((zab .u64 (a8 + b2)) / 2)) + a9) b2 krf krf p9 (wp 1 (nq (cr (wp 2 ?_))))))
  refine wl (ql ?_)
  obtain rfl := oi d2
  exact je g0.kp
  refine sr (wp 2 (nq (cr (wp 2 (wl (ql ?_))))))
  obtain rfl := oi d2
  exact je g0.kp
  intro v7 G i5
  refine sr (wp 1 (gi hr fun q0 hr => adg ((zab .i64 ((zab .u64 (a8 + b2)) / 2)) + a9) (1 : Int) krf krf q0 (wp 1 (nq (bi hr fun d9 q1 hr => agq i5 [0, 1, 2, 3, 4, 18, 19, 20] [(20, (Vi .i64 d9))] ?_ ?_)))))
  refine ce (lpS (fun i6 ⟨b3, b4⟩ => abj fu a5 a8 a9 b2 i6 b3 b4) (f0.1, f0.2) i5 q1 [0, 1, 2, 3, 4, 18, 19, 20, 21, 22] (fun ⟨b3, b4⟩ => [(20, (Vi .i64 b3)), (21, (Vi .i64 b4))]) (fun _ => rfl) ?_)
  rintro i6 ⟨b3, b4⟩ v8 G i7 b5
  dsimp only at b5
  rw [abj.eq_2] at b5
  refine cs (sr (wp 3 (nq (cd b5 (fun q2 b5 => ?_) (fun q2 b5 => ?_)))))
  refine ck (qn (ce (sr (wp 2 (gi b5 fun q3 b5 => aah b3 b4 krf krf q3 (anw .u64 .i64 (b3 + b4) Tryz.underlying3 Tryz.underlying172 krf (w_shr .u64 .u64 (zab .u64 (b3 + b4)) (1 : Int) 2 krf krf (by decide) (by decide) (by decide) ?_)))))))
  refine anw .i64 .u64 ((zab .u64 (b3 + b4)) / 2) Tryz.underlying172 Tryz.underlying3 krf (wp 1 (nq (cs (gi b5 fun q4 b5 => gi b5 fun q5 b5 => gi b5 fun q6 b5 => gi b5 fun q7 b5 => gi b5 fun q8 b5 => ?_))))
  refine adu 11 (fun j_ w_ w_' => aax [6, 11, 12, 13] (fun w' => Rd w' a0 (zai aaa a5)) j_ w_ w_' ∧ aax [11, 12, 13] (fun w' => Rd w' a0 (zai aaa a5)) j_ w_ w_' ∧ aax [10, 11, 12, 13] (fun w' => Rd w' a0 (zai aaa a5)) j_ w_ w_' ∧ True) [false, false, false, false, false, false, false, false, false, false, false, false, false, false] (fun _ _ => ⟨aax.same, aax.same, aax.same, trivial⟩) krf krf i7 rfl (acz (aas (aaq (aas (aaq acy))))) fun v9 e0 => rp 7 [0, 1, 2, 3] (rt 4 (Vi .i64 ((((zab .i64 ((zab .u64 (a8 + b2)) / 2)) + a9) - (1 : Int)) - (zab .i64 ((zab .u64 (b3 + b4)) / 2)))) rfl rfl (abc rfl (by intro w hS_; exact (amc (((zab .i64 ((zab .u64 (a8 + b2)) / 2)) + a9) - (1 : Int)) (zab .i64 ((zab .u64 (b3 + b4)) / 2)) krf krf q4))) (aak [true, true, true, true, true, true, false, false, false, false, false, false, false, false] 5 163 (Vp (some (ea a0 (((((zab .i64 ((zab .u64 (a8 + b2)) / 2)) + a9) - (1 : Int)) - (zab .i64 ((zab .u64 (b3 + b4)) / 2))).toNat * 3)))) [6, 11, 12, 13] (fun _ _ _ h => h.1) _ rfl rfl krf krf krf krf krf rfl (abc rfl (by intro w hS_; exact (apd a0 a5.length a6 46 3 .i64 ((((zab .i64 ((zab .u64 (a8 + b2)) / 2)) + a9) - (1 : Int)) - (zab .i64 ((zab .u64 (b3 + b4)) / 2))) Tryz.underlying22 krf krf krf a5 rfl q5 hS_ aab (by decide)))) (by exact (e0.rdrw 0 rfl)) (aak [true, true, true, true, true, true, true, false, false, false, false, false, false, false] 6 164 (zam #[(str ((el a5 ((((zab .i64 ((zab .u64 (a8 + b2)) / 2)) + a9) - (1 : Int)) - (zab .i64 ((zab .u64 (b3 + b4)) / 2)))).1)), (str ((el a5 ((((zab .i64 ((zab .u64 (a8 + b2)) / 2)) + a9) - (1 : Int)) - (zab .i64 ((zab .u64 (b3 + b4)) / 2)))).2.1)), (Vb ((el a5 ((((zab .i64 ((zab .u64 (a8 + b2)) / 2)) + a9) - (1 : Int)) - (zab .i64 ((zab .u64 (b3 + b4)) / 2)))).2.2))]) [11, 12, 13] (fun _ _ _ h => h.2.1) _ rfl rfl krf krf krf krf krf rfl (abc rfl (by intro w hS_; exact (apw a0 aaa a5 3 ((((zab .i64 ((zab .u64 (a8 + b2)) / 2)) + a9) - (1 : Int)) - (zab .i64 ((zab .u64 (b3 + b4)) / 2))) aab hS_ [(str ((el a5 ((((zab .i64 ((zab .u64 (a8 + b2)) / 2)) + a9) - (1 : Int)) - (zab .i64 ((zab .u64 (b3 + b4)) / 2)))).1)), (str ((el a5 ((((zab .i64 ((zab .u64 (a8 + b2)) / 2)) + a9) - (1 : Int)) - (zab .i64 ((zab .u64 (b3 + b4)) / 2)))).2.1)), (Vb ((el a5 ((((zab .i64 ((zab .u64 (a8 + b2)) / 2)) + a9) - (1 : Int)) - (zab .i64 ((zab .u64 (b3 + b4)) / 2)))).2.2))] q6 krf krf krf krf (by decide)))) (by exact (e0.rdrw 0 rfl)) (rp 2 [7, 8] (aak [true, true, true, true, true, true, true, true, true, true, false, false, false, false] 9 167 (Vp (some (ea a0 ((zab .i64 ((zab .u64 (b3 + b4)) / 2)).toNat * 3)))) [10, 11, 12, 13] (fun _ _ _ h => h.2.2.1) _ rfl rfl krf krf krf krf krf rfl (abc rfl (by intro w hS_; exact (apd a0 a5.length a6 46 3 .i64 (zab .i64 ((zab .u64 (b3 + b4)) / 2)) Tryz.underlying22 krf krf krf a5 rfl q7 hS_ aab (by decide)))) (by exact (e0.rdrw 0 rfl)) (aak [true, true, true, true, true, true, true, true, true, true, true, false, false, false] 10 168 (zam #[(str ((el a5 (zab .i64 ((zab .u64 (b3 + b4)) / 2))).1)), (str ((el a5 (zab .i64 ((zab .u64 (b3 + b4)) / 2))).2.1)), (Vb ((el a5 (zab .i64 ((zab .u64 (b3 + b4)) / 2))).2.2))]) [11, 12, 13] (fun _ _ _ h => h.2.1) _ rfl rfl krf krf krf krf krf rfl (abc rfl (by intro w hS_; exact (apw a0 aaa a5 3 (zab .i64 ((zab .u64 (b3 + b4)) / 2)) aab hS_ [(str ((el a5 (zab .i64 ((zab .u64 (b3 + b4)) / 2))).1)), (str ((el a5 (zab .i64 ((zab .u64 (b3 + b4)) / 2))).2.1)), (Vb ((el a5 (zab .i64 ((zab .u64 (b3 + b4)) / 2))).2.2))] q8 krf krf krf krf (by decide)))) (by exact (e0.rdrw 0 rfl)) (adi krf (bi b5 fun w0 q9 b5 => ?_))))))))
  refine wc ent164 e0 (aix q9 (hG.hp e0 hS)) fun w1 i9 => wp 2 (nq (cn b5 (fun r0 b5 => ?_) (fun r0 b5 => ?_)))
  exact cr (wp 1 (gi b5 fun r1 b5 => aah (zab .i64 ((zab .u64 (b3 + b4)) / 2)) (1 : Int) krf krf r1 (wp 1 (wl (bn (ql (le' ((zab .i64 ((zab .u64 (b3 + b4)) / 2)) + (1 : Int), b4) i9.kp b5)))))))
  exact cr (wp 2 (wl (bn (ql (le' (b3, zab .i64 ((zab .u64 (b3 + b4)) / 2)) i9.kp b5)))))
  refine ace (acd (acq (acf (ql ?_))))
  obtain rfl := oi b5
  exact je i7.kp
  intro w2 G g1
  refine sr (wp 2 (gi hr fun r2 hr => adg ((zab .i64 ((zab .u64 (a8 + b2)) / 2)) + a9) d9 krf krf r2 (wp 1 (nq (bi hr fun r3 c7 hr => cut (σ := (List (Str × Str × Bool))) [0, 1, 3, 4, 18, 20, 24] (fun c2 => [(0, (Vs a0 c2.length a6))]) (fun c2 w' => Hp w (abf [rwt aaa 46 3 a7 a0 a6 a5]) [rwt aaa 46 3 a7 a0 a6 c2] w' ∧ c2.length = a5.length ∧ c2 = r3) ?_ ?_)))))
  refine bi c7 fun r4 e3 c7 => agq g1 [0, 1, 2, 3, 4, 18, 20, 24, 185] [(185, (Vb r4))] ?_ ?_
  refine cr (wp 3 (wd e3 (fun r5 e3 => ?_) (fun r5 e3 => ?_)))
  refine wp 4 (wl (ql ?_))
  obtain rfl := oi e3
  exact je g1.kp
  refine wp 4 (wl (ql ?_))
  obtain rfl := oi e3
  exact je g1.kp
  intro w3 G e4
  refine cb c7 (fun r6 c7 => ?_) (fun r6 c7 => ?_)
  refine cr (wp 5 (bi c7 fun j0 r7 c7 => aat 262 #[] [(Vs a0 a5.length a6), (Vi .i64 d9), (Vi .i64 a9), (Vi .i64 (((zab .i64 ((zab .u64 (a8 + b2)) / 2)) + a9) - d9)), (zan (.func 164) #[] #[])] _ ent262 krf krf (air a7 a0 a6 r7 (hG.hp e4 hS) (e4.hand (L1 := [rwt aaa 46 3 a7 a0 a6 a5]) (L2 := [])) (e4.highs hG hS 1 rfl)) ?_))
  rintro _ r8 ⟨rfl, w4, j1⟩
  have r9 : Hp w (abf [rwt aaa 46 3 a7 a0 a6 a5]) [rwt aaa 46 3 a7 a0 a6 j0] r8 := Hp.callK (L1 := [rwt aaa 46 3 a7 a0 a6 a5]) (L2 := []) e4 j1; clear j1
  refine wl (ql ?_)
  obtain rfl := oi c7
  exact ⟨j0, _, rfl, (mc (Eq.trans (b := (Vs a0 a5.length a6)) krf (aaj lsy)) (mc krf (mc krf (mc krf (mc krf (mc krf (mc krf rfl))))))), r9.kp, lsz, rfl⟩
  refine ck (ql ?_)
  obtain rfl := oi c7
  exact ⟨a5, _, rfl, by kernel_rfl, e4.kp, lsz, rfl⟩
  rintro c2 w5 G ⟨g2, w6, rfl⟩
  refine bi hr fun s0 c8 hr => cut (σ := (List (Str × Str × Bool))) [0, 3, 4, 18, 24] (fun c9 => [(0, (Vs a0 c9.length a6))]) (fun c9 w' => Hp w (abf [rwt aaa 46 3 a7 a0 a6 a5]) [rwt aaa 46 3 a7 a0 a6 c9] w' ∧ c9.length = c2.length ∧ c9 = s0) ?_ ?_
  refine bi c8 fun s1 e5 c8 => agq g2 [0, 1, 3, 4, 18, 20, 24, 199] [(199, (Vb s1))] ?_ ?_
  refine cr (wp 3 (wd e5 (fun s2 e5 => ?_) (fun s2 e5 => ?_)))
  refine wp 4 (wl (ql ?_))
  obtain rfl := oi e5
  exact je g2.kp
  refine wp 4 (wl (ql ?_))
  obtain rfl := oi e5
  exact je g2.kp
  intro w7 G e6
  refine cb c8 (fun s3 c8 => ?_) (fun s3 c8 => ?_)
  refine cr (wp 5 (bi c8 fun j2 s4 c8 => aat 242 #[] [(Vs a0 c2.length a6), (Vi .i64 a8), (Vi .i64 d9), (Vi .i64 (zab .i64 ((zab .u64 (a8 + b2)) / 2))), (zan (.func 164) #[] #[])] _ ent242 krf krf (ih a7 a0 a6 s4 (hG.hp e6 hS) (e6.hand (L1 := [rwt aaa 46 3 a7 a0 a6 c2]) (L2 := [])) (e6.highs hG hS 1 rfl)) ?_))
  rintro _ s5 ⟨rfl, w8, j3⟩
  have s6 : Hp w (abf [rwt aaa 46 3 a7 a0 a6 a5]) [rwt aaa 46 3 a7 a0 a6 j2] s5 := Hp.callK (L1 := [rwt aaa 46 3 a7 a0 a6 c2]) (L2 := []) e6 j3; clear j3
  refine wl (ql ?_)
  obtain rfl := oi c8
  exact ⟨j2, _, rfl, (mc (Eq.trans (b := (Vs a0 c2.length a6)) krf (aaj lsy)) (mc krf (mc krf (mc krf (mc krf rfl))))), s6.kp, lsz, rfl⟩
  refine ck (ql ?_)
  obtain rfl := oi c8
  exact ⟨c2, _, rfl, by kernel_rfl, e6.kp, lsz, rfl⟩
  rintro c9 w9 G ⟨g3, x0, rfl⟩
  refine bi hr fun s7 e7 hr => agq g3 [0, 3, 4, 18, 24, 213] [(213, (Vb s7))] ?_ ?_
  refine cr (wp 3 (wd e7 (fun s8 e7 => ?_) (fun s8 e7 => ?_)))
  refine wp 4 (wl (ql ?_))
  obtain rfl := oi e7
  exact je g3.kp
  refine wp 4 (wl (ql ?_))
  obtain rfl := oi e7
  exact je g3.kp
  intro x2 G e8
  refine cb hr (fun s9 hr => ?_) (fun s9 hr => ?_)
  refine cr (wp 5 (bi hr fun t0 t1 hr => aat 242 #[] [(Vs a0 c9.length a6), (Vi .i64 (zab .i64 ((zab .u64 (a8 + b2)) / 2))), (Vi .i64 (((zab .i64 ((zab .u64 (a8 + b2)) / 2)) + a9) - d9)), (Vi .i64 b2), (zan (.func 164) #[] #[])] _ ent242 krf krf (ih a7 a0 a6 t1 (hG.hp e8 hS) (e8.hand (L1 := [rwt aaa 46 3 a7 a0 a6 c9]) (L2 := [])) (e8.highs hG hS 1 rfl)) ?_))
  rintro _ t2 ⟨rfl, x3, j4⟩
  have t3 : Hp w (abf [rwt aaa 46 3 a7 a0 a6 a5]) [rwt aaa 46 3 a7 a0 a6 t0] t2 := Hp.callK (L1 := [rwt aaa 46 3 a7 a0 a6 c9]) (L2 := []) e8 j4; clear j4
  refine wl ?_
  obtain rfl := oi hr
  refine ajb  rfl  ?_
  exact ⟨(by first | rfl | (simp; done) | (simp; omega)), lsz, t3.kp⟩
  refine ck ?_
  obtain rfl := oi hr
  refine ajb  rfl  ?_
  exact ⟨(by first | rfl | (simp; done) | (simp; omega)), lsz, e8.kp⟩
theorem aiq {fu : Nat} {a4 : List (Str × Str × Bool)} {b6 : Int} (a2 : Option Nat) (a0 : Option Addr) (a1 : Nat) {w : World} {r : List (Str × Str × Bool)} (hr : aea fu a4 b6 = some r) (hG : Gl w) (hM : Hp w (abf [rwt aaa 46 3 a2 a0 a1 a4]) [rwt aaa 46 3 a2 a0 a1 a4] w) (hS : ∀ b ∈ abf [rwt aaa 46 3 a2 a0 a1 a4], 9 ≤ b) : CR Tryz.prog 209 [(Vs a0 a4.length a1), (Vi .i64 b6), (zan (.func 164) #[] #[])] w fun v w' => v = (zal #[]) ∧ r.length = a4.length ∧ Hp w (abf [rwt aaa 46 3 a2 a0 a1 a4]) [rwt aaa 46 3 a2 a0 a1 r] w' := by
  have hH : Hp w (abf [rwt aaa 46 3 a2 a0 a1 a4]) [rwt aaa 46 3 a2 a0 a1 a4] w := hM
  refine enter (k := 63) Tryz.func209 rfl rfl nbe ?_
  unfold aea at hr
  refine sr (wp 1 (nq (sr (wp 3 (nq ?_)))))
  refine bi hr fun c6 d6 hr => cut (σ := ((List (Str × Str × Bool)) × Int)) [0, 1, 2, 6, 7] (fun a8 => [(0, (Vs a0 a8.1.length a1)), (7, (Vi .i64 a8.2))]) (fun a8 w' => Hp w (abf [rwt aaa 46 3 a2 a0 a1 a4]) [rwt aaa 46 3 a2 a0 a1 a8.1] w' ∧ a8.1.length = a4.length ∧ a8 = c6) ?_ ?_
  refine ce (lpG (σ := Nat × (List (Str × Str × Bool)) × Int × Int) [0, 1, 2, 6, 7, 8] (fun ⟨b9, a9, b7, b3⟩ => [(0, (Vs a0 a9.length a1)), (7, (Vi .i64 b7)), (8, (Vi .i64 b3))]) (fun ⟨b9, a9, b7, b3⟩ w' => Hp w (abf [rwt aaa 46 3 a2 a0 a1 a4]) [rwt aaa 46 3 a2 a0 a1 a9] w' ∧ a9.length = a4.length ∧ act fu b6 b9 a9 b7 b3 = some c6) (fun ⟨b9, a9, b7, b3⟩ => b9) (fu, a4, (0 : Int), (20 : Int)) (by exact ⟨hH.kp, lsz, d6⟩) ?_)
  rintro ⟨_ | b9, a9, b7, b3⟩ g2 G ⟨c1, g3, b1⟩
  · exact nzz b1
  rw [act.eq_2] at b1
  refine cs (sr (wp 3 (nq (cd b1 (fun d7 b1 => ?_) (fun d7 b1 => ?_)))))
  refine ck (qn (ce (sr (wp 4 (bi b1 fun c7 d8 b1 => aat 241 #[] [(Vs a0 a9.length a1), (Vi .i64 b7), (Vi .i64 b3), (zan (.func 164) #[] #[])] _ ent241 krf krf (aeo a2 a0 a1 d8 (hG.hp c1 hS) (c1.hand (L1 := [rwt aaa 46 3 a2 a0 a1 a9]) (L2 := [])) (c1.highs hG hS 1 rfl)) ?_)))))
  rintro _ d9 ⟨rfl, g4, c8⟩
  have e0 : Hp w (abf [rwt aaa 46 3 a2 a0 a1 a4]) [rwt aaa 46 3 a2 a0 a1 c7] d9 := Hp.callK (L1 := [rwt aaa 46 3 a2 a0 a1 a9]) (L2 := []) c1 c8; clear c8
  refine nq (sr (wp 2 (nq (cr (wp 2 (gi b1 fun e1 b1 => ?_))))))
  refine aah b3 (20 : Int) krf krf e1 (wp 1 (wl (bn (ql ?_))))
  exact ⟨(b9, c7, b3, b3 + (20 : Int)), _, rfl, (mc (Eq.trans (b := (Vs a0 a9.length a1)) krf (aaj lsy)) (mc krf (mc krf (mc krf (mc krf (mc krf rfl)))))), ⟨e0.kp, lsz, b1⟩, zac _⟩
  refine ace (acd (acq (acf (ql ?_))))
  obtain rfl := oi b1
  exact ⟨(a9, b7), _, rfl, by kernel_rfl, c1.kp, lsz, rfl⟩
  rintro a8 g5 G ⟨c4, g6, rfl⟩
  refine sr (wp 4 (bi hr fun c5 e2 hr => aat 241 #[] [(Vs a0 a8.1.length a1), (Vi .i64 a8.2), (Vi .i64 b6), (zan (.func 164) #[] #[])] _ ent241 krf krf (aeo a2 a0 a1 e2 (hG.hp c4 hS) (c4.hand (L1 := [rwt aaa 46 3 a2 a0 a1 a8.1]) (L2 := [])) (c4.highs hG hS 1 rfl)) ?_))
  rintro _ e3 ⟨rfl, g7, c9⟩
  have e4 : Hp w (abf [rwt aaa 46 3 a2 a0 a1 a4]) [rwt aaa 46 3 a2 a0 a1 c5] e3 := Hp.callK (L1 := [rwt aaa 46 3 a2 a0 a1 a8.1]) (L2 := []) c4 c9; clear c9
  refine nq (ce (lpG (σ := Nat × (List (Str × Str × Bool)) × Int) [0, 1, 2, 6] (fun ⟨b8, b2, a5⟩ => [(0, (Vs a0 b2.length a1)), (6, (Vi .i64 a5))]) (fun ⟨b8, b2, a5⟩ w' => Hp w (abf [rwt aaa 46 3 a2 a0 a1 a4]) [rwt aaa 46 3 a2 a0 a1 b2] w' ∧ b2.length = c5.length ∧ abr fu b6 b8 b2 a5 = some r) (fun ⟨b8, b2, a5⟩ => b8) (fu, c5, (20 : Int)) (by exact ⟨e4.kp, lsz, hr⟩) ?_ (mc (Eq.trans (b := (Vs a0 a8.1.length a1)) krf (aaj lsy)) (mc krf (mc krf (mc krf rfl))))))
  rintro ⟨_ | b8, b2, a5⟩ g8 G ⟨d0, g9, a3⟩
  · exact nzz a3
  rw [abr.eq_2] at a3
  refine cs (sr (wp 3 (nq (cd a3 (fun e5 a3 => ?_) (fun e5 a3 => ?_)))))
  refine ck (qn (ce (sr (wp 1 (gi a3 fun e6 a3 => aoh (2 : Int) a5 krf krf e6 (wp 2 (wl ?_)))))))
  refine qn (bi a3 fun d1 e7 a3 => cut (σ := ((List (Str × Str × Bool)) × Int)) [0, 1, 2, 6, 7] (fun a6 => [(0, (Vs a0 a6.1.length a1)), (7, (Vi .i64 a6.2))]) (fun a6 w' => Hp w (abf [rwt aaa 46 3 a2 a0 a1 a4]) [rwt aaa 46 3 a2 a0 a1 a6.1] w' ∧ a6.1.length = b2.length ∧ a6 = d1) ?_ ?_)
  refine ce (lpG (σ := Nat × (List (Str × Str × Bool)) × Int × Int) [0, 1, 2, 6, 7, 8] (fun ⟨c0, b0, b4, b5⟩ => [(0, (Vs a0 b0.length a1)), (7, (Vi .i64 b4)), (8, (Vi .i64 b5))]) (fun ⟨c0, b0, b4, b5⟩ w' => Hp w (abf [rwt aaa 46 3 a2 a0 a1 a4]) [rwt aaa 46 3 a2 a0 a1 b0] w' ∧ b0.length = b2.length ∧ acs fu b6 a5 c0 b0 b4 b5 = some d1) (fun ⟨c0, b0, b4, b5⟩ => c0) (fu, b2, (0 : Int), (2 : Int) * a5) (by exact ⟨d0.kp, lsz, e7⟩) ?_)
  rintro ⟨_ | c0, b0, b4, b5⟩ h0 G ⟨c2, h1, a7⟩
  · exact nzz a7
  rw [acs.eq_2] at a7
  refine cs (sr (wp 3 (nq (cd a7 (fun e8 a7 => ?_) (fun e8 a7 => ?_)))))
  refine ck (qn (ce (sr (wp 4 (gi a7 fun e9 a7 => aah b4 a5 krf krf e9 (wp 2 (bi a7 fun d2 f0 a7 => ?_)))))))
  refine aat 242 #[] [(Vs a0 b0.length a1), (Vi .i64 b4), (Vi .i64 (b4 + a5)), (Vi .i64 b5), (zan (.func 164) #[] #[])] _ ent242 krf krf (afd a2 a0 a1 f0 (hG.hp c2 hS) (c2.hand (L1 := [rwt aaa 46 3 a2 a0 a1 b0]) (L2 := [])) (c2.highs hG hS 1 rfl)) ?_
  rintro _ f1 ⟨rfl, h2, d3⟩
  have f2 : Hp w (abf [rwt aaa 46 3 a2 a0 a1 a4]) [rwt aaa 46 3 a2 a0 a1 d2] f1 := Hp.callK (L1 := [rwt aaa 46 3 a2 a0 a1 b0]) (L2 := []) c2 d3; clear d3
  refine nq (sr (wp 2 (nq (cr (wp 2 (gi a7 fun f3 a7 => ?_))))))
  refine aoh (2 : Int) a5 krf krf f3 (gi a7 fun f4 a7 => aah b5 ((2 : Int) * a5) krf krf f4 (wp 1 (wl (bn (ql ?_)))))
  exact ⟨(c0, d2, b5, b5 + ((2 : Int) * a5)), _, rfl, (mc (Eq.trans (b := (Vs a0 b0.length a1)) krf (aaj lsy)) (mc krf (mc krf (mc krf (mc krf (mc krf rfl)))))), ⟨f2.kp, lsz, a7⟩, zac _⟩
  refine ace (acd (acq (acf (ql ?_))))
  obtain rfl := oi a7
  exact ⟨(b0, b4), _, rfl, by kernel_rfl, c2.kp, lsz, rfl⟩
  rintro a6 h3 G ⟨c3, h4, rfl⟩
  refine cs (sr (wp 2 (gi a3 fun f5 a3 => aah a6.2 a5 krf krf f5 (wp 1 (nq (cs ?_))))))
  refine cr (wp 3 (nq (cd a3 (fun f6 a3 => ?_) (fun f6 a3 => ?_))))
  refine cr (wp 5 (bi a3 fun d4 f7 a3 => aat 242 #[] [(Vs a0 a6.1.length a1), (Vi .i64 a6.2), (Vi .i64 (a6.2 + a5)), (Vi .i64 b6), (zan (.func 164) #[] #[])] _ ent242 krf krf (afd a2 a0 a1 f7 (hG.hp c3 hS) (c3.hand (L1 := [rwt aaa 46 3 a2 a0 a1 a6.1]) (L2 := [])) (c3.highs hG hS 1 rfl)) ?_))
  rintro _ f8 ⟨rfl, h5, d5⟩
  have f9 : Hp w (abf [rwt aaa 46 3 a2 a0 a1 a4]) [rwt aaa 46 3 a2 a0 a1 d4] f8 := Hp.callK (L1 := [rwt aaa 46 3 a2 a0 a1 a6.1]) (L2 := []) c3 d5; clear d5
  refine nq (cr (wp 1 (gi a3 fun g0 a3 => aoh a5 (2 : Int) krf krf g0 (wp 1 (wl (bn (ql ?_)))))))
  exact ⟨(b8, d4, a5 * (2 : Int)), _, rfl, (mc (Eq.trans (b := (Vs a0 a6.1.length a1)) krf (aaj lsy)) (mc krf (mc krf (mc krf rfl)))), ⟨f9.kp, lsz, a3⟩, zac _⟩
  refine ck (qn (cr (wp 1 (gi a3 fun g1 a3 => aoh a5 (2 : Int) krf krf g1 (wp 1 (wl (bn (ql ?_))))))))
  exact ⟨(b8, a6.1, a5 * (2 : Int)), _, rfl, by kernel_rfl, ⟨c3.kp, lsz, a3⟩, zac _⟩
  refine ace (acd (acq (acf ?_)))
  obtain rfl := oi a3
  refine ajb  rfl  ?_
  exact ⟨(by first | rfl | (simp; done) | (simp; omega)), lsz, d0.kp⟩
theorem ail {fu : Nat} {a0 : List (Str × Str × Bool)} (a3 : Option Nat) (a1 : Option Addr) (a2 : Nat) {w : World} {r : List (Str × Str × Bool)} (hr : adv fu a0 = some r) (hG : Gl w) (hM : Hp w (abf [rwt aaa 46 3 a3 a1 a2 a0]) [rwt aaa 46 3 a3 a1 a2 a0] w) (hS : ∀ b ∈ abf [rwt aaa 46 3 a3 a1 a2 a0], 9 ≤ b) : CR Tryz.prog 163 [(Vs a1 a0.length a2), (zan (.func 164) #[] #[])] w fun v w' => v = (zal #[]) ∧ r.length = a0.length ∧ Hp w (abf [rwt aaa 46 3 a3 a1 a2 a0]) [rwt aaa 46 3 a3 a1 a2 r] w' := by
  have hH : Hp w (abf [rwt aaa 46 3 a3 a1 a2 a0]) [rwt aaa 46 3 a3 a1 a2 a0] w := hM
  refine enter (k := 9) Tryz.func163 rfl rfl nbe ?_
  unfold adv at hr
  refine cr (wp 4 (bi hr fun y1 a5 hr => aat 209 #[] [(Vs a1 a0.length a2), (Vi .i64 (a0.length : Int)), (zan (.func 164) #[] #[])] _ ent209 krf krf (aiq a3 a1 a2 a5 (hG.hp hH hS) (hH.hand (L1 := [rwt aaa 46 3 a3 a1 a2 a0]) (L2 := [])) (hH.highs hG hS 1 rfl)) ?_))
  rintro _ w3 ⟨rfl, a7, a4⟩
  have a6 : Hp w (abf [rwt aaa 46 3 a3 a1 a2 a0]) [rwt aaa 46 3 a3 a1 a2 y1] w3 := Hp.callK (L1 := [rwt aaa 46 3 a3 a1 a2 a0]) (L2 := []) hH a4; clear a4
  refine wl ?_
  obtain rfl := oi hr
  refine ajb  rfl  ?_
  exact ⟨(by first | rfl | (simp; done) | (simp; omega)), lsz, a6.kp⟩
end Go.Proofs
set_option linter.unusedVariables false
set_option linter.unusedSimpArgs false
set_option maxRecDepth 20000
set_option maxHeartbeats 1000000
namespace Go.Proofs
open Go.Wk Go.Px
open Go.Value renaming slice → Vs, int → Vi, bool → Vb, pointer → Vp
open Go.Value renaming agg → zam, func → zan, tuple → zal
open List renaming flatMap → zai, length_take → zah
open Nat renaming lt_of_lt_of_le → zaj, lt_succ_self → zac
theorem ent98 : Go.Wk.Enters Tryz.prog 98 := ⟨Tryz.f98, _, Tryz.func98, rfl, by kernel_rfl⟩
theorem ent100 : Go.Wk.Enters Tryz.prog 100 := ⟨Tryz.f100, _, Tryz.func100, rfl, by kernel_rfl⟩
theorem ent114 : Go.Wk.Enters Tryz.prog 114 := ⟨Tryz.f114, _, Tryz.func114, rfl, by kernel_rfl⟩
theorem ent145 : Go.Wk.Enters Tryz.prog 145 := ⟨Tryz.f145, _, Tryz.func145, rfl, by kernel_rfl⟩
theorem ent162 : Go.Wk.Enters Tryz.prog 162 := ⟨Tryz.f162, _, Tryz.func162, rfl, by kernel_rfl⟩
theorem ent163 : Go.Wk.Enters Tryz.prog 163 := ⟨Tryz.f163, _, Tryz.func163, rfl, by kernel_rfl⟩
theorem ent196 : Go.Wk.Enters Tryz.prog 196 := ⟨Tryz.f196, _, Tryz.func196, rfl, by kernel_rfl⟩
theorem ent199 : Go.Wk.Enters Tryz.prog 199 := ⟨Tryz.f199, _, Tryz.func199, rfl, by kernel_rfl⟩
theorem ent229 : Go.Wk.Enters Tryz.prog 229 := ⟨Tryz.f229, _, Tryz.func229, rfl, by kernel_rfl⟩
theorem ent231 : Go.Wk.Enters Tryz.prog 231 := ⟨Tryz.f231, _, Tryz.func231, rfl, by kernel_rfl⟩
theorem akl {fu : Nat} {a1 : List (Str × Str × Bool)} (a2 : Option Addr) (a5 : Nat) (a3 : Nat) {w : World} {r : List (Str × Str × Bool)} (hr : ahz fu a1 = some r) (hG : Gl w) (a9 : a5 = a1.length) (b0 : Rd w a2 (zai aaa a1)) (b4 : a5 ≤ a3) : CR Tryz.prog 100 [(Vs a2 a5 a3)] w fun v w' => ∃ (o0 : Option Nat), ∃ (a0 : Option Addr), ∃ (cap0 : Nat), v = (Vs a0 r.length cap0) ∧ Hp w [] [rwt aaa 46 3 o0 a0 cap0 r] w' := by
  subst a9
  have hH : Hp w [] [] w := Hp.refl w
  refine enter (k := 8) Tryz.func100 rfl rfl nbe ?_
  unfold ahz at hr
  refine sr (wp 1 (nq (sr (wp 1 (gi hr fun g4 hr => aat 98 #[] [(Vs a2 a1.length a3)] _ ent98 krf krf (sh_Clone98 a1 w a2 a1.length a3 rfl (b0.hp hH) g4) ?_)))))
  rintro _ w1 ⟨o5, a6, cap7, rfl, a7⟩
  have a4 : Hp w [] [rwt aaa 46 3 o5 a6 cap7 a1] w1 := Hp.callK (L1 := []) (L2 := []) hH a7; clear a7
  refine wp 1 (nq (sr (wp 1 (bi hr fun y8 b1 hr => aat 163 #[] [(Vs a6 a1.length cap7), (zan (.func 164) #[] #[])] _ ent163 krf krf (ail o5 a6 cap7 b1 (hG.hp0 a4) (a4.hand (L1 := [rwt aaa 46 3 o5 a6 cap7 a1]) (L2 := [])) (a4.highs hG (fun _ h => absurd h (by simp)) 1 rfl)) ?_))))
  rintro _ b2 ⟨rfl, b5, a8⟩
  have b3 : Hp w [] [rwt aaa 46 3 o5 a6 cap7 y8] b2 := Hp.callK (L1 := [rwt aaa 46 3 o5 a6 cap7 a1]) (L2 := []) a4 a8; clear a8
  refine nq (sr (wp 2 (nq (ct ?_))))
  obtain rfl := oi hr
  refine r_one (Vs a6 a1.length cap7) rfl krf ?_
  exact ⟨o5, a6, cap7, (by first | rfl | (simp; done) | (simp; omega)), b3.kp⟩
theorem K_L_address_Parse {fu : Nat} {s_0 : Str} {w : World} {r : ((Str × Str × Str × Int × (List (Str × Str × Bool)) × (List (Str × Str × Bool))) × Int × UInt8)} (hr : aoo fu s_0 = some r) (hG : Gl w) : CR Tryz.prog 199 [(str s_0)] w fun v w' => ∃ (o0 : Option Nat), ∃ (a0 : Option Addr), ∃ (cap0 : Nat), ∃ (o1 : Option Nat), ∃ (a1 : Option Addr), ∃ (cap1 : Nat), v = (zal #[(zam #[(str r.1.1), (str r.1.2.1), (str r.1.2.2.1), (Vi .i64 r.1.2.2.2.1), (Vs a0 r.1.2.2.2.2.1.length cap0), (Vs a1 r.1.2.2.2.2.2.length cap1)]), (Vi .i64 r.2.1), (bt r.2.2)]) ∧ Hp w [] [rwt aaa 46 3 o0 a0 cap0 r.1.2.2.2.2.1, rwt aaa 46 3 o1 a1 cap1 r.1.2.2.2.2.2] w' := by
  have hH : Hp w [] [] w := Hp.refl w
  refine enter (k := 128) Tryz.func199 rfl rfl nbe ?_
  unfold aoo at hr
  refine sr (adx hH [(str ([] : Str)), (str ([] : Str)), (str ([] : Str)), (Vi .i64 (0 : Int)), (Vs none 0 0), (Vs none 0 0)] 68 (fun b => (Vp (some ⟨b, 0, none⟩))) rfl rfl krf fun b1 w2 h0 => wp 2 (nq (cs (sr (wp 3 ?_)))))
  refine nq (cd hr (fun h4 hr => ?_) (fun h4 hr => ?_))
  exact nzz hr
  refine ck (qn (sr (wp 1 (aat 146 #[] [(str s_0), (bt (58 : UInt8))] _ ent146 krf krf (aov s_0 (58 : UInt8) w2) ?_))))
  rintro _ w5 ⟨rfl, f3⟩
  have h1 := h0.call f3; clear f3
  refine wp 1 (nq (cs (sr (wp 2 (nq (cd hr (fun h8 hr => ?_) (fun h8 hr => ?_)))))))
  exact nzz hr
  refine ck (qn (sr (wp 3 (gi hr fun g9 hr => aah (ixb (· == (58 : UInt8)) s_0) (1 : Int) krf krf g9 (wp 1 (adx h1 [(str s_0), (Vi .i64 ((ixb (· == (58 : UInt8)) s_0) + (1 : Int)))] 119 (fun b => (Vp (some ⟨b, 0, none⟩))) rfl rfl krf fun a7 m0 f4 => wp 1 ?_))))))
  refine nq (sr (wp 2 (gi hr fun h2 hr => akv s_0 .i64 (ixb (· == (58 : UInt8)) s_0) Tryz.underlying9 krf krf h2 (bi hr fun c7 h3 hr => wc ent84 f4 (ado h3 (hG.hp0 f4)) fun m1 h5 => wp 1 ?_))))
  refine adx h5 [(str ([] : Str)), (str ([] : Str)), (str ([] : Str)), (Vi .i64 (0 : Int)), (Vs none 0 0), (Vs none 0 0)] 68 (fun b => (Vp (some ⟨b, 0, none⟩))) rfl rfl krf fun a5 m2 h6 => ahl h6 0 a5 0 [(str ([] : Str)), (str ([] : Str)), (str ([] : Str)), (Vi .i64 (0 : Int)), (Vs none 0 0), (Vs none 0 0)] [(str c7), (str ([] : Str)), (str ([] : Str)), (Vi .i64 (0 : Int)), (Vs none 0 0), (Vs none 0 0)] 68 [blk a5 [(str c7), (str ([] : Str)), (str ([] : Str)), (Vi .i64 (0 : Int)), (Vs none 0 0), (Vs none 0 0)] 68, blk a7 [(str s_0), (Vi .i64 ((ixb (· == (58 : UInt8)) s_0) + (1 : Int)))] 119, blk b1 [(str ([] : Str)), (str ([] : Str)), (str ([] : Str)), (Vi .i64 (0 : Int)), (Vs none 0 0), (Vs none 0 0)] 68] rfl nbe krf krf rfl krf rfl fun d6 f5 => nq (sr (wp 2 (nq (cs ?_))))
  refine cr (wp 1 (nq (cs (sr (wp 1 (acr f5 0 a5 0 [(str c7), (str ([] : Str)), (str ([] : Str)), (Vi .i64 (0 : Int)), (Vs none 0 0), (Vs none 0 0)] 68 (str c7) rfl rfl krf krf (wl ?_)))))))
  refine qn (ce (cs (sr (wp 2 (nq (cd hr (fun h7 hr => ?_) (fun h7 hr => ?_)))))))
  refine ck (qn (cd hr (fun h9 hr => ?_) (fun h9 hr => ?_)))
  refine cr (wp 1 ?_)
  have e6 := f5.nilrw aaa 46 3 none
  replace e6 : Hp w [] [rwt aaa 46 3 none none 0 ([] : List (Str × Str × Bool)), blk a5 [(str c7), (str ([] : Str)), (str ([] : Str)), (Vi .i64 (0 : Int)), (Vs none 0 0), (Vs none 0 0)] 68, blk a7 [(str s_0), (Vi .i64 ((ixb (· == (58 : UInt8)) s_0) + (1 : Int)))] 119, blk b1 [(str ([] : Str)), (str ([] : Str)), (str ([] : Str)), (Vi .i64 (0 : Int)), (Vs none 0 0), (Vs none 0 0)] 68] d6 := e6
  have e7 := e6.nilrw aaa 46 3 none
  replace e7 : Hp w [] [rwt aaa 46 3 none none 0 ([] : List (Str × Str × Bool)), rwt aaa 46 3 none none 0 ([] : List (Str × Str × Bool)), blk a5 [(str c7), (str ([] : Str)), (str ([] : Str)), (Vi .i64 (0 : Int)), (Vs none 0 0), (Vs none 0 0)] 68, blk a7 [(str s_0), (Vi .i64 ((ixb (· == (58 : UInt8)) s_0) + (1 : Int)))] 119, blk b1 [(str ([] : Str)), (str ([] : Str)), (str ([] : Str)), (Vi .i64 (0 : Int)), (Vs none 0 0), (Vs none 0 0)] 68] d6 := e7
  refine bi hr fun a2 i0 hr => ?_
  have i1 : Hp w [] [rwt aaa 46 3 none none 0 ([] : List (Str × Str × Bool)), rwt aaa 46 3 none none 0 ([] : List (Str × Str × Bool)), blk a5 [(str c7), (str ([] : Str)), (str ([] : Str)), (Vi .i64 (0 : Int)), (Vs none 0 0), (Vs none 0 0)] 68, blk a7 [(str s_0), (Vi .i64 ((ixb (· == (58 : UInt8)) s_0) + (1 : Int)))] 119, blk b1 [(str ([] : Str)), (str ([] : Str)), (str ([] : Str)), (Vi .i64 (0 : Int)), (Vs none 0 0), (Vs none 0 0)] 68] d6 := e7.front 1 _ rfl
  have i2 : Hp w [] [blk a5 [(str c7), (str ([] : Str)), (str ([] : Str)), (Vi .i64 (0 : Int)), (Vs none 0 0), (Vs none 0 0)] 68, rwt aaa 46 3 none none 0 ([] : List (Str × Str × Bool)), rwt aaa 46 3 none none 0 ([] : List (Str × Str × Bool)), blk a7 [(str s_0), (Vi .i64 ((ixb (· == (58 : UInt8)) s_0) + (1 : Int)))] 119, blk b1 [(str ([] : Str)), (str ([] : Str)), (str ([] : Str)), (Vi .i64 (0 : Int)), (Vs none 0 0), (Vs none 0 0)] 68] d6 := i1.front 2 _ rfl
  have e4 : Hp w [] [blk a7 [(str s_0), (Vi .i64 ((ixb (· == (58 : UInt8)) s_0) + (1 : Int)))] 119, blk a5 [(str c7), (str ([] : Str)), (str ([] : Str)), (Vi .i64 (0 : Int)), (Vs none 0 0), (Vs none 0 0)] 68, rwt aaa 46 3 none none 0 ([] : List (Str × Str × Bool)), rwt aaa 46 3 none none 0 ([] : List (Str × Str × Bool)), blk b1 [(str ([] : Str)), (str ([] : Str)), (str ([] : Str)), (Vi .i64 (0 : Int)), (Vs none 0 0), (Vs none 0 0)] 68] d6 := i2.front 3 _ rfl
  refine aat 229 #[] [(Vp (some ⟨a7, 0, none⟩)), (Vp (some ⟨a5, 0, none⟩))] _ ent229 krf krf (aps a7 a5 none none 0 none none 0 i0 (hG.hp0 e4) (e4.hand (L1 := [blk a7 [(str s_0), (Vi .i64 ((ixb (· == (58 : UInt8)) s_0) + (1 : Int)))] 119, blk a5 [(str c7), (str ([] : Str)), (str ([] : Str)), (Vi .i64 (0 : Int)), (Vs none 0 0), (Vs none 0 0)] 68, rwt aaa 46 3 none none 0 ([] : List (Str × Str × Bool)), rwt aaa 46 3 none none 0 ([] : List (Str × Str × Bool))]) (L2 := [blk b1 [(str ([] : Str)), (str ([] : Str)), (str ([] : Str)), (Vi .i64 (0 : Int)), (Vs none 0 0), (Vs none 0 0)] 68])) (e4.highs hG (fun _ h => absurd h (by simp)) 4 rfl)) ?_
  rintro _ i3 ⟨f6, e8, e9, b4, a3, a4, rfl, f7⟩
  have i4 : Hp w [] [blk a7 [(str a2.2.2.1.1), (Vi .i64 a2.2.2.1.2)] 119, blk a5 [(str a2.2.2.2.1), (str a2.2.2.2.2.1), (str a2.2.2.2.2.2.1), (Vi .i64 a2.2.2.2.2.2.2.1), (Vs e8 a2.2.2.2.2.2.2.2.1.length e9), (Vs a3 a2.2.2.2.2.2.2.2.2.length a4)] 68, rwt aaa 46 3 f6 e8 e9 a2.2.2.2.2.2.2.2.1, rwt aaa 46 3 b4 a3 a4 a2.2.2.2.2.2.2.2.2, blk b1 [(str ([] : Str)), (str ([] : Str)), (str ([] : Str)), (Vi .i64 (0 : Int)), (Vs none 0 0), (Vs none 0 0)] 68] i3 := Hp.callK (L1 := [blk a7 [(str s_0), (Vi .i64 ((ixb (· == (58 : UInt8)) s_0) + (1 : Int)))] 119, blk a5 [(str c7), (str ([] : Str)), (str ([] : Str)), (Vi .i64 (0 : Int)), (Vs none 0 0), (Vs none 0 0)] 68, rwt aaa 46 3 none none 0 ([] : List (Str × Str × Bool)), rwt aaa 46 3 none none 0 ([] : List (Str × Str × Bool))]) (L2 := [blk b1 [(str ([] : Str)), (str ([] : Str)), (str ([] : Str)), (Vi .i64 (0 : Int)), (Vs none 0 0), (Vs none 0 0)] 68]) e4 f7; clear f7
  refine wp 5 (wl (bn (qn (bi hr fun f8 i5 hr => cut (σ := (Int × UInt8 × Str × Int × (List (Str × Str × Bool))) × (Option Nat) × (Option Addr) × Nat) [2, 3, 4, 6, 7, 8, 9] (fun ⟨a6, c3, a8, a9⟩ => [(8, (Vi .i64 a6.1)), (9, (bt a6.2.1))]) (fun ⟨a6, c3, a8, a9⟩ w' => Hp w [] [blk a7 [(str a6.2.2.1), (Vi .i64 a6.2.2.2.1)] 119, blk a5 [(str a2.2.2.2.1), (str a2.2.2.2.2.1), (str a2.2.2.2.2.2.1), (Vi .i64 a2.2.2.2.2.2.2.1), (Vs a8 a6.2.2.2.2.length a9), (Vs a3 a2.2.2.2.2.2.2.2.2.length a4)] 68, rwt aaa 46 3 b4 a3 a4 a2.2.2.2.2.2.2.2.2, blk b1 [(str ([] : Str)), (str ([] : Str)), (str ([] : Str)), (Vi .i64 (0 : Int)), (Vs none 0 0), (Vs none 0 0)] 68, rwt aaa 46 3 c3 a8 a9 a6.2.2.2.2] w' ∧ a6 = f8) ?_ ?_))))
  refine ce (lpG (σ := Nat × Int × UInt8 × Str × Int × (List (Str × Str × Bool)) × (Option Nat) × (Option Addr) × Nat) [2, 3, 4, 6, 7, 8, 9, 10] (fun ⟨d3, d4, c9, b6, b5, b0, c4, b2, b3⟩ => [(8, (Vi .i64 d4)), (9, (bt c9))]) (fun ⟨d3, d4, c9, b6, b5, b0, c4, b2, b3⟩ w' => Hp w [] [blk a7 [(str b6), (Vi .i64 b5)] 119, blk a5 [(str a2.2.2.2.1), (str a2.2.2.2.2.1), (str a2.2.2.2.2.2.1), (Vi .i64 a2.2.2.2.2.2.2.1), (Vs b2 b0.length b3), (Vs a3 a2.2.2.2.2.2.2.2.2.length a4)] 68, rwt aaa 46 3 b4 a3 a4 a2.2.2.2.2.2.2.2.2, blk b1 [(str ([] : Str)), (str ([] : Str)), (str ([] : Str)), (Vi .i64 (0 : Int)), (Vs none 0 0), (Vs none 0 0)] 68, rwt aaa 46 3 c4 b2 b3 b0] w' ∧ ajv fu d3 d4 c9 b6 b5 b0 = some f8) (fun ⟨d3, d4, c9, b6, b5, b0, c4, b2, b3⟩ => d3) (fu, a2.1, a2.2.1, a2.2.2.1.1, a2.2.2.1.2, a2.2.2.2.2.2.2.2.1, f6, e8, e9) (by exact ⟨(Hp.front (Hp.front (Hp.front (Hp.front (Hp.front i4 2 _ rfl) 4 _ rfl) 4 _ rfl) 4 _ rfl) 4 _ rfl).kp, i5⟩) ?_)
  rintro ⟨_ | d3, d4, c9, b6, b5, b0, c4, b2, b3⟩ m3 G ⟨d7, c0⟩
  · exact nzz c0
  rw [ajv.eq_2] at c0
  refine cs (bi c0 fun i6 d0 c0 => agq d7 [2, 3, 4, 6, 7, 8, 9, 10, 55] [(55, (Vb i6))] ?_ ?_)
  refine cr (wp 1 (acv c9 (0 : UInt8) krf krf (wd d0 (fun i7 d0 => ?_) (fun i7 d0 => ?_))))
  refine wp 1 (gy 52 (bi d0 fun m4 i9 d0 => aat 113 #[] [(Vp (some ⟨a7, 0, none⟩)), (bt (59 : UInt8))] _ aoy krf krf (acp a7 i9 (hG.hp0 d7) (d7.hand (L1 := [blk a7 [(str b6), (Vi .i64 b5)] 119]) (L2 := [blk a5 [(str a2.2.2.2.1), (str a2.2.2.2.2.1), (str a2.2.2.2.2.2.1), (Vi .i64 a2.2.2.2.2.2.2.1), (Vs b2 b0.length b3), (Vs a3 a2.2.2.2.2.2.2.2.2.length a4)] 68, rwt aaa 46 3 b4 a3 a4 a2.2.2.2.2.2.2.2.2, blk b1 [(str ([] : Str)), (str ([] : Str)), (str ([] : Str)), (Vi .i64 (0 : Int)), (Vs none 0 0), (Vs none 0 0)] 68, rwt aaa 46 3 c4 b2 b3 b0])) (d7.highs hG (fun _ h => absurd h (by simp)) 1 rfl)) ?_))
  rintro _ j0 ⟨rfl, f9⟩
  have j1 : Hp w [] [blk a7 [(str b6), (Vi .i64 b5)] 119, blk a5 [(str a2.2.2.2.1), (str a2.2.2.2.2.1), (str a2.2.2.2.2.2.1), (Vi .i64 a2.2.2.2.2.2.2.1), (Vs b2 b0.length b3), (Vs a3 a2.2.2.2.2.2.2.2.2.length a4)] 68, rwt aaa 46 3 b4 a3 a4 a2.2.2.2.2.2.2.2.2, blk b1 [(str ([] : Str)), (str ([] : Str)), (str ([] : Str)), (Vi .i64 (0 : Int)), (Vs none 0 0), (Vs none 0 0)] 68, rwt aaa 46 3 c4 b2 b3 b0] j0 := Hp.callK (L1 := [blk a7 [(str b6), (Vi .i64 b5)] 119]) (L2 := [blk a5 [(str a2.2.2.2.1), (str a2.2.2.2.2.1), (str a2.2.2.2.2.2.1), (Vi .i64 a2.2.2.2.2.2.2.1), (Vs b2 b0.length b3), (Vs a3 a2.2.2.2.2.2.2.2.2.length a4)] 68, rwt aaa 46 3 b4 a3 a4 a2.2.2.2.2.2.2.2.2, blk b1 [(str ([] : Str)), (str ([] : Str)), (str ([] : Str)), (Vi .i64 (0 : Int)), (Vs none 0 0), (Vs none 0 0)] 68, rwt aaa 46 3 c4 b2 b3 b0]) d7 f9; clear f9
  refine wp 1 (wl (ql ?_))
  obtain rfl := oi d0
  exact je (Hp.front (Hp.front (Hp.front (Hp.front (Hp.front j1 4 _ rfl) 4 _ rfl) 4 _ rfl) 4 _ rfl) 4 _ rfl).kp
  exact nzz d0
  intro m5 G f0
  refine cb c0 (fun j2 c0 => ?_) (fun j2 c0 => ?_)
  refine ck (qn (ce (sr (wp 3 (acr f0 0 a7 1 [(str b6), (Vi .i64 b5)] 119 (Vi .i64 b5) rfl rfl krf krf (gi c0 fun j3 c0 => aah b5 (1 : Int) krf krf j3 (wp 2 ?_)))))))
  refine aht f0 0 a7 1 [(str b6), (Vi .i64 b5)] 119 (Vi .i64 (b5 + (1 : Int))) [blk a7 [(str b6), (Vi .i64 (b5 + (1 : Int)))] 119, blk a5 [(str a2.2.2.2.1), (str a2.2.2.2.2.1), (str a2.2.2.2.2.2.1), (Vi .i64 a2.2.2.2.2.2.2.1), (Vs b2 b0.length b3), (Vs a3 a2.2.2.2.2.2.2.2.2.length a4)] 68, rwt aaa 46 3 b4 a3 a4 a2.2.2.2.2.2.2.2.2, blk b1 [(str ([] : Str)), (str ([] : Str)), (str ([] : Str)), (Vi .i64 (0 : Int)), (Vs none 0 0), (Vs none 0 0)] 68, rwt aaa 46 3 c4 b2 b3 b0] rfl (zaj (zac _) nbe) krf krf rfl krf rfl fun m6 j4 => nq (bi c0 fun j5 j6 c0 => bi c0 fun c6 j7 c0 => adu 21 (fun j_ w_ w_' => aax [13, 14, 15, 16, 17, 18, 19, 20, 21] (fun w' => w'.heap[a5]? = some (.cells [(str a2.2.2.2.1), (str a2.2.2.2.2.1), (str a2.2.2.2.2.2.1), (Vi .i64 a2.2.2.2.2.2.2.1), (Vs b2 b0.length b3), (Vs a3 a2.2.2.2.2.2.2.2.2.length a4)].toArray 68 (0, 0))) j_ w_ w_' ∧ aax [12, 13, 14, 15, 16, 17, 18, 19, 20, 21] (fun w' => w'.heap[a7]? = some (.cells [(str b6), (Vi .i64 (b5 + (1 : Int)))].toArray 119 (0, 0))) j_ w_ w_' ∧ True) [false, false, false, false, false, false, false, false, false, false, false, false, false, false, false, false, false, false, false, false, false, false] (fun _ _ => ⟨aax.same, aax.same, trivial⟩) krf krf j4 rfl (aas (aaq (aas (aaq acy)))) fun m7 d8 => rp 19 [0, 1] (aak [true, true, true, false, false, false, false, false, false, false, false, false, false, false, false, false, false, false, false, false, false, false] 2 66 (Vs b2 b0.length b3) [13, 14, 15, 16, 17, 18, 19, 20, 21] (fun _ _ _ h => h.1) _ rfl rfl krf krf krf krf krf rfl (abc rfl (by intro w hS_; exact (afc a5 4 [(str a2.2.2.2.1), (str a2.2.2.2.2.1), (str a2.2.2.2.2.2.1), (Vi .i64 a2.2.2.2.2.2.2.1), (Vs b2 b0.length b3), (Vs a3 a2.2.2.2.2.2.2.2.2.length a4)] 68 (Vs b2 b0.length b3) hS_ rfl krf krf))) (by exact d8.blkAt 1 rfl) (rp 15 [3, 4, 5] (aak [true, true, true, true, true, true, true, false, false, false, false, false, false, false, false, false, false, false, false, false, false, false] 6 70 (zam #[(str b6)]) [12, 13, 14, 15, 16, 17, 18, 19, 20, 21] (fun _ _ _ h => h.2.1) _ rfl rfl krf krf krf krf krf rfl (abc rfl (by intro w hS_; exact (x_ldN a7 0 1 [(str b6), (Vi .i64 (b5 + (1 : Int)))] [(str b6)] 119 hS_ rfl rfl krf krf krf))) (by exact d8.blkAt 0 rfl) ?_))))
  refine rp 11 [7, 8, 9] (aak [true, true, true, true, true, true, true, true, true, true, true, false, false, false, false, false, false, false, false, false, false, false] 10 74 (Vi .i64 (b5 + (1 : Int))) [12, 13, 14, 15, 16, 17, 18, 19, 20, 21] (fun _ _ _ h => h.2.1) _ rfl rfl krf krf krf krf krf rfl (abc rfl (by intro w hS_; exact (afc a7 1 [(str b6), (Vi .i64 (b5 + (1 : Int)))] 119 (Vi .i64 (b5 + (1 : Int))) hS_ rfl krf krf))) (by exact d8.blkAt 0 rfl) (rp 9 [11] (ro 12 rfl (wc ent177 d8 (ahs j6 (hG.hp0 d8)) fun g0 g1 => wl (abq (by exact ⟨aax.new (g1.blkAt 1 rfl), aax.out rfl, trivial⟩) (ro 13 rfl ?_))))))
  have j8 : Hp w [] [rwt aaa 46 3 c4 b2 b3 b0, blk a7 [(str b6), (Vi .i64 (b5 + (1 : Int)))] 119, blk a5 [(str a2.2.2.2.1), (str a2.2.2.2.2.1), (str a2.2.2.2.2.2.1), (Vi .i64 a2.2.2.2.2.2.2.1), (Vs b2 b0.length b3), (Vs a3 a2.2.2.2.2.2.2.2.2.length a4)] 68, rwt aaa 46 3 b4 a3 a4 a2.2.2.2.2.2.2.2.2, blk b1 [(str ([] : Str)), (str ([] : Str)), (str ([] : Str)), (Vi .i64 (0 : Int)), (Vs none 0 0), (Vs none 0 0)] 68] g0 := g1.front 4 _ rfl
  have e5 : Hp w [] [blk a7 [(str b6), (Vi .i64 (b5 + (1 : Int)))] 119, rwt aaa 46 3 c4 b2 b3 b0, blk a5 [(str a2.2.2.2.1), (str a2.2.2.2.2.1), (str a2.2.2.2.2.2.1), (Vi .i64 a2.2.2.2.2.2.2.1), (Vs b2 b0.length b3), (Vs a3 a2.2.2.2.2.2.2.2.2.length a4)] 68, rwt aaa 46 3 b4 a3 a4 a2.2.2.2.2.2.2.2.2, blk b1 [(str ([] : Str)), (str ([] : Str)), (str ([] : Str)), (Vi .i64 (0 : Int)), (Vs none 0 0), (Vs none 0 0)] 68] g0 := j8.front 1 _ rfl
  refine aat 231 #[] [(Vp (some ⟨a7, 0, none⟩)), (Vs b2 b0.length b3), (Vi .i64 j5), (Vi .i64 (1 : Int))] _ ent231 krf krf (apt a7 c4 b2 b3 j7 (hG.hp0 e5) (e5.hand (L1 := [blk a7 [(str b6), (Vi .i64 (b5 + (1 : Int)))] 119, rwt aaa 46 3 c4 b2 b3 b0]) (L2 := [blk a5 [(str a2.2.2.2.1), (str a2.2.2.2.2.1), (str a2.2.2.2.2.2.1), (Vi .i64 a2.2.2.2.2.2.2.1), (Vs b2 b0.length b3), (Vs a3 a2.2.2.2.2.2.2.2.2.length a4)] 68, rwt aaa 46 3 b4 a3 a4 a2.2.2.2.2.2.2.2.2, blk b1 [(str ([] : Str)), (str ([] : Str)), (str ([] : Str)), (Vi .i64 (0 : Int)), (Vs none 0 0), (Vs none 0 0)] 68])) (e5.highs hG (fun _ h => absurd h (by simp)) 2 rfl)) ?_
  rintro _ j9 ⟨f1, d9, e0, rfl, g2⟩
  have k0 : Hp w [] [blk a7 [(str c6.2.2.2.1), (Vi .i64 c6.2.2.2.2)] 119, rwt aaa 46 3 f1 d9 e0 c6.1, blk a5 [(str a2.2.2.2.1), (str a2.2.2.2.2.1), (str a2.2.2.2.2.2.1), (Vi .i64 a2.2.2.2.2.2.2.1), (Vs b2 b0.length b3), (Vs a3 a2.2.2.2.2.2.2.2.2.length a4)] 68, rwt aaa 46 3 b4 a3 a4 a2.2.2.2.2.2.2.2.2, blk b1 [(str ([] : Str)), (str ([] : Str)), (str ([] : Str)), (Vi .i64 (0 : Int)), (Vs none 0 0), (Vs none 0 0)] 68] j9 := Hp.callK (L1 := [blk a7 [(str b6), (Vi .i64 (b5 + (1 : Int)))] 119, rwt aaa 46 3 c4 b2 b3 b0]) (L2 := [blk a5 [(str a2.2.2.2.1), (str a2.2.2.2.2.1), (str a2.2.2.2.2.2.1), (Vi .i64 a2.2.2.2.2.2.2.1), (Vs b2 b0.length b3), (Vs a3 a2.2.2.2.2.2.2.2.2.length a4)] 68, rwt aaa 46 3 b4 a3 a4 a2.2.2.2.2.2.2.2.2, blk b1 [(str ([] : Str)), (str ([] : Str)), (str ([] : Str)), (Vi .i64 (0 : Int)), (Vs none 0 0), (Vs none 0 0)] 68]) e5 g2; clear g2
  refine wl (abq (by exact ⟨aax.out rfl, aax.out rfl, trivial⟩) (rp 2 [14, 15, 16, 17, 18] (ro 19 rfl (aht k0 2 a5 4 [(str a2.2.2.2.1), (str a2.2.2.2.2.1), (str a2.2.2.2.2.2.1), (Vi .i64 a2.2.2.2.2.2.2.1), (Vs b2 b0.length b3), (Vs a3 a2.2.2.2.2.2.2.2.2.length a4)] 68 (Vs d9 c6.1.length e0) [blk a7 [(str c6.2.2.2.1), (Vi .i64 c6.2.2.2.2)] 119, rwt aaa 46 3 f1 d9 e0 c6.1, blk a5 [(str a2.2.2.2.1), (str a2.2.2.2.2.1), (str a2.2.2.2.2.2.1), (Vi .i64 a2.2.2.2.2.2.2.1), (Vs d9 c6.1.length e0), (Vs a3 a2.2.2.2.2.2.2.2.2.length a4)] 68, rwt aaa 46 3 b4 a3 a4 a2.2.2.2.2.2.2.2.2, blk b1 [(str ([] : Str)), (str ([] : Str)), (str ([] : Str)), (Vi .i64 (0 : Int)), (Vs none 0 0), (Vs none 0 0)] 68] rfl (zaj (zac _) nbe) krf krf rfl krf rfl fun m8 k1 => wl (abq (by exact ⟨aax.out rfl, aax.out rfl, trivial⟩) (rp 0 [20] (adi krf (wp 1 ?_))))))))
  refine wl (bn (ql ?_))
  exact ⟨(d3, c6.2.1, c6.2.2.1, c6.2.2.2.1, c6.2.2.2.2, c6.1, f1, d9, e0), _, rfl, by kernel_rfl, ⟨(Hp.front (Hp.front (Hp.front (Hp.front (Hp.front k1 1 _ rfl) 4 _ rfl) 4 _ rfl) 4 _ rfl) 4 _ rfl).kp, c0⟩, zac _⟩
  refine ace (acd (acq (acf (ql ?_))))
  obtain rfl := oi c0
  exact ⟨((d4, c9, b6, b5, b0), c4, b2, b3), _, rfl, by kernel_rfl, (Hp.front (Hp.front (Hp.front (Hp.front (Hp.front f0 4 _ rfl) 4 _ rfl) 4 _ rfl) 4 _ rfl) 4 _ rfl).kp, rfl⟩
  rintro ⟨a6, c3, a8, a9⟩ m9 G ⟨k2, rfl⟩
  refine bi hr fun k3 k4 hr => cut (σ := Unit) [2, 3, 4, 7, 8, 9] (fun f2 => []) (fun f2 w' => Hp w [] [blk a5 [(str a2.2.2.2.1), (str a2.2.2.2.2.1), (str a2.2.2.2.2.2.1), (Vi .i64 a2.2.2.2.2.2.2.1), (Vs a8 a6.2.2.2.2.length a9), (Vs a3 a2.2.2.2.2.2.2.2.2.length a4)] 68, rwt aaa 46 3 b4 a3 a4 a2.2.2.2.2.2.2.2.2, blk b1 [(str ([] : Str)), (str ([] : Str)), (str ([] : Str)), (Vi .i64 (0 : Int)), (Vs none 0 0), (Vs none 0 0)] 68, rwt aaa 46 3 c3 a8 a9 a6.2.2.2.2] w' ∧ f2 = k3) ?_ ?_
  refine ce (lpS (fun g3 (_ : Unit) => alx fu a6 g3) () k2 k4 [2, 3, 4, 6, 7, 8, 9] (fun (_ : Unit) => []) (fun _ => rfl) ?_)
  rintro g3 _ n0 G e1 c8
  rw [alx.eq_2] at c8
  refine cs (bi c8 fun k5 d1 c8 => agq e1 [2, 3, 4, 6, 7, 8, 9, 88] [(88, (Vb k5))] ?_ ?_)
  refine cr (wp 1 (acv a6.2.1 (0 : UInt8) krf krf (wd d1 (fun k6 d1 => ?_) (fun k6 d1 => ?_))))
  refine wp 1 (gy 84 (bi d1 fun n1 k7 d1 => aat 112 #[] [(Vp (some ⟨a7, 0, none⟩))] _ ent112 krf krf (afx a7 k7 (hG.hp0 e1) (e1.hand (L1 := [blk a7 [(str a6.2.2.1), (Vi .i64 a6.2.2.2.1)] 119]) (L2 := [blk a5 [(str a2.2.2.2.1), (str a2.2.2.2.2.1), (str a2.2.2.2.2.2.1), (Vi .i64 a2.2.2.2.2.2.2.1), (Vs a8 a6.2.2.2.2.length a9), (Vs a3 a2.2.2.2.2.2.2.2.2.length a4)] 68, rwt aaa 46 3 b4 a3 a4 a2.2.2.2.2.2.2.2.2, blk b1 [(str ([] : Str)), (str ([] : Str)), (str ([] : Str)), (Vi .i64 (0 : Int)), (Vs none 0 0), (Vs none 0 0)] 68, rwt aaa 46 3 c3 a8 a9 a6.2.2.2.2])) (e1.highs hG (fun _ h => absurd h (by simp)) 1 rfl)) ?_))
  rintro _ k8 ⟨rfl, g4⟩
  have k9 : Hp w [] [blk a7 [(str a6.2.2.1), (Vi .i64 a6.2.2.2.1)] 119, blk a5 [(str a2.2.2.2.1), (str a2.2.2.2.2.1), (str a2.2.2.2.2.2.1), (Vi .i64 a2.2.2.2.2.2.2.1), (Vs a8 a6.2.2.2.2.length a9), (Vs a3 a2.2.2.2.2.2.2.2.2.length a4)] 68, rwt aaa 46 3 b4 a3 a4 a2.2.2.2.2.2.2.2.2, blk b1 [(str ([] : Str)), (str ([] : Str)), (str ([] : Str)), (Vi .i64 (0 : Int)), (Vs none 0 0), (Vs none 0 0)] 68, rwt aaa 46 3 c3 a8 a9 a6.2.2.2.2] k8 := Hp.callK (L1 := [blk a7 [(str a6.2.2.1), (Vi .i64 a6.2.2.2.1)] 119]) (L2 := [blk a5 [(str a2.2.2.2.1), (str a2.2.2.2.2.1), (str a2.2.2.2.2.2.1), (Vi .i64 a2.2.2.2.2.2.2.1), (Vs a8 a6.2.2.2.2.length a9), (Vs a3 a2.2.2.2.2.2.2.2.2.length a4)] 68, rwt aaa 46 3 b4 a3 a4 a2.2.2.2.2.2.2.2.2, blk b1 [(str ([] : Str)), (str ([] : Str)), (str ([] : Str)), (Vi .i64 (0 : Int)), (Vs none 0 0), (Vs none 0 0)] 68, rwt aaa 46 3 c3 a8 a9 a6.2.2.2.2]) e1 g4; clear g4
  refine wp 2 (wl (ql ?_))
  obtain rfl := oi d1
  exact je (Hp.front (Hp.front (Hp.front (Hp.front (Hp.front k9 4 _ rfl) 4 _ rfl) 4 _ rfl) 4 _ rfl) 4 _ rfl).kp
  exact nzz d1
  intro n2 G l0
  refine cb c8 (fun l1 c8 => ?_) (fun l1 c8 => ?_)
  exact nzz c8
  refine ace (acd (acq (acf (ql ?_))))
  obtain rfl := oi c8
  exact ⟨(), _, rfl, by kernel_rfl, (Hp.front (Hp.front (Hp.front (Hp.front l0 4 _ rfl) 4 _ rfl) 4 _ rfl) 4 _ rfl).kp, rfl⟩
  rintro f2 n3 G ⟨l2, rfl⟩
  refine cs (sr (wp 1 (afs a6.2.1 (0 : UInt8) krf krf (nq (cn hr (fun l3 hr => ?_) (fun l3 hr => ?_))))))
  exact nzz hr
  refine ck (qn (cs (bi hr fun b9 l4 hr => adu 5 (fun j_ w_ w_' => aax [2, 5, 6, 7, 8, 9] (fun w' => w'.heap[a5]? = some (.cells [(str a2.2.2.2.1), (str a2.2.2.2.2.1), (str a2.2.2.2.2.2.1), (Vi .i64 a2.2.2.2.2.2.2.1), (Vs a8 a6.2.2.2.2.length a9), (Vs a3 a2.2.2.2.2.2.2.2.2.length a4)].toArray 68 (0, 0))) j_ w_ w_' ∧ aax [5, 6, 7, 8, 9] (fun w' => w'.heap[a5]? = some (.cells [(str a2.2.2.2.1), (str a2.2.2.2.2.1), (str a2.2.2.2.2.2.1), (Vi .i64 a2.2.2.2.2.2.2.1), (Vs a8 a6.2.2.2.2.length a9), (Vs a3 a2.2.2.2.2.2.2.2.2.length a4)].toArray 68 (0, 0))) j_ w_ w_' ∧ True) [false, false, false, false, false, false, false, false, false, false] (fun _ _ => ⟨aax.same, aax.same, trivial⟩) krf krf l2 rfl (acz acy) fun n4 d5 => rp 4 [0] (aak [true, true, false, false, false, false, false, false, false, false] 1 120 (Vs a8 a6.2.2.2.2.length a9) [2, 5, 6, 7, 8, 9] (fun _ _ _ h => h.1) _ rfl rfl krf krf krf krf krf rfl (abc rfl (by intro w hS_; exact (afc a5 4 [(str a2.2.2.2.1), (str a2.2.2.2.2.1), (str a2.2.2.2.2.2.1), (Vi .i64 a2.2.2.2.2.2.2.1), (Vs a8 a6.2.2.2.2.length a9), (Vs a3 a2.2.2.2.2.2.2.2.2.length a4)] 68 (Vs a8 a6.2.2.2.2.length a9) hS_ rfl krf krf))) (by exact d5.blkAt 0 rfl) (rp 2 [3] (aak [true, true, false, true, true, false, false, false, false, false] 4 123 (Vs a3 a2.2.2.2.2.2.2.2.2.length a4) [5, 6, 7, 8, 9] (fun _ _ _ h => h.2.1) _ rfl rfl krf krf krf krf krf rfl (abc rfl (by intro w hS_; exact (afc a5 5 [(str a2.2.2.2.1), (str a2.2.2.2.2.1), (str a2.2.2.2.2.2.1), (Vi .i64 a2.2.2.2.2.2.2.1), (Vs a8 a6.2.2.2.2.length a9), (Vs a3 a2.2.2.2.2.2.2.2.2.length a4)] 68 (Vs a3 a2.2.2.2.2.2.2.2.2.length a4) hS_ rfl krf krf))) (by exact d5.blkAt 0 rfl) (ro 2 rfl ?_)))))))
  refine aat 100 #[] [(Vs a8 a6.2.2.2.2.length a9)] _ ent100 krf krf (akl a8 a6.2.2.2.2.length a9 l4 (hG.hp0 d5) rfl (d5.rdrw 3 rfl) (d5.rwcap 3 rfl)) ?_
  rintro _ l5 ⟨d2, b7, b8, rfl, g5⟩
  have e2 : Hp w [] [rwt aaa 46 3 d2 b7 b8 b9, blk a5 [(str a2.2.2.2.1), (str a2.2.2.2.2.1), (str a2.2.2.2.2.2.1), (Vi .i64 a2.2.2.2.2.2.2.1), (Vs a8 a6.2.2.2.2.length a9), (Vs a3 a2.2.2.2.2.2.2.2.2.length a4)] 68, rwt aaa 46 3 b4 a3 a4 a2.2.2.2.2.2.2.2.2, blk b1 [(str ([] : Str)), (str ([] : Str)), (str ([] : Str)), (Vi .i64 (0 : Int)), (Vs none 0 0), (Vs none 0 0)] 68, rwt aaa 46 3 c3 a8 a9 a6.2.2.2.2] l5 := Hp.callK (L1 := []) (L2 := [blk a5 [(str a2.2.2.2.1), (str a2.2.2.2.2.1), (str a2.2.2.2.2.2.1), (Vi .i64 a2.2.2.2.2.2.2.1), (Vs a8 a6.2.2.2.2.length a9), (Vs a3 a2.2.2.2.2.2.2.2.2.length a4)] 68, rwt aaa 46 3 b4 a3 a4 a2.2.2.2.2.2.2.2.2, blk b1 [(str ([] : Str)), (str ([] : Str)), (str ([] : Str)), (Vi .i64 (0 : Int)), (Vs none 0 0), (Vs none 0 0)] 68, rwt aaa 46 3 c3 a8 a9 a6.2.2.2.2]) d5 g5; clear g5
  refine wl (abq (by exact ⟨aax.out rfl, aax.new (e2.blkAt 1 rfl), trivial⟩) (adi krf (bi hr fun c5 l6 hr => aat 100 #[] [(Vs a3 a2.2.2.2.2.2.2.2.2.length a4)] _ ent100 krf krf (akl a3 a2.2.2.2.2.2.2.2.2.length a4 l6 (hG.hp0 e2) rfl (e2.rdrw 2 rfl) (e2.rwcap 2 rfl)) ?_)))
  rintro _ l7 ⟨e3, c1, c2, rfl, g6⟩
  have l8 : Hp w [] [rwt aaa 46 3 e3 c1 c2 c5, rwt aaa 46 3 d2 b7 b8 b9, blk a5 [(str a2.2.2.2.1), (str a2.2.2.2.2.1), (str a2.2.2.2.2.2.1), (Vi .i64 a2.2.2.2.2.2.2.1), (Vs a8 a6.2.2.2.2.length a9), (Vs a3 a2.2.2.2.2.2.2.2.2.length a4)] 68, rwt aaa 46 3 b4 a3 a4 a2.2.2.2.2.2.2.2.2, blk b1 [(str ([] : Str)), (str ([] : Str)), (str ([] : Str)), (Vi .i64 (0 : Int)), (Vs none 0 0), (Vs none 0 0)] 68, rwt aaa 46 3 c3 a8 a9 a6.2.2.2.2] l7 := Hp.callK (L1 := []) (L2 := [rwt aaa 46 3 d2 b7 b8 b9, blk a5 [(str a2.2.2.2.1), (str a2.2.2.2.2.1), (str a2.2.2.2.2.2.1), (Vi .i64 a2.2.2.2.2.2.2.1), (Vs a8 a6.2.2.2.2.length a9), (Vs a3 a2.2.2.2.2.2.2.2.2.length a4)] 68, rwt aaa 46 3 b4 a3 a4 a2.2.2.2.2.2.2.2.2, blk b1 [(str ([] : Str)), (str ([] : Str)), (str ([] : Str)), (Vi .i64 (0 : Int)), (Vs none 0 0), (Vs none 0 0)] 68, rwt aaa 46 3 c3 a8 a9 a6.2.2.2.2]) e2 g6; clear g6
  refine wp 1 (aht l8 2 a5 4 [(str a2.2.2.2.1), (str a2.2.2.2.2.1), (str a2.2.2.2.2.2.1), (Vi .i64 a2.2.2.2.2.2.2.1), (Vs a8 a6.2.2.2.2.length a9), (Vs a3 a2.2.2.2.2.2.2.2.2.length a4)] 68 (Vs b7 b9.length b8) [rwt aaa 46 3 e3 c1 c2 c5, rwt aaa 46 3 d2 b7 b8 b9, blk a5 [(str a2.2.2.2.1), (str a2.2.2.2.2.1), (str a2.2.2.2.2.2.1), (Vi .i64 a2.2.2.2.2.2.2.1), (Vs b7 b9.length b8), (Vs a3 a2.2.2.2.2.2.2.2.2.length a4)] 68, rwt aaa 46 3 b4 a3 a4 a2.2.2.2.2.2.2.2.2, blk b1 [(str ([] : Str)), (str ([] : Str)), (str ([] : Str)), (Vi .i64 (0 : Int)), (Vs none 0 0), (Vs none 0 0)] 68, rwt aaa 46 3 c3 a8 a9 a6.2.2.2.2] rfl (zaj (zac _) nbe) krf krf rfl krf rfl fun n5 l9 => wp 1 (aht l9 2 a5 5 [(str a2.2.2.2.1), (str a2.2.2.2.2.1), (str a2.2.2.2.2.2.1), (Vi .i64 a2.2.2.2.2.2.2.1), (Vs b7 b9.length b8), (Vs a3 a2.2.2.2.2.2.2.2.2.length a4)] 68 (Vs c1 c5.length c2) [rwt aaa 46 3 e3 c1 c2 c5, rwt aaa 46 3 d2 b7 b8 b9, blk a5 [(str a2.2.2.2.1), (str a2.2.2.2.2.1), (str a2.2.2.2.2.2.1), (Vi .i64 a2.2.2.2.2.2.2.1), (Vs b7 b9.length b8), (Vs c1 c5.length c2)] 68, rwt aaa 46 3 b4 a3 a4 a2.2.2.2.2.2.2.2.2, blk b1 [(str ([] : Str)), (str ([] : Str)), (str ([] : Str)), (Vi .i64 (0 : Int)), (Vs none 0 0), (Vs none 0 0)] 68, rwt aaa 46 3 c3 a8 a9 a6.2.2.2.2] rfl (zaj (zac _) nbe) krf krf rfl krf rfl fun n6 g7 => nq (sr (aob g7 2 a5 0 6 [(str a2.2.2.2.1), (str a2.2.2.2.2.1), (str a2.2.2.2.2.2.1), (Vi .i64 a2.2.2.2.2.2.2.1), (Vs b7 b9.length b8), (Vs c1 c5.length c2)] [(str a2.2.2.2.1), (str a2.2.2.2.2.1), (str a2.2.2.2.2.2.1), (Vi .i64 a2.2.2.2.2.2.2.1), (Vs b7 b9.length b8), (Vs c1 c5.length c2)] 68 rfl rfl rfl krf krf krf (ahl g7 4 b1 0 [(str ([] : Str)), (str ([] : Str)), (str ([] : Str)), (Vi .i64 (0 : Int)), (Vs none 0 0), (Vs none 0 0)] [(str a2.2.2.2.1), (str a2.2.2.2.2.1), (str a2.2.2.2.2.2.1), (Vi .i64 a2.2.2.2.2.2.2.1), (Vs b7 b9.length b8), (Vs c1 c5.length c2)] 68 [rwt aaa 46 3 e3 c1 c2 c5, rwt aaa 46 3 d2 b7 b8 b9, blk a5 [(str a2.2.2.2.1), (str a2.2.2.2.2.1), (str a2.2.2.2.2.2.1), (Vi .i64 a2.2.2.2.2.2.2.1), (Vs b7 b9.length b8), (Vs c1 c5.length c2)] 68, rwt aaa 46 3 b4 a3 a4 a2.2.2.2.2.2.2.2.2, blk b1 [(str a2.2.2.2.1), (str a2.2.2.2.2.1), (str a2.2.2.2.2.2.1), (Vi .i64 a2.2.2.2.2.2.2.1), (Vs b7 b9.length b8), (Vs c1 c5.length c2)] 68, rwt aaa 46 3 c3 a8 a9 a6.2.2.2.2] rfl nbe krf krf rfl krf rfl fun n7 g8 => ?_)))))
  refine wp 2 (nq (ct ?_))
  obtain rfl := oi hr
  refine aor _ [(zam #[(str a2.2.2.2.1), (str a2.2.2.2.2.1), (str a2.2.2.2.2.2.1), (Vi .i64 a2.2.2.2.2.2.2.1), (Vs b7 b9.length b8), (Vs c1 c5.length c2)]), (Vi .i64 (0 : Int)), (bt (0 : UInt8))] (zal #[(zam #[(str a2.2.2.2.1), (str a2.2.2.2.2.1), (str a2.2.2.2.2.2.1), (Vi .i64 a2.2.2.2.2.2.2.1), (Vs b7 b9.length b8), (Vs c1 c5.length c2)]), (Vi .i64 (0 : Int)), (bt (0 : UInt8))]) rfl rfl (abh (ahv g8 4 b1 68 [(str a2.2.2.2.1), (str a2.2.2.2.2.1), (str a2.2.2.2.2.2.1), (Vi .i64 a2.2.2.2.2.2.2.1), (Vs b7 b9.length b8), (Vs c1 c5.length c2)] rfl krf krf krf) (abh (afe krf) (abh (afe krf) agu))) rfl ?_
  exact ⟨d2, b7, b8, e3, c1, c2, (by first | rfl | (simp; done) | (simp; omega)), (Hp.front g8 1 _ rfl).kp⟩
  exact nzz hr
  exact nzz hr
theorem apj {fu : Nat} {a5 : (Str × Int)} {a3 : (Str × (Str × Str × Str × Int × (List (Str × Str × Bool)) × (List (Str × Str × Bool))) × (List (Str × Str × Bool)))} (b2 : Nat) (b3 : Nat) (b5 : Option Nat) (a8 : Option Addr) (a9 : Nat) (b6 : Option Nat) (b0 : Option Addr) (b1 : Nat) (b4 : Option Nat) (a6 : Option Addr) (a7 : Nat) {w : World} {r : (Int × UInt8 × (Str × Int) × (Str × (Str × Str × Str × Int × (List (Str × Str × Bool)) × (List (Str × Str × Bool))) × (List (Str × Str × Bool))))} (hr : ajs fu a5 a3 = some r) (hG : Gl w) (hM : Hp w (abf [blk b2 [(str a5.1), (Vi .i64 a5.2)] 119, blk b3 [(str a3.1), (str a3.2.1.1), (str a3.2.1.2.1), (str a3.2.1.2.2.1), (Vi .i64 a3.2.1.2.2.2.1), (Vs a8 a3.2.1.2.2.2.2.1.length a9), (Vs b0 a3.2.1.2.2.2.2.2.length b1), (Vs a6 a3.2.2.length a7)] 70, rwt aaa 46 3 b5 a8 a9 a3.2.1.2.2.2.2.1, rwt aaa 46 3 b6 b0 b1 a3.2.1.2.2.2.2.2, rwt aaa 46 3 b4 a6 a7 a3.2.2]) [blk b2 [(str a5.1), (Vi .i64 a5.2)] 119, blk b3 [(str a3.1), (str a3.2.1.1), (str a3.2.1.2.1), (str a3.2.1.2.2.1), (Vi .i64 a3.2.1.2.2.2.1), (Vs a8 a3.2.1.2.2.2.2.1.length a9), (Vs b0 a3.2.1.2.2.2.2.2.length b1), (Vs a6 a3.2.2.length a7)] 70, rwt aaa 46 3 b5 a8 a9 a3.2.1.2.2.2.2.1, rwt aaa 46 3 b6 b0 b1 a3.2.1.2.2.2.2.2, rwt aaa 46 3 b4 a6 a7 a3.2.2] w) (hS : ∀ b ∈ abf [blk b2 [(str a5.1), (Vi .i64 a5.2)] 119, blk b3 [(str a3.1), (str a3.2.1.1), (str a3.2.1.2.1), (str a3.2.1.2.2.1), (Vi .i64 a3.2.1.2.2.2.1), (Vs a8 a3.2.1.2.2.2.2.1.length a9), (Vs b0 a3.2.1.2.2.2.2.2.length b1), (Vs a6 a3.2.2.length a7)] 70, rwt aaa 46 3 b5 a8 a9 a3.2.1.2.2.2.2.1, rwt aaa 46 3 b6 b0 b1 a3.2.1.2.2.2.2.2, rwt aaa 46 3 b4 a6 a7 a3.2.2], 9 ≤ b) : CR Tryz.prog 150 [(Vp (some ⟨b2, 0, none⟩)), (Vp (some ⟨b3, 0, none⟩))] w fun v w' => ∃ (o0 : Option Nat), ∃ (a0 : Option Addr), ∃ (cap0 : Nat), ∃ (o1 : Option Nat), ∃ (a1 : Option Addr), ∃ (cap1 : Nat), ∃ (o2 : Option Nat), ∃ (a2 : Option Addr), ∃ (cap2 : Nat), v = (zal #[(Vi .i64 r.1), (bt r.2.1)]) ∧ Hp w (abf [blk b2 [(str a5.1), (Vi .i64 a5.2)] 119, blk b3 [(str a3.1), (str a3.2.1.1), (str a3.2.1.2.1), (str a3.2.1.2.2.1), (Vi .i64 a3.2.1.2.2.2.1), (Vs a8 a3.2.1.2.2.2.2.1.length a9), (Vs b0 a3.2.1.2.2.2.2.2.length b1), (Vs a6 a3.2.2.length a7)] 70, rwt aaa 46 3 b5 a8 a9 a3.2.1.2.2.2.2.1, rwt aaa 46 3 b6 b0 b1 a3.2.1.2.2.2.2.2, rwt aaa 46 3 b4 a6 a7 a3.2.2]) [blk b2 [(str r.2.2.1.1), (Vi .i64 r.2.2.1.2)] 119, blk b3 [(str r.2.2.2.1), (str r.2.2.2.2.1.1), (str r.2.2.2.2.1.2.1), (str r.2.2.2.2.1.2.2.1), (Vi .i64 r.2.2.2.2.1.2.2.2.1), (Vs a0 r.2.2.2.2.1.2.2.2.2.1.length cap0), (Vs a1 r.2.2.2.2.1.2.2.2.2.2.length cap1), (Vs a2 r.2.2.2.2.2.length cap2)] 70, rwt aaa 46 3 o0 a0 cap0 r.2.2.2.2.1.2.2.2.2.1, rwt aaa 46 3 o1 a1 cap1 r.2.2.2.2.1.2.2.2.2.2, rwt aaa 46 3 o2 a2 cap2 r.2.2.2.2.2] w' := by
  have hH : Hp w (abf [blk b2 [(str a5.1), (Vi .i64 a5.2)] 119, blk b3 [(str a3.1), (str a3.2.1.1), (str a3.2.1.2.1), (str a3.2.1.2.2.1), (Vi .i64 a3.2.1.2.2.2.1), (Vs a8 a3.2.1.2.2.2.2.1.length a9), (Vs b0 a3.2.1.2.2.2.2.2.length b1), (Vs a6 a3.2.2.length a7)] 70, rwt aaa 46 3 b5 a8 a9 a3.2.1.2.2.2.2.1, rwt aaa 46 3 b6 b0 b1 a3.2.1.2.2.2.2.2, rwt aaa 46 3 b4 a6 a7 a3.2.2]) [blk b2 [(str a5.1), (Vi .i64 a5.2)] 119, blk b3 [(str a3.1), (str a3.2.1.1), (str a3.2.1.2.1), (str a3.2.1.2.2.1), (Vi .i64 a3.2.1.2.2.2.1), (Vs a8 a3.2.1.2.2.2.2.1.length a9), (Vs b0 a3.2.1.2.2.2.2.2.length b1), (Vs a6 a3.2.2.length a7)] 70, rwt aaa 46 3 b5 a8 a9 a3.2.1.2.2.2.2.1, rwt aaa 46 3 b6 b0 b1 a3.2.1.2.2.2.2.2, rwt aaa 46 3 b4 a6 a7 a3.2.2] w := hM
  refine enter (k := 82) Tryz.func150 rfl rfl nbe ?_
  unfold ajs at hr
  refine sr (wp 2 (nq (sr (wp 3 (acr hH 0 b2 1 [(str a5.1), (Vi .i64 a5.2)] 119 (Vi .i64 a5.2) rfl rfl krf krf (wp 3 ?_))))))
  refine nq (cs (sr (wp 1 (bi hr fun e5 d0 hr => aat 113 #[] [(Vp (some ⟨b2, 0, none⟩)), (bt (60 : UInt8))] _ aoy krf krf (acp b2 d0 (hG.hp hH hS) (hH.hand (L1 := [blk b2 [(str a5.1), (Vi .i64 a5.2)] 119]) (L2 := [blk b3 [(str a3.1), (str a3.2.1.1), (str a3.2.1.2.1), (str a3.2.1.2.2.1), (Vi .i64 a3.2.1.2.2.2.1), (Vs a8 a3.2.1.2.2.2.2.1.length a9), (Vs b0 a3.2.1.2.2.2.2.2.length b1), (Vs a6 a3.2.2.length a7)] 70, rwt aaa 46 3 b5 a8 a9 a3.2.1.2.2.2.2.1, rwt aaa 46 3 b6 b0 b1 a3.2.1.2.2.2.2.2, rwt aaa 46 3 b4 a6 a7 a3.2.2])) (hH.highs hG hS 1 rfl)) ?_))))
  rintro _ d1 ⟨rfl, c7⟩
  have c6 : Hp w (abf [blk b2 [(str a5.1), (Vi .i64 a5.2)] 119, blk b3 [(str a3.1), (str a3.2.1.1), (str a3.2.1.2.1), (str a3.2.1.2.2.1), (Vi .i64 a3.2.1.2.2.2.1), (Vs a8 a3.2.1.2.2.2.2.1.length a9), (Vs b0 a3.2.1.2.2.2.2.2.length b1), (Vs a6 a3.2.2.length a7)] 70, rwt aaa 46 3 b5 a8 a9 a3.2.1.2.2.2.2.1, rwt aaa 46 3 b6 b0 b1 a3.2.1.2.2.2.2.2, rwt aaa 46 3 b4 a6 a7 a3.2.2]) [blk b2 [(str a5.1), (Vi .i64 a5.2)] 119, blk b3 [(str a3.1), (str a3.2.1.1), (str a3.2.1.2.1), (str a3.2.1.2.2.1), (Vi .i64 a3.2.1.2.2.2.1), (Vs a8 a3.2.1.2.2.2.2.1.length a9), (Vs b0 a3.2.1.2.2.2.2.2.length b1), (Vs a6 a3.2.2.length a7)] 70, rwt aaa 46 3 b5 a8 a9 a3.2.1.2.2.2.2.1, rwt aaa 46 3 b6 b0 b1 a3.2.1.2.2.2.2.2, rwt aaa 46 3 b4 a6 a7 a3.2.2] d1 := Hp.callK (L1 := [blk b2 [(str a5.1), (Vi .i64 a5.2)] 119]) (L2 := [blk b3 [(str a3.1), (str a3.2.1.1), (str a3.2.1.2.1), (str a3.2.1.2.2.1), (Vi .i64 a3.2.1.2.2.2.1), (Vs a8 a3.2.1.2.2.2.2.1.length a9), (Vs b0 a3.2.1.2.2.2.2.2.length b1), (Vs a6 a3.2.2.length a7)] 70, rwt aaa 46 3 b5 a8 a9 a3.2.1.2.2.2.2.1, rwt aaa 46 3 b6 b0 b1 a3.2.1.2.2.2.2.2, rwt aaa 46 3 b4 a6 a7 a3.2.2]) hH c7; clear c7
  refine nq (cb hr (fun d2 hr => ?_) (fun d2 hr => ?_))
  refine sr (wp 1 (gi hr fun d3 hr => aah a5.2 (1 : Int) krf krf d3 (wp 1 (nq (sr ?_)))))
  refine wp 3 (aob c6 0 b2 0 1 [(str a5.1), (Vi .i64 a5.2)] [(str a5.1)] 119 rfl rfl rfl krf krf krf (wp 1 (bi hr fun c1 d4 hr => wc ent177 c6 (ahs d4 (hG.hp c6 hS)) fun e6 c5 => wp 1 (nq (cs (cs ?_))))))
  refine cr (wp 5 (acr c5 0 b2 0 [(str a5.1), (Vi .i64 a5.2)] 119 (str a5.1) rfl rfl krf krf (wp 2 (nq (cd hr (fun d5 hr => ?_) (fun d5 hr => ?_))))))
  exact nzz hr
  refine ck (qn (cr (wp 1 (gi hr fun d6 hr => aah c1 (1 : Int) krf krf d6 (wp 1 (nq (cs ?_)))))))
  refine cr (wp 4 (acr c5 0 b2 0 [(str a5.1), (Vi .i64 a5.2)] 119 (str a5.1) rfl rfl krf krf (wp 2 (gi hr fun d7 hr => amx a5.1 .i64 .i64 (a5.2 + (1 : Int)) c1 Tryz.underlying9 krf krf krf d7 (bi hr fun a4 d8 hr => aat 199 #[] [(str (sub a5.1 (a5.2 + (1 : Int)) c1))] _ ent199 krf krf (K_L_address_Parse d8 (hG.hp c5 hS)) ?_)))))
  rintro _ d9 ⟨c2, b7, b8, c3, b9, c0, rfl, c8⟩
  have e0 : Hp w (abf [blk b2 [(str a5.1), (Vi .i64 a5.2)] 119, blk b3 [(str a3.1), (str a3.2.1.1), (str a3.2.1.2.1), (str a3.2.1.2.2.1), (Vi .i64 a3.2.1.2.2.2.1), (Vs a8 a3.2.1.2.2.2.2.1.length a9), (Vs b0 a3.2.1.2.2.2.2.2.length b1), (Vs a6 a3.2.2.length a7)] 70, rwt aaa 46 3 b5 a8 a9 a3.2.1.2.2.2.2.1, rwt aaa 46 3 b6 b0 b1 a3.2.1.2.2.2.2.2, rwt aaa 46 3 b4 a6 a7 a3.2.2]) [rwt aaa 46 3 c2 b7 b8 a4.1.2.2.2.2.1, rwt aaa 46 3 c3 b9 c0 a4.1.2.2.2.2.2, blk b2 [(str a5.1), (Vi .i64 a5.2)] 119, blk b3 [(str a3.1), (str a3.2.1.1), (str a3.2.1.2.1), (str a3.2.1.2.2.1), (Vi .i64 a3.2.1.2.2.2.1), (Vs a8 a3.2.1.2.2.2.2.1.length a9), (Vs b0 a3.2.1.2.2.2.2.2.length b1), (Vs a6 a3.2.2.length a7)] 70, rwt aaa 46 3 b5 a8 a9 a3.2.1.2.2.2.2.1, rwt aaa 46 3 b6 b0 b1 a3.2.1.2.2.2.2.2, rwt aaa 46 3 b4 a6 a7 a3.2.2] d9 := Hp.callK (L1 := []) (L2 := [blk b2 [(str a5.1), (Vi .i64 a5.2)] 119, blk b3 [(str a3.1), (str a3.2.1.1), (str a3.2.1.2.1), (str a3.2.1.2.2.1), (Vi .i64 a3.2.1.2.2.2.1), (Vs a8 a3.2.1.2.2.2.2.1.length a9), (Vs b0 a3.2.1.2.2.2.2.2.length b1), (Vs a6 a3.2.2.length a7)] 70, rwt aaa 46 3 b5 a8 a9 a3.2.1.2.2.2.2.1, rwt aaa 46 3 b6 b0 b1 a3.2.1.2.2.2.2.2, rwt aaa 46 3 b4 a6 a7 a3.2.2]) c5 c8; clear c8
  refine wp 4 (adx e0 [(str ([] : Str)), (str ([] : Str)), (str ([] : Str)), (Vi .i64 (0 : Int)), (Vs none 0 0), (Vs none 0 0)] 68 (fun b => (Vp (some ⟨b, 0, none⟩))) rfl rfl krf fun c4 e7 e1 => ahl e1 0 c4 0 [(str ([] : Str)), (str ([] : Str)), (str ([] : Str)), (Vi .i64 (0 : Int)), (Vs none 0 0), (Vs none 0 0)] [(str a4.1.1), (str a4.1.2.1), (str a4.1.2.2.1), (Vi .i64 a4.1.2.2.2.1), (Vs b7 a4.1.2.2.2.2.1.length b8), (Vs b9 a4.1.2.2.2.2.2.length c0)] 68 [blk c4 [(str a4.1.1), (str a4.1.2.1), (str a4.1.2.2.1), (Vi .i64 a4.1.2.2.2.1), (Vs b7 a4.1.2.2.2.2.1.length b8), (Vs b9 a4.1.2.2.2.2.2.length c0)] 68, rwt aaa 46 3 c2 b7 b8 a4.1.2.2.2.2.1, rwt aaa 46 3 c3 b9 c0 a4.1.2.2.2.2.2, blk b2 [(str a5.1), (Vi .i64 a5.2)] 119, blk b3 [(str a3.1), (str a3.2.1.1), (str a3.2.1.2.1), (str a3.2.1.2.2.1), (Vi .i64 a3.2.1.2.2.2.1), (Vs a8 a3.2.1.2.2.2.2.1.length a9), (Vs b0 a3.2.1.2.2.2.2.2.length b1), (Vs a6 a3.2.2.length a7)] 70, rwt aaa 46 3 b5 a8 a9 a3.2.1.2.2.2.2.1, rwt aaa 46 3 b6 b0 b1 a3.2.1.2.2.2.2.2, rwt aaa 46 3 b4 a6 a7 a3.2.2] rfl nbe krf krf rfl krf rfl fun e8 c9 => wp 2 (nq (cs (sr (wp 1 ?_)))))
  refine afs a4.2.2 (0 : UInt8) krf krf (nq (cn hr (fun e2 hr => ?_) (fun e2 hr => ?_)))
  exact nzz hr
  refine ck (qn (sr (wp 2 (aob c9 0 c4 0 6 [(str a4.1.1), (str a4.1.2.1), (str a4.1.2.2.1), (Vi .i64 a4.1.2.2.2.1), (Vs b7 a4.1.2.2.2.2.1.length b8), (Vs b9 a4.1.2.2.2.2.2.length c0)] [(str a4.1.1), (str a4.1.2.1), (str a4.1.2.2.1), (Vi .i64 a4.1.2.2.2.1), (Vs b7 a4.1.2.2.2.2.1.length b8), (Vs b9 a4.1.2.2.2.2.2.length c0)] 68 rfl rfl rfl krf krf krf (wp 3 (ahl c9 4 b3 1 [(str a3.1), (str a3.2.1.1), (str a3.2.1.2.1), (str a3.2.1.2.2.1), (Vi .i64 a3.2.1.2.2.2.1), (Vs a8 a3.2.1.2.2.2.2.1.length a9), (Vs b0 a3.2.1.2.2.2.2.2.length b1), (Vs a6 a3.2.2.length a7)] [(str a4.1.1), (str a4.1.2.1), (str a4.1.2.2.1), (Vi .i64 a4.1.2.2.2.1), (Vs b7 a4.1.2.2.2.2.1.length b8), (Vs b9 a4.1.2.2.2.2.2.length c0)] 70 [blk c4 [(str a4.1.1), (str a4.1.2.1), (str a4.1.2.2.1), (Vi .i64 a4.1.2.2.2.1), (Vs b7 a4.1.2.2.2.2.1.length b8), (Vs b9 a4.1.2.2.2.2.2.length c0)] 68, rwt aaa 46 3 c2 b7 b8 a4.1.2.2.2.2.1, rwt aaa 46 3 c3 b9 c0 a4.1.2.2.2.2.2, blk b2 [(str a5.1), (Vi .i64 a5.2)] 119, blk b3 [(str a3.1), (str a4.1.1), (str a4.1.2.1), (str a4.1.2.2.1), (Vi .i64 a4.1.2.2.2.1), (Vs b7 a4.1.2.2.2.2.1.length b8), (Vs b9 a4.1.2.2.2.2.2.length c0), (Vs a6 a3.2.2.length a7)] 70, rwt aaa 46 3 b5 a8 a9 a3.2.1.2.2.2.2.1, rwt aaa 46 3 b6 b0 b1 a3.2.1.2.2.2.2.2, rwt aaa 46 3 b4 a6 a7 a3.2.2] rfl nbe krf krf rfl krf rfl fun e9 e3 => wp 2 (aht e3 3 b2 1 [(str a5.1), (Vi .i64 a5.2)] 119 (Vi .i64 (c1 + (1 : Int))) [blk c4 [(str a4.1.1), (str a4.1.2.1), (str a4.1.2.2.1), (Vi .i64 a4.1.2.2.2.1), (Vs b7 a4.1.2.2.2.2.1.length b8), (Vs b9 a4.1.2.2.2.2.2.length c0)] 68, rwt aaa 46 3 c2 b7 b8 a4.1.2.2.2.2.1, rwt aaa 46 3 c3 b9 c0 a4.1.2.2.2.2.2, blk b2 [(str a5.1), (Vi .i64 (c1 + (1 : Int)))] 119, blk b3 [(str a3.1), (str a4.1.1), (str a4.1.2.1), (str a4.1.2.2.1), (Vi .i64 a4.1.2.2.2.1), (Vs b7 a4.1.2.2.2.2.1.length b8), (Vs b9 a4.1.2.2.2.2.2.length c0), (Vs a6 a3.2.2.length a7)] 70, rwt aaa 46 3 b5 a8 a9 a3.2.1.2.2.2.2.1, rwt aaa 46 3 b6 b0 b1 a3.2.1.2.2.2.2.2, rwt aaa 46 3 b4 a6 a7 a3.2.2] rfl (zaj (zac _) nbe) krf krf rfl krf rfl fun f0 e4 => ?_)))))))
  refine nq (sr (wp 2 (nq (ct ?_))))
  obtain rfl := oi hr
  refine r_two (Vi .i64 (0 : Int)) (bt (0 : UInt8)) rfl krf krf ?_
  exact ⟨c2, b7, b8, c3, b9, c0, b4, a6, a7, (by first | rfl | (simp; done) | (simp; omega)), (Hp.front (Hp.front (Hp.front (Hp.front (Hp.front e4 7 _ rfl) 3 _ rfl) 3 _ rfl) 5 _ rfl) 5 _ rfl).kp⟩
  exact nzz hr
theorem K_L_lexis_char_escaped {fu : Nat} {a1 : UInt8} {w : World} {r : Bool} (hr : ahb fu a1 = some r) (hG : Gl w) : CR Tryz.prog 196 [(bt a1)] w fun v w' => v = (Vb r) ∧ Hp w [] [] w' := by
  have hH : Hp w [] [] w := Hp.refl w
  refine enter (k := 9) Tryz.func196 rfl rfl nbe ?_
  unfold ahb at hr
  refine sr (wp 1 (nq (bi hr fun v5 a0 hr => agq hH [2] [(2, (Vb v5))] ?_ ?_)))
  refine cr (wp 1 (aja a1 (32 : UInt8) krf krf (wd a0 (fun h6 a0 => ?_) (fun h6 a0 => ?_))))
  refine wp 1 (gy 5 (aiz a1 (126 : UInt8) krf krf (wp 2 (wl (ql ?_)))))
  obtain rfl := oi a0
  exact je hH.kp
  refine wp 4 (wl (ql ?_))
  obtain rfl := oi a0
  exact je hH.kp
  intro w7 G a2
  refine ct ?_
  obtain rfl := oi hr
  exact rv a2.kp
theorem amu {fu : Nat} {a1 : UInt8} {w : World} {r : Bool} (hr : agj fu a1 = some r) (hG : Gl w) : CR Tryz.prog 162 [(bt a1)] w fun v w' => v = (Vb r) ∧ Hp w [] [] w' := by
  have hH : Hp w [] [] w := Hp.refl w
  refine enter (k := 13) Tryz.func162 rfl rfl nbe ?_
  unfold agj at hr
  refine sr (wp 1 (nq (bi hr fun v6 a0 hr => agq hH [2] [(2, (Vb v6))] ?_ ?_)))
  refine cr (wp 1 (w8_lss a1 (32 : UInt8) krf krf (wd a0 (fun h7 a0 => ?_) (fun h7 a0 => ?_))))
  refine wp 1 (gy 5 (afs a1 (9 : UInt8) krf krf (wp 1 (wn a0 (fun h8 a0 => ?_) (fun h8 a0 => ?_)))))
  refine wp 4 (wl (ql ?_))
  obtain rfl := oi a0
  exact je hH.kp
  refine wp 1 (gy 9 (acv a1 (127 : UInt8) krf krf (wp 2 (wl (ql ?_)))))
  obtain rfl := oi a0
  exact je hH.kp
  refine wp 5 (gy 9 (acv a1 (127 : UInt8) krf krf (wp 2 (wl (ql ?_)))))
  obtain rfl := oi a0
  exact je hH.kp
  intro w9 G a2
  refine ct ?_
  obtain rfl := oi hr
  exact rv a2.kp
theorem K_L_lexis_Unquote {fu : Nat} {s_0 : Str} {b0 : Int} {w : World} {r : (Str × Int × UInt8)} (hr : akq fu s_0 b0 = some r) (hG : Gl w) : CR Tryz.prog 145 [(str s_0), (Vi .i64 b0)] w fun v w' => v = (zal #[(str r.1), (Vi .i64 r.2.1), (bt r.2.2)]) ∧ Hp w [] [] w' := by
  have hH : Hp w [] [] w := Hp.refl w
  refine enter (k := 82) Tryz.func145 rfl rfl nbe ?_
  unfold akq at hr
  refine sr (wp 3 (nq (c_scope (cs (bi hr fun v5 b1 hr => agq hH [0, 1, 4, 5, 6, 17] [(17, (Vb v5))] ?_ ?_)))))
  refine cr (wp 2 (wd b1 (fun h6 b1 => ?_) (fun h6 b1 => ?_)))
  refine wp 5 (wl (ql ?_))
  obtain rfl := oi b1
  exact je hH.kp
  refine wp 5 (wl (ql ?_))
  obtain rfl := oi b1
  exact je hH.kp
  intro w7 G b4
  refine cb hr (fun h9 hr => ?_) (fun h9 hr => ?_)
  refine sr (wp 3 (nq (ct (st (n_ret ?_)))))
  obtain rfl := oi hr
  exact rv b4.kp
  refine ck (qn (cs (bi hr fun d3 a7 hr => agq b4 [0, 1, 4, 5, 6, 27] [(27, (Vb d3))] ?_ ?_)))
  refine cr (wp 4 (wd a7 (fun d4 a7 => ?_) (fun d4 a7 => ?_)))
  refine wp 5 (wl (ql ?_))
  obtain rfl := oi a7
  exact je b4.kp
  refine wp 2 (gy 22 (gi a7 fun d5 a7 => abp s_0 .i64 b0 Tryz.underlying9 krf krf d5 (gy 22 (afs (at_ s_0 b0) (34 : UInt8) krf krf (wp 1 (wl (ql ?_)))))))
  obtain rfl := oi a7
  exact je b4.kp
  intro g3 G c1
  refine cb hr (fun d6 hr => ?_) (fun d6 hr => ?_)
  refine sr (wp 4 (nq (ct (st (n_ret ?_)))))
  obtain rfl := oi hr
  exact rv c1.kp
  refine ck (qn (sr (wp 1 (nq (sr (wp 1 ?_))))))
  refine gi hr fun d7 hr => aah b0 (1 : Int) krf krf d7 (wp 1 (nq (cs (c_label (qn (bi hr fun c2 d8 hr => cut (σ := ((List UInt8) × Int) × (Option Nat) × (Option Addr) × Nat) [0, 4, 5, 6, 7, 8] (fun ⟨a3, b5, b2, b3⟩ => [(7, (Vs b2 a3.1.length b3)), (8, (Vi .i64 a3.2))]) (fun ⟨a3, b5, b2, b3⟩ w' => Hp w [] [rwt eB 5 1 b5 b2 b3 a3.1] w' ∧ .inl a3 = c2) ?_ ?_))))))
  refine ce (lpG (σ := Nat × (List UInt8) × Int × (Option Nat) × (Option Addr) × Nat) [0, 4, 5, 6, 7, 8] (fun ⟨a8, a2, a1, a6, a4, a5⟩ => [(7, (Vs a4 a2.length a5)), (8, (Vi .i64 a1))]) (fun ⟨a8, a2, a1, a6, a4, a5⟩ w' => Hp w [] [rwt eB 5 1 a6 a4 a5 a2] w' ∧ aef fu s_0 a8 a2 a1 = some c2) (fun ⟨a8, a2, a1, a6, a4, a5⟩ => a8) (fu, ([] : List UInt8), b0 + (1 : Int), none, none, 0) (by exact ⟨(Hp.nilrw c1 eB 5 1 none).kp, d8⟩) ?_ (mc krf (mc krf (mc krf (mc krf (mc (Eq.trans (b := (Vs none 0 0)) krf (aaj lsy)) (mc krf rfl)))))))
  rintro ⟨_ | a8, a2, a1, a6, a4, a5⟩ g4 G ⟨a9, a0⟩
  · exact nzz a0
  rw [aef.eq_2] at a0
  refine cs (sr (wp 4 (nq (cd a0 (fun d9 a0 => ?_) (fun d9 a0 => ?_)))))
  refine ck (qn (ce (sr (wp 2 (gi a0 fun e0 a0 => abp s_0 .i64 a1 Tryz.underlying9 krf krf e0 (wp 1 (wl ?_)))))))
  refine qn (cs (ce (sr (wp 1 (acv (at_ s_0 a1) (34 : UInt8) krf krf (wp 1 (nq (cd a0 (fun e1 a0 => ?_) (fun e1 a0 => ?_)))))))))
  refine ace (b_past krf (acd (b_past krf (acq (acf (ql ?_))))))
  obtain rfl := oi a0
  exact ⟨((a2, a1), a6, a4, a5), _, rfl, by kernel_rfl, a9.kp, rfl⟩
  refine sr (wp 1 (acv (at_ s_0 a1) (92 : UInt8) krf krf (wp 1 (nq (cd a0 (fun e2 a0 => ?_) (fun e2 a0 => ?_))))))
  refine cs (sr (wp 1 (gi a0 fun e3 a0 => aah a1 (1 : Int) krf krf e3 (wp 3 (nq (cd a0 (fun e4 a0 => ?_) (fun e4 a0 => ?_)))))))
  refine sr (wp 5 (nq (ct (st (bt_ (st (bt_ ?_)))))))
  refine adl (bt_ (adl ?_))
  obtain rfl := oi a0
  refine n_ret ?_
  obtain rfl := oi hr
  exact rv a9.kp
  refine ck (qn (cs (sr (wp 2 (gi a0 fun e5 a0 => aah a1 (1 : Int) krf krf e5 (gi a0 fun e6 a0 => abp s_0 .i64 (a1 + (1 : Int)) Tryz.underlying9 krf krf e6 ?_))))))
  refine bi a0 fun g5 e7 a0 => wc ent196 a9 (K_L_lexis_char_escaped e7 (hG.hp0 a9)) fun g6 c3 => wp 1 (nq (cb a0 (fun e8 a0 => ?_) (fun e8 a0 => ?_)))
  refine sr (wp 4 (nq (ct (st (bt_ (st (bt_ ?_)))))))
  refine adl (bt_ (adl ?_))
  obtain rfl := oi a0
  refine n_ret ?_
  obtain rfl := oi hr
  exact rv c3.kp
  refine ck (qn (cr (wp 1 (gi a0 fun e9 a0 => aah a1 (1 : Int) krf krf e9 (wp 1 (wl (bn (qn ?_))))))))
  refine sr (wp 3 (gi a0 fun f0 a0 => abp s_0 .i64 (a1 + (1 : Int)) Tryz.underlying9 krf krf f0 (adx c3 [(bt (at_ s_0 (a1 + (1 : Int))))] 5 (fun b => (Vs (some ⟨b, 0, none⟩) 1 1)) rfl rfl krf fun b6 g7 c4 => gi a0 fun f1 a0 => adz c4 1 a6 a4 (some ⟨b6, 0, none⟩) a5 1 5 1 1 a2 ([at_ s_0 (a1 + (1 : Int))] : List UInt8) alj rfl Tryz.underlying92 (by unfold TI; kernel_rfl) (by decide) (by decide) krf (Eq.trans (b := (Vs (some ⟨b6, 0, none⟩) 1 1)) krf (aaj (by first | rfl | (simp; done) | omega | (simp; omega) | (rw [zah]; omega)))) (c4.rdblk 0 rfl) f1 fun c5 c6 c7 f2 b7 => ?_)))
  replace b7 : Hp w [] [blk b6 [(bt (at_ s_0 (a1 + (1 : Int))))] 5, rwt eB 5 1 c5 c6 c7 (a2 ++ ([at_ s_0 (a1 + (1 : Int))] : List UInt8))] f2 := b7
  refine wp 1 (nq (cr (wp 1 (gi a0 fun f3 a0 => aah (a1 + (1 : Int)) (1 : Int) krf krf f3 (wp 1 (wl (bn ?_)))))))
  refine ql ?_
  exact ⟨(a8, a2 ++ ([at_ s_0 (a1 + (1 : Int))] : List UInt8), (a1 + (1 : Int)) + (1 : Int), c5, c6, c7), _, rfl, by kernel_rfl, ⟨(Hp.front b7 1 _ rfl).kp, a0⟩, zac _⟩
  refine sr (wp 1 (bi a0 fun g8 f4 a0 => wc ent162 a9 (amu f4 (hG.hp0 a9)) fun g9 c8 => wp 1 (nq (cb a0 (fun f5 a0 => ?_) (fun f5 a0 => ?_)))))
  refine sr (wp 4 (nq (ct (bt_ (st (bt_ (adl ?_)))))))
  refine bt_ (adl ?_)
  obtain rfl := oi a0
  refine n_ret ?_
  obtain rfl := oi hr
  exact rv c8.kp
  refine ck (bn (qn (sr (wp 3 (gi a0 fun f6 a0 => abp s_0 .i64 a1 Tryz.underlying9 krf krf f6 (adx c8 [(bt (at_ s_0 a1))] 5 (fun b => (Vs (some ⟨b, 0, none⟩) 1 1)) rfl rfl krf fun b8 h0 c9 => gi a0 fun f7 a0 => ?_))))))
  refine adz c9 1 a6 a4 (some ⟨b8, 0, none⟩) a5 1 5 1 1 a2 ([at_ s_0 a1] : List UInt8) alj rfl Tryz.underlying92 (by unfold TI; kernel_rfl) (by decide) (by decide) krf (Eq.trans (b := (Vs (some ⟨b8, 0, none⟩) 1 1)) krf (aaj (by first | rfl | (simp; done) | omega | (simp; omega) | (rw [zah]; omega)))) (c9.rdblk 0 rfl) f7 fun d0 d1 d2 f8 b9 => ?_
  replace b9 : Hp w [] [blk b8 [(bt (at_ s_0 a1))] 5, rwt eB 5 1 d0 d1 d2 (a2 ++ ([at_ s_0 a1] : List UInt8))] f8 := b9
  refine wp 1 (nq (cr (wp 1 (gi a0 fun f9 a0 => aah a1 (1 : Int) krf krf f9 (wp 1 (wl (bn ?_)))))))
  refine ql ?_
  exact ⟨(a8, a2 ++ ([at_ s_0 a1] : List UInt8), a1 + (1 : Int), d0, d1, d2), _, rfl, by kernel_rfl, ⟨(Hp.front b9 1 _ rfl).kp, a0⟩, zac _⟩
  refine ace (acd (acq (acf (ql ?_))))
  obtain rfl := oi a0
  exact ⟨((a2, a1), a6, a4, a5), _, rfl, by kernel_rfl, a9.kp, rfl⟩
  rintro ⟨a3, b5, b2, b3⟩ g0 G ⟨c0, rfl⟩
  refine cs (sr (wp 4 (nq (cd hr (fun g1 hr => ?_) (fun g1 hr => ?_)))))
  refine sr (wp 5 (nq (ct (st (n_ret ?_)))))
  obtain rfl := oi hr
  exact rv c0.kp
  refine ck (qn (sr (wp 1 (aey (v := (str a3.1)) (w' := g0) rfl rfl (apc a3.1 b2 a3.1.length b3 5 (Rd.bytes (c0.rdrw 0 rfl)) (by first | rfl | (simp; done) | omega | (simp; omega) | (rw [zah]; omega)) Tryz.underlying92 Tryz.underlying9 Tryz.underlying5 krf) (wp 1 (gi hr fun g2 hr => aah a3.2 (1 : Int) krf krf g2 (wp 3 ?_)))))))
  refine nq (ct (n_ret ?_))
  obtain rfl := oi hr
  exact rv c0.kp
theorem apk {fu : Nat} {a4 : (Str × Int)} (a0 : Nat) {w : World} {r : ((Str × Str × Bool) × Int × UInt8 × (Str × Int))} (hr : agi fu a4 = some r) (hG : Gl w) (hM : Hp w (abf [blk a0 [(str a4.1), (Vi .i64 a4.2)] 119]) [blk a0 [(str a4.1), (Vi .i64 a4.2)] 119] w) (hS : ∀ b ∈ abf [blk a0 [(str a4.1), (Vi .i64 a4.2)] 119], 9 ≤ b) : CR Tryz.prog 114 [(Vp (some ⟨a0, 0, none⟩))] w fun v w' => v = (zal #[(zam #[(str r.1.1), (str r.1.2.1), (Vb r.1.2.2)]), (Vi .i64 r.2.1), (bt r.2.2.1)]) ∧ Hp w (abf [blk a0 [(str a4.1), (Vi .i64 a4.2)] 119]) [blk a0 [(str r.2.2.2.1), (Vi .i64 r.2.2.2.2)] 119] w' := by
  have hH : Hp w (abf [blk a0 [(str a4.1), (Vi .i64 a4.2)] 119]) [blk a0 [(str a4.1), (Vi .i64 a4.2)] 119] w := hM
  refine enter (k := 129) Tryz.func114 rfl rfl nbe ?_
  unfold agi at hr
  refine sr (adx hH [(str ([] : Str)), (str ([] : Str)), (Vb false)] 46 (fun b => (Vp (some ⟨b, 0, none⟩))) rfl rfl krf fun b1 w2 e7 => wp 2 (nq (sr (wp 1 (bi hr fun y4 e8 hr => ?_)))))
  have b4 : Hp w (abf [blk a0 [(str a4.1), (Vi .i64 a4.2)] 119]) [blk a0 [(str a4.1), (Vi .i64 a4.2)] 119, blk b1 [(str ([] : Str)), (str ([] : Str)), (Vb false)] 46] w2 := e7.front 1 _ rfl
  refine aat 176 #[] [(Vp (some ⟨a0, 0, none⟩))] _ ent176 krf krf (ajj a0 e8 (hG.hp b4 hS) (b4.hand (L1 := [blk a0 [(str a4.1), (Vi .i64 a4.2)] 119]) (L2 := [blk b1 [(str ([] : Str)), (str ([] : Str)), (Vb false)] 46])) (b4.highs hG hS 1 rfl)) ?_
  rintro _ w6 ⟨rfl, c7⟩
  have c8 : Hp w (abf [blk a0 [(str a4.1), (Vi .i64 a4.2)] 119]) [blk a0 [(str y4.2.1), (Vi .i64 y4.2.2)] 119, blk b1 [(str ([] : Str)), (str ([] : Str)), (Vb false)] 46] w6 := Hp.callK (L1 := [blk a0 [(str a4.1), (Vi .i64 a4.2)] 119]) (L2 := [blk b1 [(str ([] : Str)), (str ([] : Str)), (Vb false)] 46]) b4 c7; clear c7
  refine bi hr fun a2 e9 hr => wc ent84 c8 (ado e9 (hG.hp c8 hS)) fun i4 f0 => wp 1 (adx f0 [(str ([] : Str)), (str ([] : Str)), (Vb false)] 46 (fun b => (Vp (some ⟨b, 0, none⟩))) rfl rfl krf fun a3 i5 f1 => ahl f1 0 a3 0 [(str ([] : Str)), (str ([] : Str)), (Vb false)] [(str a2), (str ([] : Str)), (Vb false)] 46 [blk a3 [(str a2), (str ([] : Str)), (Vb false)] 46, blk a0 [(str y4.2.1), (Vi .i64 y4.2.2)] 119, blk b1 [(str ([] : Str)), (str ([] : Str)), (Vb false)] 46] rfl nbe krf krf rfl krf rfl fun f2 c3 => nq (cs (sr ?_)))
  refine wp 1 (acr c3 0 a3 0 [(str a2), (str ([] : Str)), (Vb false)] 46 (str a2) rfl rfl krf krf (wp 1 (nq (cd hr (fun f3 hr => ?_) (fun f3 hr => ?_)))))
  refine cs (adu 6 (fun j_ w_ w_' => aax [6, 7] (fun w' => w'.heap[a0]? = some (.cells [(str y4.2.1), (Vi .i64 y4.2.2)].toArray 119 (0, 0))) j_ w_ w_' ∧ True) [false, false, false, false, false, false, false, false] (fun _ _ => ⟨aax.same, trivial⟩) krf krf c3 rfl (acz (acz acy)) fun i6 c9 => rp 2 [0, 1, 2, 3] (aak [true, true, true, true, true, false, false, false] 4 23 (Vi .i64 y4.2.2) [6, 7] (fun _ _ _ h => h.1) _ rfl rfl krf krf krf krf krf rfl (abc rfl (by intro w hS_; exact (afc a0 1 [(str y4.2.1), (Vi .i64 y4.2.2)] 119 (Vi .i64 y4.2.2) hS_ rfl krf krf))) (by exact c9.blkAt 1 rfl) (ro 5 rfl (ahl c9 2 b1 0 [(str ([] : Str)), (str ([] : Str)), (Vb false)] [(str ([] : Str)), (str ([] : Str)), (Vb false)] 46 [blk a3 [(str a2), (str ([] : Str)), (Vb false)] 46, blk a0 [(str y4.2.1), (Vi .i64 y4.2.2)] 119, blk b1 [(str ([] : Str)), (str ([] : Str)), (Vb false)] 46] rfl nbe krf krf rfl krf rfl fun i7 c4 => wl (abq (by exact ⟨aax.new (c4.blkAt 1 rfl), trivial⟩) (adi krf (wp 2 ?_)))))))
  refine nq (ct (st ?_))
  obtain rfl := oi hr
  refine aor _ [(zam #[(str ([] : Str)), (str ([] : Str)), (Vb false)]), (Vi .i64 y4.2.2), (bt (5 : UInt8))] (zal #[(zam #[(str ([] : Str)), (str ([] : Str)), (Vb false)]), (Vi .i64 y4.2.2), (bt (5 : UInt8))]) rfl rfl (abh (ahv c4 2 b1 46 [(str ([] : Str)), (str ([] : Str)), (Vb false)] rfl krf krf krf) (abh (afe krf) (abh (afe krf) agu))) rfl ?_
  exact ⟨(by first | rfl | (simp; done) | (simp; omega)), (Hp.front c4 1 _ rfl).kp⟩
  refine ck (qn (sr (wp 1 (bi hr fun a6 f4 hr => ?_))))
  have b5 : Hp w (abf [blk a0 [(str a4.1), (Vi .i64 a4.2)] 119]) [blk a0 [(str y4.2.1), (Vi .i64 y4.2.2)] 119, blk a3 [(str a2), (str ([] : Str)), (Vb false)] 46, blk b1 [(str ([] : Str)), (str ([] : Str)), (Vb false)] 46] f2 := c3.front 1 _ rfl
  refine aat 111 #[] [(Vp (some ⟨a0, 0, none⟩))] _ ent111 krf krf (aem a0 f4 (hG.hp b5 hS) (b5.hand (L1 := [blk a0 [(str y4.2.1), (Vi .i64 y4.2.2)] 119]) (L2 := [blk a3 [(str a2), (str ([] : Str)), (Vb false)] 46, blk b1 [(str ([] : Str)), (str ([] : Str)), (Vb false)] 46])) (b5.highs hG hS 1 rfl)) ?_
  rintro _ f5 ⟨rfl, d0⟩
  have b6 : Hp w (abf [blk a0 [(str a4.1), (Vi .i64 a4.2)] 119]) [blk a0 [(str a6.1), (Vi .i64 a6.2)] 119, blk a3 [(str a2), (str ([] : Str)), (Vb false)] 46, blk b1 [(str ([] : Str)), (str ([] : Str)), (Vb false)] 46] f5 := Hp.callK (L1 := [blk a0 [(str y4.2.1), (Vi .i64 y4.2.2)] 119]) (L2 := [blk a3 [(str a2), (str ([] : Str)), (Vb false)] 46, blk b1 [(str ([] : Str)), (str ([] : Str)), (Vb false)] 46]) b5 d0; clear d0
  refine nq (cs (sr (wp 1 (bi hr fun i9 f6 hr => aat 113 #[] [(Vp (some ⟨a0, 0, none⟩)), (bt (61 : UInt8))] _ aoy krf krf (acp a0 f6 (hG.hp b6 hS) (b6.hand (L1 := [blk a0 [(str a6.1), (Vi .i64 a6.2)] 119]) (L2 := [blk a3 [(str a2), (str ([] : Str)), (Vb false)] 46, blk b1 [(str ([] : Str)), (str ([] : Str)), (Vb false)] 46])) (b6.highs hG hS 1 rfl)) ?_))))
  rintro _ f7 ⟨rfl, d1⟩
  have b7 : Hp w (abf [blk a0 [(str a4.1), (Vi .i64 a4.2)] 119]) [blk a0 [(str a6.1), (Vi .i64 a6.2)] 119, blk a3 [(str a2), (str ([] : Str)), (Vb false)] 46, blk b1 [(str ([] : Str)), (str ([] : Str)), (Vb false)] 46] f7 := Hp.callK (L1 := [blk a0 [(str a6.1), (Vi .i64 a6.2)] 119]) (L2 := [blk a3 [(str a2), (str ([] : Str)), (Vb false)] 46, blk b1 [(str ([] : Str)), (str ([] : Str)), (Vb false)] 46]) b6 d1; clear d1
  refine wp 1 (nq (cb hr (fun f8 hr => ?_) (fun f8 hr => ?_)))
  refine sr (aob b7 1 a3 0 3 [(str a2), (str ([] : Str)), (Vb false)] [(str a2), (str ([] : Str)), (Vb false)] 46 rfl rfl rfl krf krf krf (ahl b7 2 b1 0 [(str ([] : Str)), (str ([] : Str)), (Vb false)] [(str a2), (str ([] : Str)), (Vb false)] 46 [blk a0 [(str a6.1), (Vi .i64 a6.2)] 119, blk a3 [(str a2), (str ([] : Str)), (Vb false)] 46, blk b1 [(str a2), (str ([] : Str)), (Vb false)] 46] rfl nbe krf krf rfl krf rfl fun j0 d2 => wp 2 (nq (ct (st ?_)))))
  obtain rfl := oi hr
  refine aor _ [(zam #[(str a2), (str ([] : Str)), (Vb false)]), (Vi .i64 (0 : Int)), (bt (0 : UInt8))] (zal #[(zam #[(str a2), (str ([] : Str)), (Vb false)]), (Vi .i64 (0 : Int)), (bt (0 : UInt8))]) rfl rfl (abh (ahv d2 2 b1 46 [(str a2), (str ([] : Str)), (Vb false)] rfl krf krf krf) (abh (afe krf) (abh (afe krf) agu))) rfl ?_
  exact ⟨(by first | rfl | (simp; done) | (simp; omega)), d2.kp⟩
  refine ck (qn (sr (wp 3 (acr b7 0 a0 1 [(str a6.1), (Vi .i64 a6.2)] 119 (Vi .i64 a6.2) rfl rfl krf krf (gi hr fun f9 hr => aah a6.2 (1 : Int) krf krf f9 (wp 2 (aht b7 0 a0 1 [(str a6.1), (Vi .i64 a6.2)] 119 (Vi .i64 (a6.2 + (1 : Int))) [blk a0 [(str a6.1), (Vi .i64 (a6.2 + (1 : Int)))] 119, blk a3 [(str a2), (str ([] : Str)), (Vb false)] 46, blk b1 [(str ([] : Str)), (str ([] : Str)), (Vb false)] 46] rfl (zaj (zac _) nbe) krf krf rfl krf rfl fun j1 b8 => ?_)))))))
  refine nq (sr (wp 1 (bi hr fun a1 g0 hr => aat 111 #[] [(Vp (some ⟨a0, 0, none⟩))] _ ent111 krf krf (aem a0 g0 (hG.hp b8 hS) (b8.hand (L1 := [blk a0 [(str a6.1), (Vi .i64 (a6.2 + (1 : Int)))] 119]) (L2 := [blk a3 [(str a2), (str ([] : Str)), (Vb false)] 46, blk b1 [(str ([] : Str)), (str ([] : Str)), (Vb false)] 46])) (b8.highs hG hS 1 rfl)) ?_)))
  rintro _ g1 ⟨rfl, d3⟩
  have g2 : Hp w (abf [blk a0 [(str a4.1), (Vi .i64 a4.2)] 119]) [blk a0 [(str a1.1), (Vi .i64 a1.2)] 119, blk a3 [(str a2), (str ([] : Str)), (Vb false)] 46, blk b1 [(str ([] : Str)), (str ([] : Str)), (Vb false)] 46] g1 := Hp.callK (L1 := [blk a0 [(str a6.1), (Vi .i64 (a6.2 + (1 : Int)))] 119]) (L2 := [blk a3 [(str a2), (str ([] : Str)), (Vb false)] 46, blk b1 [(str ([] : Str)), (str ([] : Str)), (Vb false)] 46]) b8 d3; clear d3
  refine nq (sr (wp 1 (aht g2 1 a3 2 [(str a2), (str ([] : Str)), (Vb false)] 46 (Vb true) [blk a0 [(str a1.1), (Vi .i64 a1.2)] 119, blk a3 [(str a2), (str ([] : Str)), (Vb true)] 46, blk b1 [(str ([] : Str)), (str ([] : Str)), (Vb false)] 46] rfl (zaj (zac _) nbe) krf krf rfl krf rfl fun j2 b9 => nq (cs (ce ?_)))))
  refine sr (wp 1 (bi hr fun j3 g3 hr => aat 113 #[] [(Vp (some ⟨a0, 0, none⟩)), (bt (34 : UInt8))] _ aoy krf krf (acp a0 g3 (hG.hp b9 hS) (b9.hand (L1 := [blk a0 [(str a1.1), (Vi .i64 a1.2)] 119]) (L2 := [blk a3 [(str a2), (str ([] : Str)), (Vb true)] 46, blk b1 [(str ([] : Str)), (str ([] : Str)), (Vb false)] 46])) (b9.highs hG hS 1 rfl)) ?_))
  rintro _ g4 ⟨rfl, d4⟩
  have b0 : Hp w (abf [blk a0 [(str a4.1), (Vi .i64 a4.2)] 119]) [blk a0 [(str a1.1), (Vi .i64 a1.2)] 119, blk a3 [(str a2), (str ([] : Str)), (Vb true)] 46, blk b1 [(str ([] : Str)), (str ([] : Str)), (Vb false)] 46] g4 := Hp.callK (L1 := [blk a0 [(str a1.1), (Vi .i64 a1.2)] 119]) (L2 := [blk a3 [(str a2), (str ([] : Str)), (Vb true)] 46, blk b1 [(str ([] : Str)), (str ([] : Str)), (Vb false)] 46]) b9 d4; clear d4
  refine wp 1 (nq (cb hr (fun g5 hr => ?_) (fun g5 hr => ?_)))
  refine cs (bi hr fun a7 g6 hr => adu 16 (fun j_ w_ w_' => aax [9, 10, 11, 12, 13, 14, 15, 16] (fun w' => w'.heap[a0]? = some (.cells [(str a1.1), (Vi .i64 a1.2)].toArray 119 (0, 0))) j_ w_ w_' ∧ True) [false, false, false, false, false, false, false, false, false, false, false, false, false, false, false, false, false] (fun _ _ => ⟨aax.same, trivial⟩) krf krf b0 rfl (acz (aas (acz acy))) fun j4 c0 => rp 12 [0, 1, 2, 3] (aak [true, true, true, true, true, false, false, false, false, false, false, false, false, false, false, false, false] 4 59 (str a1.1) [9, 10, 11, 12, 13, 14, 15, 16] (fun _ _ _ h => h.1) _ rfl rfl krf krf krf krf krf rfl (abc rfl (by intro w hS_; exact (afc a0 0 [(str a1.1), (Vi .i64 a1.2)] 119 (str a1.1) hS_ rfl krf krf))) (by exact c0.blkAt 0 rfl) (rp 8 [5, 6, 7] (aak [true, true, true, true, true, true, true, true, true, false, false, false, false, false, false, false, false] 8 63 (Vi .i64 a1.2) [9, 10, 11, 12, 13, 14, 15, 16] (fun _ _ _ h => h.1) _ rfl rfl krf krf krf krf krf rfl (abc rfl (by intro w hS_; exact (afc a0 1 [(str a1.1), (Vi .i64 a1.2)] 119 (Vi .i64 a1.2) hS_ rfl krf krf))) (by exact c0.blkAt 0 rfl) (ro 9 rfl (wc ent145 c0 (K_L_lexis_Unquote g6 (hG.hp c0 hS)) fun j5 d5 => wl ?_))))))
  refine abq (by exact ⟨aax.out rfl, trivial⟩) (rp 0 [10, 11, 12, 13, 14, 15] (adi krf (wp 1 (nq (cs (sr (wp 1 ?_)))))))
  refine afs a7.2.2 (0 : UInt8) krf krf (nq (cn hr (fun g7 hr => ?_) (fun g7 hr => ?_)))
  refine sr (wp 3 (ahl d5 2 b1 0 [(str ([] : Str)), (str ([] : Str)), (Vb false)] [(str ([] : Str)), (str ([] : Str)), (Vb false)] 46 [blk a0 [(str a1.1), (Vi .i64 a1.2)] 119, blk a3 [(str a2), (str ([] : Str)), (Vb true)] 46, blk b1 [(str ([] : Str)), (str ([] : Str)), (Vb false)] 46] rfl nbe krf krf rfl krf rfl fun j6 d6 => wp 2 (nq (ct (st (bt_ ?_))))))
  refine st ?_
  obtain rfl := oi hr
  refine aor _ [(zam #[(str ([] : Str)), (str ([] : Str)), (Vb false)]), (Vi .i64 a7.2.1), (bt a7.2.2)] (zal #[(zam #[(str ([] : Str)), (str ([] : Str)), (Vb false)]), (Vi .i64 a7.2.1), (bt a7.2.2)]) rfl rfl (abh (ahv d6 2 b1 46 [(str ([] : Str)), (str ([] : Str)), (Vb false)] rfl krf krf krf) (abh (afe krf) (abh (afe krf) agu))) rfl ?_
  exact ⟨(by first | rfl | (simp; done) | (simp; omega)), d6.kp⟩
  refine ck (qn (cr (wp 4 (aht d5 1 a3 1 [(str a2), (str ([] : Str)), (Vb true)] 46 (str a7.1) [blk a0 [(str a1.1), (Vi .i64 a1.2)] 119, blk a3 [(str a2), (str a7.1), (Vb true)] 46, blk b1 [(str ([] : Str)), (str ([] : Str)), (Vb false)] 46] rfl (zaj (zac _) nbe) krf krf rfl krf rfl fun j7 g8 => wp 2 (aht g8 0 a0 1 [(str a1.1), (Vi .i64 a1.2)] 119 (Vi .i64 a7.2.1) [blk a0 [(str a1.1), (Vi .i64 a7.2.1)] 119, blk a3 [(str a2), (str a7.1), (Vb true)] 46, blk b1 [(str ([] : Str)), (str ([] : Str)), (Vb false)] 46] rfl (zaj (zac _) nbe) krf krf rfl krf rfl fun j8 d7 => wl (bn (qn ?_)))))))
  refine sr (aob d7 1 a3 0 3 [(str a2), (str a7.1), (Vb true)] [(str a2), (str a7.1), (Vb true)] 46 rfl rfl rfl krf krf krf (ahl d7 2 b1 0 [(str ([] : Str)), (str ([] : Str)), (Vb false)] [(str a2), (str a7.1), (Vb true)] 46 [blk a0 [(str a1.1), (Vi .i64 a7.2.1)] 119, blk a3 [(str a2), (str a7.1), (Vb true)] 46, blk b1 [(str a2), (str a7.1), (Vb true)] 46] rfl nbe krf krf rfl krf rfl fun j9 d8 => wp 2 (nq (ct ?_))))
  obtain rfl := oi hr
  refine aor _ [(zam #[(str a2), (str a7.1), (Vb true)]), (Vi .i64 (0 : Int)), (bt (0 : UInt8))] (zal #[(zam #[(str a2), (str a7.1), (Vb true)]), (Vi .i64 (0 : Int)), (bt (0 : UInt8))]) rfl rfl (abh (ahv d8 2 b1 46 [(str a2), (str a7.1), (Vb true)] rfl krf krf krf) (abh (afe krf) (abh (afe krf) agu))) rfl ?_
  exact ⟨(by first | rfl | (simp; done) | (simp; omega)), d8.kp⟩
  refine sr (wp 1 (bi hr fun k0 g9 hr => aat 113 #[] [(Vp (some ⟨a0, 0, none⟩)), (bt (91 : UInt8))] _ aoy krf krf (acp a0 g9 (hG.hp b0 hS) (b0.hand (L1 := [blk a0 [(str a1.1), (Vi .i64 a1.2)] 119]) (L2 := [blk a3 [(str a2), (str ([] : Str)), (Vb true)] 46, blk b1 [(str ([] : Str)), (str ([] : Str)), (Vb false)] 46])) (b0.highs hG hS 1 rfl)) ?_))
  rintro _ h0 ⟨rfl, d9⟩
  have b2 : Hp w (abf [blk a0 [(str a4.1), (Vi .i64 a4.2)] 119]) [blk a0 [(str a1.1), (Vi .i64 a1.2)] 119, blk a3 [(str a2), (str ([] : Str)), (Vb true)] 46, blk b1 [(str ([] : Str)), (str ([] : Str)), (Vb false)] 46] h0 := Hp.callK (L1 := [blk a0 [(str a1.1), (Vi .i64 a1.2)] 119]) (L2 := [blk a3 [(str a2), (str ([] : Str)), (Vb true)] 46, blk b1 [(str ([] : Str)), (str ([] : Str)), (Vb false)] 46]) b0 d9; clear d9
  refine wp 1 (nq (cb hr (fun h1 hr => ?_) (fun h1 hr => ?_)))
  refine cs (adu 8 (fun j_ w_ w_' => aax [8, 9] (fun w' => w'.heap[a0]? = some (.cells [(str a1.1), (Vi .i64 a1.2)].toArray 119 (0, 0))) j_ w_ w_' ∧ True) [false, false, false, false, false, false, false, false, false, false] (fun _ _ => ⟨aax.same, trivial⟩) krf krf b2 rfl (acz (aas (acz acy))) fun k1 c1 => rp 5 [0, 1, 2] (aak [true, true, true, true, false, false, false, false, false, false] 3 85 (zam #[(str a1.1)]) [8, 9] (fun _ _ _ h => h.1) _ rfl rfl krf krf krf krf krf rfl (abc rfl (by intro w hS_; exact (x_ldN a0 0 1 [(str a1.1), (Vi .i64 a1.2)] [(str a1.1)] 119 hS_ rfl rfl krf krf krf))) (by exact c1.blkAt 0 rfl) (rp 1 [4, 5, 6] (aak [true, true, true, true, true, true, true, true, false, false] 7 89 (Vi .i64 a1.2) [8, 9] (fun _ _ _ h => h.1) _ rfl rfl krf krf krf krf krf rfl (abc rfl (by intro w hS_; exact (afc a0 1 [(str a1.1), (Vi .i64 a1.2)] 119 (Vi .i64 a1.2) hS_ rfl krf krf))) (by exact c1.blkAt 0 rfl) (adi krf (bi hr fun a9 h2 hr => wc ent177 c1 (ahs h2 (hG.hp c1 hS)) fun k2 h3 => wp 1 ?_))))))
  refine nq (cs (gi hr fun h4 hr => gi hr fun h5 hr => bi hr fun a8 h6 hr => adu 24 (fun j_ w_ w_' => aax [18, 19, 20, 21, 22, 23, 24] (fun w' => w'.heap[a0]? = some (.cells [(str a1.1), (Vi .i64 a1.2)].toArray 119 (0, 0))) j_ w_ w_' ∧ aax [16, 17, 18, 19, 20, 21, 22, 23, 24] (fun w' => w'.heap[a0]? = some (.cells [(str a1.1), (Vi .i64 a1.2)].toArray 119 (0, 0))) j_ w_ w_' ∧ True) [false, false, false, false, false, false, false, false, false, false, false, false, false, false, false, false, false, false, false, false, false, false, false, false, false] (fun _ _ => ⟨aax.same, aax.same, trivial⟩) krf krf h3 rfl (acz (aas (acz acy))) fun k3 b3 => rp 20 [0, 1, 2, 3] (aak [true, true, true, true, true, false, false, false, false, false, false, false, false, false, false, false, false, false, false, false, false, false, false, false, false] 4 96 (str a1.1) [18, 19, 20, 21, 22, 23, 24] (fun _ _ _ h => h.1) _ rfl rfl krf krf krf krf krf rfl (abc rfl (by intro w hS_; exact (afc a0 0 [(str a1.1), (Vi .i64 a1.2)] 119 (str a1.1) hS_ rfl krf krf))) (by exact b3.blkAt 0 rfl) (rp 16 [5, 6, 7] ?_))))
  refine aak [true, true, true, true, true, true, true, true, true, false, false, false, false, false, false, false, false, false, false, false, false, false, false, false, false] 8 100 (Vi .i64 a1.2) [18, 19, 20, 21, 22, 23, 24] (fun _ _ _ h => h.1) _ rfl rfl krf krf krf krf krf rfl (abc rfl (by intro w hS_; exact (afc a0 1 [(str a1.1), (Vi .i64 a1.2)] 119 (Vi .i64 a1.2) hS_ rfl krf krf))) (by exact b3.blkAt 0 rfl) (rp 14 [9] (rt 10 (Vi .i64 (a9 + (1 : Int))) rfl rfl (abc rfl (by intro w hS_; exact (alv a9 (1 : Int) krf krf h4))) (rp 9 [11, 12, 13, 14] (aak [true, true, true, true, true, true, true, true, true, true, true, true, true, true, true, true, false, false, false, false, false, false, false, false, false] 15 107 (str a1.1) [16, 17, 18, 19, 20, 21, 22, 23, 24] (fun _ _ _ h => h.2.1) _ rfl rfl krf krf krf krf krf rfl (abc rfl (by intro w hS_; exact (afc a0 0 [(str a1.1), (Vi .i64 a1.2)] 119 (str a1.1) hS_ rfl krf krf))) (by exact b3.blkAt 0 rfl) (rp 7 [16] (rt 17 (Vi .i64 (min (a9 + (1 : Int)) (a1.1.length : Int))) rfl rfl (abc rfl (by intro w hS_; exact (x_min .i64 (a9 + (1 : Int)) (a1.1.length : Int) krf krf))) (rt 18 (str (sub a1.1 a1.2 (min (a9 + (1 : Int)) (a1.1.length : Int)))) rfl rfl (abc rfl (by intro w hS_; exact (x_slice a1.1 .i64 .i64 a1.2 (min (a9 + (1 : Int)) (a1.1.length : Int)) Tryz.underlying9 krf krf krf h5))) (ro 19 rfl (wc ent26 b3 (aic h6 (hG.hp b3 hS)) fun k4 e0 => ?_)))))))))
  refine wl (abq (by exact ⟨aax.out rfl, aax.out rfl, trivial⟩) (rp 0 [20, 21, 22, 23] (adi krf (wp 1 (nq (cs (sr ?_)))))))
  refine wp 2 (nq (cb hr (fun h7 hr => ?_) (fun h7 hr => ?_)))
  refine cs (adu 6 (fun j_ w_ w_' => aax [6, 7] (fun w' => w'.heap[a0]? = some (.cells [(str a1.1), (Vi .i64 a1.2)].toArray 119 (0, 0))) j_ w_ w_' ∧ True) [false, false, false, false, false, false, false, false] (fun _ _ => ⟨aax.same, trivial⟩) krf krf e0 rfl (acz (acz (aas (acz acy)))) fun k5 e1 => rp 2 [0, 1, 2, 3] (aak [true, true, true, true, true, false, false, false] 4 120 (Vi .i64 a1.2) [6, 7] (fun _ _ _ h => h.1) _ rfl rfl krf krf krf krf krf rfl (abc rfl (by intro w hS_; exact (afc a0 1 [(str a1.1), (Vi .i64 a1.2)] 119 (Vi .i64 a1.2) hS_ rfl krf krf))) (by exact e1.blkAt 0 rfl) (ro 5 rfl (ahl e1 2 b1 0 [(str ([] : Str)), (str ([] : Str)), (Vb false)] [(str ([] : Str)), (str ([] : Str)), (Vb false)] 46 [blk a0 [(str a1.1), (Vi .i64 a1.2)] 119, blk a3 [(str a2), (str ([] : Str)), (Vb true)] 46, blk b1 [(str ([] : Str)), (str ([] : Str)), (Vb false)] 46] rfl nbe krf krf rfl krf rfl fun k6 c5 => wl (abq (by exact ⟨aax.new (c5.blkAt 0 rfl), trivial⟩) (adi krf (wp 2 ?_)))))))
  refine nq (ct (st (bt_ (st ?_))))
  obtain rfl := oi hr
  refine aor _ [(zam #[(str ([] : Str)), (str ([] : Str)), (Vb false)]), (Vi .i64 a1.2), (bt (5 : UInt8))] (zal #[(zam #[(str ([] : Str)), (str ([] : Str)), (Vb false)]), (Vi .i64 a1.2), (bt (5 : UInt8))]) rfl rfl (abh (ahv c5 2 b1 46 [(str ([] : Str)), (str ([] : Str)), (Vb false)] rfl krf krf krf) (abh (afe krf) (abh (afe krf) agu))) rfl ?_
  exact ⟨(by first | rfl | (simp; done) | (simp; omega)), c5.kp⟩
  refine ck (qn (cr (wp 3 (gi hr fun h8 hr => aah a9 (1 : Int) krf krf h8 (wp 1 (aht e0 1 a3 1 [(str a2), (str ([] : Str)), (Vb true)] 46 (str a8.1) [blk a0 [(str a1.1), (Vi .i64 a1.2)] 119, blk a3 [(str a2), (str a8.1), (Vb true)] 46, blk b1 [(str ([] : Str)), (str ([] : Str)), (Vb false)] 46] rfl (zaj (zac _) nbe) krf krf rfl krf rfl fun k7 h9 => wp 2 (aht h9 0 a0 1 [(str a1.1), (Vi .i64 a1.2)] 119 (Vi .i64 (a9 + (1 : Int))) [blk a0 [(str a1.1), (Vi .i64 (a9 + (1 : Int)))] 119, blk a3 [(str a2), (str a8.1), (Vb true)] 46, blk b1 [(str ([] : Str)), (str ([] : Str)), (Vb false)] 46] rfl (zaj (zac _) nbe) krf krf rfl krf rfl fun k8 e2 => ?_)))))))
  refine wl (bn (qn (sr (aob e2 1 a3 0 3 [(str a2), (str a8.1), (Vb true)] [(str a2), (str a8.1), (Vb true)] 46 rfl rfl rfl krf krf krf (ahl e2 2 b1 0 [(str ([] : Str)), (str ([] : Str)), (Vb false)] [(str a2), (str a8.1), (Vb true)] 46 [blk a0 [(str a1.1), (Vi .i64 (a9 + (1 : Int)))] 119, blk a3 [(str a2), (str a8.1), (Vb true)] 46, blk b1 [(str a2), (str a8.1), (Vb true)] 46] rfl nbe krf krf rfl krf rfl fun k9 e3 => wp 2 (nq ?_))))))
  refine ct ?_
  obtain rfl := oi hr
  refine aor _ [(zam #[(str a2), (str a8.1), (Vb true)]), (Vi .i64 (0 : Int)), (bt (0 : UInt8))] (zal #[(zam #[(str a2), (str a8.1), (Vb true)]), (Vi .i64 (0 : Int)), (bt (0 : UInt8))]) rfl rfl (abh (ahv e3 2 b1 46 [(str a2), (str a8.1), (Vb true)] rfl krf krf krf) (abh (afe krf) (abh (afe krf) agu))) rfl ?_
  exact ⟨(by first | rfl | (simp; done) | (simp; omega)), e3.kp⟩
  refine sr (wp 1 (bi hr fun a5 i0 hr => aat 176 #[] [(Vp (some ⟨a0, 0, none⟩))] _ ent176 krf krf (ajj a0 i0 (hG.hp b2 hS) (b2.hand (L1 := [blk a0 [(str a1.1), (Vi .i64 a1.2)] 119]) (L2 := [blk a3 [(str a2), (str ([] : Str)), (Vb true)] 46, blk b1 [(str ([] : Str)), (str ([] : Str)), (Vb false)] 46])) (b2.highs hG hS 1 rfl)) ?_))
  rintro _ i1 ⟨rfl, e4⟩
  have i2 : Hp w (abf [blk a0 [(str a4.1), (Vi .i64 a4.2)] 119]) [blk a0 [(str a5.2.1), (Vi .i64 a5.2.2)] 119, blk a3 [(str a2), (str ([] : Str)), (Vb true)] 46, blk b1 [(str ([] : Str)), (str ([] : Str)), (Vb false)] 46] i1 := Hp.callK (L1 := [blk a0 [(str a1.1), (Vi .i64 a1.2)] 119]) (L2 := [blk a3 [(str a2), (str ([] : Str)), (Vb true)] 46, blk b1 [(str ([] : Str)), (str ([] : Str)), (Vb false)] 46]) b2 e4; clear e4
  refine wp 1 (aht i2 1 a3 1 [(str a2), (str ([] : Str)), (Vb true)] 46 (str a5.1) [blk a0 [(str a5.2.1), (Vi .i64 a5.2.2)] 119, blk a3 [(str a2), (str a5.1), (Vb true)] 46, blk b1 [(str ([] : Str)), (str ([] : Str)), (Vb false)] 46] rfl (zaj (zac _) nbe) krf krf rfl krf rfl fun l0 c2 => nq (sr (wp 1 (acr c2 1 a3 1 [(str a2), (str a5.1), (Vb true)] 46 (str a5.1) rfl rfl krf krf (wp 1 (wl ?_))))))
  refine qn (cd hr (fun i3 hr => ?_) (fun i3 hr => ?_))
  refine cs (adu 6 (fun j_ w_ w_' => aax [6, 7] (fun w' => w'.heap[a0]? = some (.cells [(str a5.2.1), (Vi .i64 a5.2.2)].toArray 119 (0, 0))) j_ w_ w_' ∧ True) [false, false, false, false, false, false, false, false] (fun _ _ => ⟨aax.same, trivial⟩) krf krf c2 rfl (acz (aas (acz acy))) fun l1 e5 => rp 2 [0, 1, 2, 3] (aak [true, true, true, true, true, false, false, false] 4 50 (Vi .i64 a5.2.2) [6, 7] (fun _ _ _ h => h.1) _ rfl rfl krf krf krf krf krf rfl (abc rfl (by intro w hS_; exact (afc a0 1 [(str a5.2.1), (Vi .i64 a5.2.2)] 119 (Vi .i64 a5.2.2) hS_ rfl krf krf))) (by exact e5.blkAt 0 rfl) (ro 5 rfl (ahl e5 2 b1 0 [(str ([] : Str)), (str ([] : Str)), (Vb false)] [(str ([] : Str)), (str ([] : Str)), (Vb false)] 46 [blk a0 [(str a5.2.1), (Vi .i64 a5.2.2)] 119, blk a3 [(str a2), (str a5.1), (Vb true)] 46, blk b1 [(str ([] : Str)), (str ([] : Str)), (Vb false)] 46] rfl nbe krf krf rfl krf rfl fun l2 c6 => wl (abq (by exact ⟨aax.new (c6.blkAt 0 rfl), trivial⟩) (adi krf (wp 2 ?_)))))))
  refine nq (ct (bt_ (st ?_)))
  obtain rfl := oi hr
  refine aor _ [(zam #[(str ([] : Str)), (str ([] : Str)), (Vb false)]), (Vi .i64 a5.2.2), (bt (5 : UInt8))] (zal #[(zam #[(str ([] : Str)), (str ([] : Str)), (Vb false)]), (Vi .i64 a5.2.2), (bt (5 : UInt8))]) rfl rfl (abh (ahv c6 2 b1 46 [(str ([] : Str)), (str ([] : Str)), (Vb false)] rfl krf krf krf) (abh (afe krf) (abh (afe krf) agu))) rfl ?_
  exact ⟨(by first | rfl | (simp; done) | (simp; omega)), c6.kp⟩
  refine ck (bn (qn (sr (aob c2 1 a3 0 3 [(str a2), (str a5.1), (Vb true)] [(str a2), (str a5.1), (Vb true)] 46 rfl rfl rfl krf krf krf (ahl c2 2 b1 0 [(str ([] : Str)), (str ([] : Str)), (Vb false)] [(str a2), (str a5.1), (Vb true)] 46 [blk a0 [(str a5.2.1), (Vi .i64 a5.2.2)] 119, blk a3 [(str a2), (str a5.1), (Vb true)] 46, blk b1 [(str a2), (str a5.1), (Vb true)] 46] rfl nbe krf krf rfl krf rfl fun l3 e6 => wp 2 (nq ?_))))))
  refine ct ?_
  obtain rfl := oi hr
  refine aor _ [(zam #[(str a2), (str a5.1), (Vb true)]), (Vi .i64 (0 : Int)), (bt (0 : UInt8))] (zal #[(zam #[(str a2), (str a5.1), (Vb true)]), (Vi .i64 (0 : Int)), (bt (0 : UInt8))]) rfl rfl (abh (ahv e6 2 b1 46 [(str a2), (str a5.1), (Vb true)] rfl krf krf krf) (abh (afe krf) (abh (afe krf) agu))) rfl ?_
  exact ⟨(by first | rfl | (simp; done) | (simp; omega)), e6.kp⟩
theorem ams {fu : Nat} {s_0 : Str} {w : World} {r : ((List (Str × Str × Bool)) × Int × UInt8)} (hr : agn fu s_0 = some r) (hG : Gl w) : CR Tryz.prog 59 [(str s_0)] w fun v w' => ∃ (o0 : Option Nat), ∃ (a0 : Option Addr), ∃ (cap0 : Nat), v = (zal #[(Vs a0 r.1.length cap0), (Vi .i64 r.2.1), (bt r.2.2)]) ∧ Hp w [] [rwt aaa 46 3 o0 a0 cap0 r.1] w' := by
  have hH : Hp w [] [] w := Hp.refl w
  refine enter (k := 48) Tryz.func59 rfl rfl nbe ?_
  unfold agn at hr
  refine sr (wp 3 (nq (sr (wp 3 (adx hH [(str ([] : Str)), (Vi .i64 (0 : Int))] 119 (fun b => (Vp (some ⟨b, 0, none⟩))) rfl rfl krf fun b1 w2 d6 => ahl d6 0 b1 0 [(str ([] : Str)), (Vi .i64 (0 : Int))] [(str s_0), (Vi .i64 (0 : Int))] 119 [blk b1 [(str s_0), (Vi .i64 (0 : Int))] 119] rfl nbe krf krf rfl krf rfl fun w4 d7 => ?_)))))
  refine nq (sr (wp 1 (nq (ce (lpG (σ := Nat × (List (Str × Str × Bool)) × Str × Int × (Option Nat) × (Option Addr) × Nat) [2, 3, 4, 5, 6] (fun ⟨b4, a4, a9, b0, a7, a5, a6⟩ => [(6, (Vs a5 a4.length a6))]) (fun ⟨b4, a4, a9, b0, a7, a5, a6⟩ w' => Hp w [] [blk b1 [(str a9), (Vi .i64 b0)] 119, rwt aaa 46 3 a7 a5 a6 a4] w' ∧ afg fu b4 a4 a9 b0 = some r) (fun ⟨b4, a4, a9, b0, a7, a5, a6⟩ => b4) (fu, ([] : List (Str × Str × Bool)), s_0, (0 : Int), none, none, 0) (by exact ⟨(Hp.front (Hp.nilrw d7 aaa 46 3 none) 1 _ rfl).kp, hr⟩) ?_ (mc krf (mc krf (mc krf (mc krf (mc (Eq.trans (b := (Vs none 0 0)) krf (aaj lsy)) rfl))))))))))
  rintro ⟨_ | b4, a4, a9, b0, a7, a5, a6⟩ f9 G ⟨b9, a3⟩
  · exact nzz a3
  rw [afg.eq_2] at a3
  refine ce (sr (bi a3 fun a2 d8 a3 => aat 111 #[] [(Vp (some ⟨b1, 0, none⟩))] _ ent111 krf krf (aem b1 d8 (hG.hp0 b9) (b9.hand (L1 := [blk b1 [(str a9), (Vi .i64 b0)] 119]) (L2 := [rwt aaa 46 3 a7 a5 a6 a4])) (b9.highs hG (fun _ h => absurd h (by simp)) 1 rfl)) ?_))
  rintro _ d9 ⟨rfl, c6⟩
  have c0 : Hp w [] [blk b1 [(str a2.1), (Vi .i64 a2.2)] 119, rwt aaa 46 3 a7 a5 a6 a4] d9 := Hp.callK (L1 := [blk b1 [(str a9), (Vi .i64 b0)] 119]) (L2 := [rwt aaa 46 3 a7 a5 a6 a4]) b9 c6; clear c6
  refine nq (cs (sr (bi a3 fun g0 e0 a3 => aat 112 #[] [(Vp (some ⟨b1, 0, none⟩))] _ ent112 krf krf (afx b1 e0 (hG.hp0 c0) (c0.hand (L1 := [blk b1 [(str a2.1), (Vi .i64 a2.2)] 119]) (L2 := [rwt aaa 46 3 a7 a5 a6 a4])) (c0.highs hG (fun _ h => absurd h (by simp)) 1 rfl)) ?_)))
  rintro _ e1 ⟨rfl, c7⟩
  have b5 : Hp w [] [blk b1 [(str a2.1), (Vi .i64 a2.2)] 119, rwt aaa 46 3 a7 a5 a6 a4] e1 := Hp.callK (L1 := [blk b1 [(str a2.1), (Vi .i64 a2.2)] 119]) (L2 := [rwt aaa 46 3 a7 a5 a6 a4]) c0 c7; clear c7
  refine nq (cb a3 (fun e2 a3 => ?_) (fun e2 a3 => ?_))
  refine sr (wp 4 (nq (ct (st (bt_ (adl (bt_ ?_)))))))
  obtain rfl := oi a3
  refine apg (Vs a5 a4.length a6) (Vi .i64 (0 : Int)) (bt (0 : UInt8)) rfl krf krf krf ?_
  exact ⟨a7, a5, a6, (by first | rfl | (simp; done) | (simp; omega)), (Hp.front b5 1 _ rfl).kp⟩
  refine ck (qn (cs (sr (bi a3 fun g1 e3 a3 => aat 113 #[] [(Vp (some ⟨b1, 0, none⟩)), (bt (59 : UInt8))] _ aoy krf krf (acp b1 e3 (hG.hp0 b5) (b5.hand (L1 := [blk b1 [(str a2.1), (Vi .i64 a2.2)] 119]) (L2 := [rwt aaa 46 3 a7 a5 a6 a4])) (b5.highs hG (fun _ h => absurd h (by simp)) 1 rfl)) ?_))))
  rintro _ e4 ⟨rfl, c8⟩
  have c2 : Hp w [] [blk b1 [(str a2.1), (Vi .i64 a2.2)] 119, rwt aaa 46 3 a7 a5 a6 a4] e4 := Hp.callK (L1 := [blk b1 [(str a2.1), (Vi .i64 a2.2)] 119]) (L2 := [rwt aaa 46 3 a7 a5 a6 a4]) b5 c8; clear c8
  refine wp 1 (nq (cb a3 (fun e5 a3 => ?_) (fun e5 a3 => ?_)))
  refine cs (adu 3 (fun j_ w_ w_' => aax [3, 4] (fun w' => w'.heap[b1]? = some (.cells [(str a2.1), (Vi .i64 a2.2)].toArray 119 (0, 0))) j_ w_ w_' ∧ True) [false, false, false, false, false] (fun _ _ => ⟨aax.same, trivial⟩) krf krf c2 rfl (acz (acz (aas (aaq (aas acy))))) fun g2 c9 => rp 2 [0] (aak [true, true, false, false, false] 1 20 (Vi .i64 a2.2) [3, 4] (fun _ _ _ h => h.1) _ rfl rfl krf krf krf krf krf rfl (abc rfl (by intro w hS_; exact (afc b1 1 [(str a2.1), (Vi .i64 a2.2)] 119 (Vi .i64 a2.2) hS_ rfl krf krf))) (by exact c9.blkAt 0 rfl) (rp 0 [2] (adi krf (wp 2 (nq (ct ?_)))))))
  refine st (bt_ (adl (bt_ ?_)))
  obtain rfl := oi a3
  refine apg (Vs none 0 0) (Vi .i64 a2.2) (bt (5 : UInt8)) rfl krf krf krf ?_
  exact ⟨none, none, 0, (by first | rfl | (simp; done) | (simp; omega)), (Hp.nilrw c9 aaa 46 3 none).kp⟩
  refine ck (qn (sr (wp 1 (acr c2 0 b1 1 [(str a2.1), (Vi .i64 a2.2)] 119 (Vi .i64 a2.2) rfl rfl krf krf (gi a3 fun e6 a3 => aah a2.2 (1 : Int) krf krf e6 (wp 1 (aht c2 0 b1 1 [(str a2.1), (Vi .i64 a2.2)] 119 (Vi .i64 (a2.2 + (1 : Int))) [blk b1 [(str a2.1), (Vi .i64 (a2.2 + (1 : Int)))] 119, rwt aaa 46 3 a7 a5 a6 a4] rfl (zaj (zac _) nbe) krf krf rfl krf rfl fun g3 c1 => ?_)))))))
  refine nq (sr (bi a3 fun a8 e7 a3 => aat 111 #[] [(Vp (some ⟨b1, 0, none⟩))] _ ent111 krf krf (aem b1 e7 (hG.hp0 c1) (c1.hand (L1 := [blk b1 [(str a2.1), (Vi .i64 (a2.2 + (1 : Int)))] 119]) (L2 := [rwt aaa 46 3 a7 a5 a6 a4])) (c1.highs hG (fun _ h => absurd h (by simp)) 1 rfl)) ?_))
  rintro _ e8 ⟨rfl, d0⟩
  have b6 : Hp w [] [blk b1 [(str a8.1), (Vi .i64 a8.2)] 119, rwt aaa 46 3 a7 a5 a6 a4] e8 := Hp.callK (L1 := [blk b1 [(str a2.1), (Vi .i64 (a2.2 + (1 : Int)))] 119]) (L2 := [rwt aaa 46 3 a7 a5 a6 a4]) c1 d0; clear d0
  refine nq (sr (wp 1 (acr b6 0 b1 1 [(str a8.1), (Vi .i64 a8.2)] 119 (Vi .i64 a8.2) rfl rfl krf krf (wp 1 (nq (cs ?_))))))
  refine cr (bi a3 fun a1 e9 a3 => aat 114 #[] [(Vp (some ⟨b1, 0, none⟩))] _ ent114 krf krf (apk b1 e9 (hG.hp0 b6) (b6.hand (L1 := [blk b1 [(str a8.1), (Vi .i64 a8.2)] 119]) (L2 := [rwt aaa 46 3 a7 a5 a6 a4])) (b6.highs hG (fun _ h => absurd h (by simp)) 1 rfl)) ?_)
  rintro _ f0 ⟨rfl, d1⟩
  have f1 : Hp w [] [blk b1 [(str a1.2.2.2.1), (Vi .i64 a1.2.2.2.2)] 119, rwt aaa 46 3 a7 a5 a6 a4] f0 := Hp.callK (L1 := [blk b1 [(str a8.1), (Vi .i64 a8.2)] 119]) (L2 := [rwt aaa 46 3 a7 a5 a6 a4]) b6 d1; clear d1
  refine wp 4 (adx f1 [(str ([] : Str)), (str ([] : Str)), (Vb false)] 46 (fun b => (Vp (some ⟨b, 0, none⟩))) rfl rfl krf fun b7 g4 f2 => ahl f2 0 b7 0 [(str ([] : Str)), (str ([] : Str)), (Vb false)] [(str a1.1.1), (str a1.1.2.1), (Vb a1.1.2.2)] 46 [blk b7 [(str a1.1.1), (str a1.1.2.1), (Vb a1.1.2.2)] 46, blk b1 [(str a1.2.2.2.1), (Vi .i64 a1.2.2.2.2)] 119, rwt aaa 46 3 a7 a5 a6 a4] rfl nbe krf krf rfl krf rfl fun g5 b2 => wp 2 (nq (bi a3 fun b8 b3 a3 => agq b2 [2, 3, 4, 5, 6, 8, 9, 10] [(9, (Vi .i64 b8.1)), (10, (bt b8.2))] ?_ ?_)))
  refine sr (wp 1 (acv a1.2.2.1 (0 : UInt8) krf krf (nq (cd b3 (fun f3 b3 => ?_) (fun f3 b3 => ?_)))))
  refine cr (wp 3 (acr b2 0 b7 0 [(str a1.1.1), (str a1.1.2.1), (Vb a1.1.2.2)] 46 (str a1.1.1) rfl rfl krf krf (bi b3 fun g6 f4 b3 => wc ent115 b2 (K_L_address_room a5 a4.length a6 f4 (hG.hp0 b2) rfl (b2.rdrw 2 rfl) (b2.rwcap 2 rfl)) fun g7 f5 => wp 2 (wl (ql ?_)))))
  obtain rfl := oi b3
  exact je (Hp.front (Hp.front (Hp.front f5 2 _ rfl) 2 _ rfl) 2 _ rfl).kp
  refine ck (ql ?_)
  obtain rfl := oi b3
  exact je (Hp.front (Hp.front (Hp.front b2 2 _ rfl) 2 _ rfl) 2 _ rfl).kp
  intro g8 G c3
  refine cs (sr (wp 1 (afs b8.2 (0 : UInt8) krf krf (nq (cn a3 (fun f6 a3 => ?_) (fun f6 a3 => ?_))))))
  refine sr (wp 5 (nq (ct (st (bt_ (adl (bt_ ?_)))))))
  obtain rfl := oi a3
  refine apg (Vs none 0 0) (Vi .i64 b8.1) (bt b8.2) rfl krf krf krf ?_
  exact ⟨none, none, 0, (by first | rfl | (simp; done) | (simp; omega)), (Hp.nilrw c3 aaa 46 3 none).kp⟩
  refine ck (qn (cr (wp 1 (aob c3 0 b7 0 3 [(str a1.1.1), (str a1.1.2.1), (Vb a1.1.2.2)] [(str a1.1.1), (str a1.1.2.1), (Vb a1.1.2.2)] 46 rfl rfl rfl krf krf krf (adx c3 [(str a1.1.1), (str a1.1.2.1), (Vb a1.1.2.2)] 46 (fun b => (Vs (some ⟨b, 0, none⟩) 1 1)) rfl rfl krf fun c4 g9 d2 => gi a3 fun f7 a3 => adz d2 3 a7 a5 (some ⟨c4, 0, none⟩) a6 1 46 3 40 a4 ([a1.1] : List (Str × Str × Bool)) aab rfl Tryz.underlying22 (by unfold TI; kernel_rfl) (by decide) (by decide) krf (Eq.trans (b := (Vs (some ⟨c4, 0, none⟩) 1 1)) krf (aaj (by first | rfl | (simp; done) | omega | (simp; omega) | (rw [zah]; omega)))) (d2.rdblk 0 rfl) f7 fun d3 d4 d5 f8 c5 => ?_)))))
  replace c5 : Hp w [] [blk c4 [(str a1.1.1), (str a1.1.2.1), (Vb a1.1.2.2)] 46, blk b7 [(str a1.1.1), (str a1.1.2.1), (Vb a1.1.2.2)] 46, blk b1 [(str a1.2.2.2.1), (Vi .i64 a1.2.2.2.2)] 119, rwt aaa 46 3 d3 d4 d5 (a4 ++ ([a1.1] : List (Str × Str × Bool)))] f8 := c5
  refine wp 1 (wl (bn (ql ?_)))
  exact ⟨(b4, a4 ++ ([a1.1] : List (Str × Str × Bool)), a1.2.2.2.1, a1.2.2.2.2, d3, d4, d5), _, rfl, by kernel_rfl, ⟨(Hp.front (Hp.front c5 3 _ rfl) 3 _ rfl).kp, a3⟩, zac _⟩
end Go.Proofs
set_option linter.unusedVariables false
set_option linter.unusedSimpArgs false
set_option maxRecDepth 20000
set_option maxHeartbeats 1000000
namespace Go.Proofs
open Go.Wk Go.Px
open Go.Value renaming slice → Vs, int → Vi, bool → Vb, pointer → Vp
open Go.Value renaming agg → zam, tuple → zal
open Int renaming toNat → zad
open List renaming drop → zar, flatMap → zai, length_take → zah
open Nat renaming lt_of_lt_of_le → zaj, lt_succ_self → zac
theorem ent51 : Go.Wk.Enters Tryz.prog 51 := ⟨Tryz.f51, _, Tryz.func51, rfl, by kernel_rfl⟩
theorem ent59 : Go.Wk.Enters Tryz.prog 59 := ⟨Tryz.f59, _, Tryz.func59, rfl, by kernel_rfl⟩
theorem ent93 : Go.Wk.Enters Tryz.prog 93 := ⟨Tryz.f93, _, Tryz.func93, rfl, by kernel_rfl⟩
theorem ent110 : Go.Wk.Enters Tryz.prog 110 := ⟨Tryz.f110, _, Tryz.func110, rfl, by kernel_rfl⟩
theorem ent149 : Go.Wk.Enters Tryz.prog 149 := ⟨Tryz.f149, _, Tryz.func149, rfl, by kernel_rfl⟩
theorem ent150 : Go.Wk.Enters Tryz.prog 150 := ⟨Tryz.f150, _, Tryz.func150, rfl, by kernel_rfl⟩
theorem ent184 : Go.Wk.Enters Tryz.prog 184 := ⟨Tryz.f184, _, Tryz.func184, rfl, by kernel_rfl⟩
theorem ent201 : Go.Wk.Enters Tryz.prog 201 := ⟨Tryz.f201, _, Tryz.func201, rfl, by kernel_rfl⟩
theorem ent203 : Go.Wk.Enters Tryz.prog 203 := ⟨Tryz.f203, _, Tryz.func203, rfl, by kernel_rfl⟩
theorem ent238 : Go.Wk.Enters Tryz.prog 238 := ⟨Tryz.f238, _, Tryz.func238, rfl, by kernel_rfl⟩
theorem apv {fu : Nat} {s_0 : Str} {w : World} {r : ((Str × (Str × Str × Str × Int × (List (Str × Str × Bool)) × (List (Str × Str × Bool))) × (List (Str × Str × Bool))) × Int × UInt8)} (hr : ake fu s_0 = some r) (hG : Gl w) : CR Tryz.prog 93 [(str s_0)] w fun v w' => ∃ (o0 : Option Nat), ∃ (a0 : Option Addr), ∃ (cap0 : Nat), ∃ (o1 : Option Nat), ∃ (a1 : Option Addr), ∃ (cap1 : Nat), ∃ (o2 : Option Nat), ∃ (a2 : Option Addr), ∃ (cap2 : Nat), v = (zal #[(zam #[(str r.1.1), (str r.1.2.1.1), (str r.1.2.1.2.1), (str r.1.2.1.2.2.1), (Vi .i64 r.1.2.1.2.2.2.1), (Vs a0 r.1.2.1.2.2.2.2.1.length cap0), (Vs a1 r.1.2.1.2.2.2.2.2.length cap1), (Vs a2 r.1.2.2.length cap2)]), (Vi .i64 r.2.1), (bt r.2.2)]) ∧ Hp w [] [rwt aaa 46 3 o0 a0 cap0 r.1.2.1.2.2.2.2.1, rwt aaa 46 3 o1 a1 cap1 r.1.2.1.2.2.2.2.2, rwt aaa 46 3 o2 a2 cap2 r.1.2.2] w' := by
  have hH : Hp w [] [] w := Hp.refl w
  refine enter (k := 66) Tryz.func93 rfl rfl nbe ?_
  unfold ake at hr
  refine sr (adx hH [(str ([] : Str)), (str ([] : Str)), (str ([] : Str)), (str ([] : Str)), (Vi .i64 (0 : Int)), (Vs none 0 0), (Vs none 0 0), (Vs none 0 0)] 70 (fun b => (Vp (some ⟨b, 0, none⟩))) rfl rfl krf fun b1 w2 f0 => wp 2 (nq (cs (sr (wp 3 ?_)))))
  refine nq (cd hr (fun h4 hr => ?_) (fun h4 hr => ?_))
  exact nzz hr
  refine ck (qn (sr (wp 3 (adx f0 [(str s_0), (Vi .i64 (0 : Int))] 119 (fun b => (Vp (some ⟨b, 0, none⟩))) rfl rfl krf fun b5 w6 d1 => wp 1 (nq (cs ?_))))))
  refine cr (wp 1 (bi hr fun y8 f1 hr => aat 111 #[] [(Vp (some ⟨b5, 0, none⟩))] _ ent111 krf krf (aem b5 f1 (hG.hp0 d1) (d1.hand (L1 := [blk b5 [(str s_0), (Vi .i64 (0 : Int))] 119]) (L2 := [blk b1 [(str ([] : Str)), (str ([] : Str)), (str ([] : Str)), (str ([] : Str)), (Vi .i64 (0 : Int)), (Vs none 0 0), (Vs none 0 0), (Vs none 0 0)] 70])) (d1.highs hG (fun _ h => absurd h (by simp)) 1 rfl)) ?_))
  rintro _ f2 ⟨rfl, e1⟩
  have f3 : Hp w [] [blk b5 [(str y8.1), (Vi .i64 y8.2)] 119, blk b1 [(str ([] : Str)), (str ([] : Str)), (str ([] : Str)), (str ([] : Str)), (Vi .i64 (0 : Int)), (Vs none 0 0), (Vs none 0 0), (Vs none 0 0)] 70] f2 := Hp.callK (L1 := [blk b5 [(str s_0), (Vi .i64 (0 : Int))] 119]) (L2 := [blk b1 [(str ([] : Str)), (str ([] : Str)), (str ([] : Str)), (str ([] : Str)), (Vi .i64 (0 : Int)), (Vs none 0 0), (Vs none 0 0), (Vs none 0 0)] 70]) d1 e1; clear e1
  refine nq (sr (adx f3 [(str ([] : Str)), (str ([] : Str)), (str ([] : Str)), (str ([] : Str)), (Vi .i64 (0 : Int)), (Vs none 0 0), (Vs none 0 0), (Vs none 0 0)] 70 (fun b => (Vp (some ⟨b, 0, none⟩))) rfl rfl krf fun a5 f4 f5 => nq (sr (wp 2 ?_))))
  refine nq (cs (sr (wp 1 (bi hr fun i1 f6 hr => ?_))))
  have d2 : Hp w [] [blk b5 [(str y8.1), (Vi .i64 y8.2)] 119, blk a5 [(str ([] : Str)), (str ([] : Str)), (str ([] : Str)), (str ([] : Str)), (Vi .i64 (0 : Int)), (Vs none 0 0), (Vs none 0 0), (Vs none 0 0)] 70, blk b1 [(str ([] : Str)), (str ([] : Str)), (str ([] : Str)), (str ([] : Str)), (Vi .i64 (0 : Int)), (Vs none 0 0), (Vs none 0 0), (Vs none 0 0)] 70] f4 := f5.front 1 _ rfl
  refine aat 113 #[] [(Vp (some ⟨b5, 0, none⟩)), (bt (34 : UInt8))] _ aoy krf krf (acp b5 f6 (hG.hp0 d2) (d2.hand (L1 := [blk b5 [(str y8.1), (Vi .i64 y8.2)] 119]) (L2 := [blk a5 [(str ([] : Str)), (str ([] : Str)), (str ([] : Str)), (str ([] : Str)), (Vi .i64 (0 : Int)), (Vs none 0 0), (Vs none 0 0), (Vs none 0 0)] 70, blk b1 [(str ([] : Str)), (str ([] : Str)), (str ([] : Str)), (str ([] : Str)), (Vi .i64 (0 : Int)), (Vs none 0 0), (Vs none 0 0), (Vs none 0 0)] 70])) (d2.highs hG (fun _ h => absurd h (by simp)) 1 rfl)) ?_
  rintro _ e2 ⟨rfl, e3⟩
  have e4 : Hp w [] [blk b5 [(str y8.1), (Vi .i64 y8.2)] 119, blk a5 [(str ([] : Str)), (str ([] : Str)), (str ([] : Str)), (str ([] : Str)), (Vi .i64 (0 : Int)), (Vs none 0 0), (Vs none 0 0), (Vs none 0 0)] 70, blk b1 [(str ([] : Str)), (str ([] : Str)), (str ([] : Str)), (str ([] : Str)), (Vi .i64 (0 : Int)), (Vs none 0 0), (Vs none 0 0), (Vs none 0 0)] 70] e2 := Hp.callK (L1 := [blk b5 [(str y8.1), (Vi .i64 y8.2)] 119]) (L2 := [blk a5 [(str ([] : Str)), (str ([] : Str)), (str ([] : Str)), (str ([] : Str)), (Vi .i64 (0 : Int)), (Vs none 0 0), (Vs none 0 0), (Vs none 0 0)] 70, blk b1 [(str ([] : Str)), (str ([] : Str)), (str ([] : Str)), (str ([] : Str)), (Vi .i64 (0 : Int)), (Vs none 0 0), (Vs none 0 0), (Vs none 0 0)] 70]) d2 e3; clear e3
  refine nq (cb hr (fun f7 hr => ?_) (fun f7 hr => ?_))
  exact nzz hr
  refine sr (wp 1 (gi hr fun f8 hr => aat 110 #[] [(str s_0), (str ([60] : Str))] _ ent110 krf krf (sh_Contains s_0 ([60] : Str) e2 f8 (hG.hp0 e4)) ?_))
  rintro _ c6 ⟨rfl, e5⟩
  have f9 := e4.call e5; clear e5
  refine nq (cb hr (fun g0 hr => ?_) (fun g0 hr => ?_))
  refine cr (wp 1 ?_)
  have d6 := f9.nilrw aaa 46 3 none
  replace d6 : Hp w [] [rwt aaa 46 3 none none 0 ([] : List (Str × Str × Bool)), blk b5 [(str y8.1), (Vi .i64 y8.2)] 119, blk a5 [(str ([] : Str)), (str ([] : Str)), (str ([] : Str)), (str ([] : Str)), (Vi .i64 (0 : Int)), (Vs none 0 0), (Vs none 0 0), (Vs none 0 0)] 70, blk b1 [(str ([] : Str)), (str ([] : Str)), (str ([] : Str)), (str ([] : Str)), (Vi .i64 (0 : Int)), (Vs none 0 0), (Vs none 0 0), (Vs none 0 0)] 70] c6 := d6
  have d7 := d6.nilrw aaa 46 3 none
  replace d7 : Hp w [] [rwt aaa 46 3 none none 0 ([] : List (Str × Str × Bool)), rwt aaa 46 3 none none 0 ([] : List (Str × Str × Bool)), blk b5 [(str y8.1), (Vi .i64 y8.2)] 119, blk a5 [(str ([] : Str)), (str ([] : Str)), (str ([] : Str)), (str ([] : Str)), (Vi .i64 (0 : Int)), (Vs none 0 0), (Vs none 0 0), (Vs none 0 0)] 70, blk b1 [(str ([] : Str)), (str ([] : Str)), (str ([] : Str)), (str ([] : Str)), (Vi .i64 (0 : Int)), (Vs none 0 0), (Vs none 0 0), (Vs none 0 0)] 70] c6 := d7
  have d8 := d7.nilrw aaa 46 3 none
  replace d8 : Hp w [] [rwt aaa 46 3 none none 0 ([] : List (Str × Str × Bool)), rwt aaa 46 3 none none 0 ([] : List (Str × Str × Bool)), rwt aaa 46 3 none none 0 ([] : List (Str × Str × Bool)), blk b5 [(str y8.1), (Vi .i64 y8.2)] 119, blk a5 [(str ([] : Str)), (str ([] : Str)), (str ([] : Str)), (str ([] : Str)), (Vi .i64 (0 : Int)), (Vs none 0 0), (Vs none 0 0), (Vs none 0 0)] 70, blk b1 [(str ([] : Str)), (str ([] : Str)), (str ([] : Str)), (str ([] : Str)), (Vi .i64 (0 : Int)), (Vs none 0 0), (Vs none 0 0), (Vs none 0 0)] 70] c6 := d8
  refine bi hr fun a4 g1 hr => ?_
  have g2 : Hp w [] [rwt aaa 46 3 none none 0 ([] : List (Str × Str × Bool)), rwt aaa 46 3 none none 0 ([] : List (Str × Str × Bool)), rwt aaa 46 3 none none 0 ([] : List (Str × Str × Bool)), blk b5 [(str y8.1), (Vi .i64 y8.2)] 119, blk a5 [(str ([] : Str)), (str ([] : Str)), (str ([] : Str)), (str ([] : Str)), (Vi .i64 (0 : Int)), (Vs none 0 0), (Vs none 0 0), (Vs none 0 0)] 70, blk b1 [(str ([] : Str)), (str ([] : Str)), (str ([] : Str)), (str ([] : Str)), (Vi .i64 (0 : Int)), (Vs none 0 0), (Vs none 0 0), (Vs none 0 0)] 70] c6 := d8.front 1 _ rfl
  have g3 : Hp w [] [rwt aaa 46 3 none none 0 ([] : List (Str × Str × Bool)), rwt aaa 46 3 none none 0 ([] : List (Str × Str × Bool)), rwt aaa 46 3 none none 0 ([] : List (Str × Str × Bool)), blk b5 [(str y8.1), (Vi .i64 y8.2)] 119, blk a5 [(str ([] : Str)), (str ([] : Str)), (str ([] : Str)), (str ([] : Str)), (Vi .i64 (0 : Int)), (Vs none 0 0), (Vs none 0 0), (Vs none 0 0)] 70, blk b1 [(str ([] : Str)), (str ([] : Str)), (str ([] : Str)), (str ([] : Str)), (Vi .i64 (0 : Int)), (Vs none 0 0), (Vs none 0 0), (Vs none 0 0)] 70] c6 := g2.front 2 _ rfl
  have g4 : Hp w [] [blk a5 [(str ([] : Str)), (str ([] : Str)), (str ([] : Str)), (str ([] : Str)), (Vi .i64 (0 : Int)), (Vs none 0 0), (Vs none 0 0), (Vs none 0 0)] 70, rwt aaa 46 3 none none 0 ([] : List (Str × Str × Bool)), rwt aaa 46 3 none none 0 ([] : List (Str × Str × Bool)), rwt aaa 46 3 none none 0 ([] : List (Str × Str × Bool)), blk b5 [(str y8.1), (Vi .i64 y8.2)] 119, blk b1 [(str ([] : Str)), (str ([] : Str)), (str ([] : Str)), (str ([] : Str)), (Vi .i64 (0 : Int)), (Vs none 0 0), (Vs none 0 0), (Vs none 0 0)] 70] c6 := g3.front 4 _ rfl
  have d3 : Hp w [] [blk b5 [(str y8.1), (Vi .i64 y8.2)] 119, blk a5 [(str ([] : Str)), (str ([] : Str)), (str ([] : Str)), (str ([] : Str)), (Vi .i64 (0 : Int)), (Vs none 0 0), (Vs none 0 0), (Vs none 0 0)] 70, rwt aaa 46 3 none none 0 ([] : List (Str × Str × Bool)), rwt aaa 46 3 none none 0 ([] : List (Str × Str × Bool)), rwt aaa 46 3 none none 0 ([] : List (Str × Str × Bool)), blk b1 [(str ([] : Str)), (str ([] : Str)), (str ([] : Str)), (str ([] : Str)), (Vi .i64 (0 : Int)), (Vs none 0 0), (Vs none 0 0), (Vs none 0 0)] 70] c6 := g4.front 4 _ rfl
  refine aat 149 #[] [(Vp (some ⟨b5, 0, none⟩)), (Vp (some ⟨a5, 0, none⟩))] _ ent149 krf krf (aof b5 a5 none none 0 none none 0 none none 0 g1 (hG.hp0 d3) (d3.hand (L1 := [blk b5 [(str y8.1), (Vi .i64 y8.2)] 119, blk a5 [(str ([] : Str)), (str ([] : Str)), (str ([] : Str)), (str ([] : Str)), (Vi .i64 (0 : Int)), (Vs none 0 0), (Vs none 0 0), (Vs none 0 0)] 70, rwt aaa 46 3 none none 0 ([] : List (Str × Str × Bool)), rwt aaa 46 3 none none 0 ([] : List (Str × Str × Bool)), rwt aaa 46 3 none none 0 ([] : List (Str × Str × Bool))]) (L2 := [blk b1 [(str ([] : Str)), (str ([] : Str)), (str ([] : Str)), (str ([] : Str)), (Vi .i64 (0 : Int)), (Vs none 0 0), (Vs none 0 0), (Vs none 0 0)] 70])) (d3.highs hG (fun _ h => absurd h (by simp)) 5 rfl)) ?_
  rintro _ c7 ⟨c1, b0, b2, c2, b3, b4, c3, b6, b7, rfl, e6⟩
  have g5 : Hp w [] [blk b5 [(str a4.2.2.1.1), (Vi .i64 a4.2.2.1.2)] 119, blk a5 [(str a4.2.2.2.1), (str a4.2.2.2.2.1.1), (str a4.2.2.2.2.1.2.1), (str a4.2.2.2.2.1.2.2.1), (Vi .i64 a4.2.2.2.2.1.2.2.2.1), (Vs b0 a4.2.2.2.2.1.2.2.2.2.1.length b2), (Vs b3 a4.2.2.2.2.1.2.2.2.2.2.length b4), (Vs b6 a4.2.2.2.2.2.length b7)] 70, rwt aaa 46 3 c1 b0 b2 a4.2.2.2.2.1.2.2.2.2.1, rwt aaa 46 3 c2 b3 b4 a4.2.2.2.2.1.2.2.2.2.2, rwt aaa 46 3 c3 b6 b7 a4.2.2.2.2.2, blk b1 [(str ([] : Str)), (str ([] : Str)), (str ([] : Str)), (str ([] : Str)), (Vi .i64 (0 : Int)), (Vs none 0 0), (Vs none 0 0), (Vs none 0 0)] 70] c7 := Hp.callK (L1 := [blk b5 [(str y8.1), (Vi .i64 y8.2)] 119, blk a5 [(str ([] : Str)), (str ([] : Str)), (str ([] : Str)), (str ([] : Str)), (Vi .i64 (0 : Int)), (Vs none 0 0), (Vs none 0 0), (Vs none 0 0)] 70, rwt aaa 46 3 none none 0 ([] : List (Str × Str × Bool)), rwt aaa 46 3 none none 0 ([] : List (Str × Str × Bool)), rwt aaa 46 3 none none 0 ([] : List (Str × Str × Bool))]) (L2 := [blk b1 [(str ([] : Str)), (str ([] : Str)), (str ([] : Str)), (str ([] : Str)), (Vi .i64 (0 : Int)), (Vs none 0 0), (Vs none 0 0), (Vs none 0 0)] 70]) d3 e6; clear e6
  refine wp 5 (nq (cs (sr (wp 1 (acv a4.2.1 (0 : UInt8) krf krf (nq (cd hr (fun g6 hr => ?_) (fun g6 hr => ?_))))))))
  refine cr (wp 1 (bi hr fun a3 g7 hr => ?_))
  have g8 : Hp w [] [rwt aaa 46 3 c3 b6 b7 a4.2.2.2.2.2, blk b5 [(str a4.2.2.1.1), (Vi .i64 a4.2.2.1.2)] 119, blk a5 [(str a4.2.2.2.1), (str a4.2.2.2.2.1.1), (str a4.2.2.2.2.1.2.1), (str a4.2.2.2.2.1.2.2.1), (Vi .i64 a4.2.2.2.2.1.2.2.2.1), (Vs b0 a4.2.2.2.2.1.2.2.2.2.1.length b2), (Vs b3 a4.2.2.2.2.1.2.2.2.2.2.length b4), (Vs b6 a4.2.2.2.2.2.length b7)] 70, rwt aaa 46 3 c1 b0 b2 a4.2.2.2.2.1.2.2.2.2.1, rwt aaa 46 3 c2 b3 b4 a4.2.2.2.2.1.2.2.2.2.2, blk b1 [(str ([] : Str)), (str ([] : Str)), (str ([] : Str)), (str ([] : Str)), (Vi .i64 (0 : Int)), (Vs none 0 0), (Vs none 0 0), (Vs none 0 0)] 70] c7 := g5.front 4 _ rfl
  have g9 : Hp w [] [rwt aaa 46 3 c2 b3 b4 a4.2.2.2.2.1.2.2.2.2.2, rwt aaa 46 3 c3 b6 b7 a4.2.2.2.2.2, blk b5 [(str a4.2.2.1.1), (Vi .i64 a4.2.2.1.2)] 119, blk a5 [(str a4.2.2.2.1), (str a4.2.2.2.2.1.1), (str a4.2.2.2.2.1.2.1), (str a4.2.2.2.2.1.2.2.1), (Vi .i64 a4.2.2.2.2.1.2.2.2.1), (Vs b0 a4.2.2.2.2.1.2.2.2.2.1.length b2), (Vs b3 a4.2.2.2.2.1.2.2.2.2.2.length b4), (Vs b6 a4.2.2.2.2.2.length b7)] 70, rwt aaa 46 3 c1 b0 b2 a4.2.2.2.2.1.2.2.2.2.1, blk b1 [(str ([] : Str)), (str ([] : Str)), (str ([] : Str)), (str ([] : Str)), (Vi .i64 (0 : Int)), (Vs none 0 0), (Vs none 0 0), (Vs none 0 0)] 70] c7 := g8.front 4 _ rfl
  have h0 : Hp w [] [rwt aaa 46 3 c1 b0 b2 a4.2.2.2.2.1.2.2.2.2.1, rwt aaa 46 3 c2 b3 b4 a4.2.2.2.2.1.2.2.2.2.2, rwt aaa 46 3 c3 b6 b7 a4.2.2.2.2.2, blk b5 [(str a4.2.2.1.1), (Vi .i64 a4.2.2.1.2)] 119, blk a5 [(str a4.2.2.2.1), (str a4.2.2.2.2.1.1), (str a4.2.2.2.2.1.2.1), (str a4.2.2.2.2.1.2.2.1), (Vi .i64 a4.2.2.2.2.1.2.2.2.1), (Vs b0 a4.2.2.2.2.1.2.2.2.2.1.length b2), (Vs b3 a4.2.2.2.2.1.2.2.2.2.2.length b4), (Vs b6 a4.2.2.2.2.2.length b7)] 70, blk b1 [(str ([] : Str)), (str ([] : Str)), (str ([] : Str)), (str ([] : Str)), (Vi .i64 (0 : Int)), (Vs none 0 0), (Vs none 0 0), (Vs none 0 0)] 70] c7 := g9.front 4 _ rfl
  have h1 : Hp w [] [blk a5 [(str a4.2.2.2.1), (str a4.2.2.2.2.1.1), (str a4.2.2.2.2.1.2.1), (str a4.2.2.2.2.1.2.2.1), (Vi .i64 a4.2.2.2.2.1.2.2.2.1), (Vs b0 a4.2.2.2.2.1.2.2.2.2.1.length b2), (Vs b3 a4.2.2.2.2.1.2.2.2.2.2.length b4), (Vs b6 a4.2.2.2.2.2.length b7)] 70, rwt aaa 46 3 c1 b0 b2 a4.2.2.2.2.1.2.2.2.2.1, rwt aaa 46 3 c2 b3 b4 a4.2.2.2.2.1.2.2.2.2.2, rwt aaa 46 3 c3 b6 b7 a4.2.2.2.2.2, blk b5 [(str a4.2.2.1.1), (Vi .i64 a4.2.2.1.2)] 119, blk b1 [(str ([] : Str)), (str ([] : Str)), (str ([] : Str)), (str ([] : Str)), (Vi .i64 (0 : Int)), (Vs none 0 0), (Vs none 0 0), (Vs none 0 0)] 70] c7 := h0.front 4 _ rfl
  have d4 : Hp w [] [blk b5 [(str a4.2.2.1.1), (Vi .i64 a4.2.2.1.2)] 119, blk a5 [(str a4.2.2.2.1), (str a4.2.2.2.2.1.1), (str a4.2.2.2.2.1.2.1), (str a4.2.2.2.2.1.2.2.1), (Vi .i64 a4.2.2.2.2.1.2.2.2.1), (Vs b0 a4.2.2.2.2.1.2.2.2.2.1.length b2), (Vs b3 a4.2.2.2.2.1.2.2.2.2.2.length b4), (Vs b6 a4.2.2.2.2.2.length b7)] 70, rwt aaa 46 3 c1 b0 b2 a4.2.2.2.2.1.2.2.2.2.1, rwt aaa 46 3 c2 b3 b4 a4.2.2.2.2.1.2.2.2.2.2, rwt aaa 46 3 c3 b6 b7 a4.2.2.2.2.2, blk b1 [(str ([] : Str)), (str ([] : Str)), (str ([] : Str)), (str ([] : Str)), (Vi .i64 (0 : Int)), (Vs none 0 0), (Vs none 0 0), (Vs none 0 0)] 70] c7 := h1.front 4 _ rfl
  refine aat 150 #[] [(Vp (some ⟨b5, 0, none⟩)), (Vp (some ⟨a5, 0, none⟩))] _ ent150 krf krf (apj b5 a5 c1 b0 b2 c2 b3 b4 c3 b6 b7 g7 (hG.hp0 d4) (d4.hand (L1 := [blk b5 [(str a4.2.2.1.1), (Vi .i64 a4.2.2.1.2)] 119, blk a5 [(str a4.2.2.2.1), (str a4.2.2.2.2.1.1), (str a4.2.2.2.2.1.2.1), (str a4.2.2.2.2.1.2.2.1), (Vi .i64 a4.2.2.2.2.1.2.2.2.1), (Vs b0 a4.2.2.2.2.1.2.2.2.2.1.length b2), (Vs b3 a4.2.2.2.2.1.2.2.2.2.2.length b4), (Vs b6 a4.2.2.2.2.2.length b7)] 70, rwt aaa 46 3 c1 b0 b2 a4.2.2.2.2.1.2.2.2.2.1, rwt aaa 46 3 c2 b3 b4 a4.2.2.2.2.1.2.2.2.2.2, rwt aaa 46 3 c3 b6 b7 a4.2.2.2.2.2]) (L2 := [blk b1 [(str ([] : Str)), (str ([] : Str)), (str ([] : Str)), (str ([] : Str)), (Vi .i64 (0 : Int)), (Vs none 0 0), (Vs none 0 0), (Vs none 0 0)] 70])) (d4.highs hG (fun _ h => absurd h (by simp)) 5 rfl)) ?_
  rintro _ h2 ⟨c8, a6, a7, c9, a8, a9, d0, c4, c5, rfl, e7⟩
  have d9 : Hp w [] [blk b5 [(str a3.2.2.1.1), (Vi .i64 a3.2.2.1.2)] 119, blk a5 [(str a3.2.2.2.1), (str a3.2.2.2.2.1.1), (str a3.2.2.2.2.1.2.1), (str a3.2.2.2.2.1.2.2.1), (Vi .i64 a3.2.2.2.2.1.2.2.2.1), (Vs a6 a3.2.2.2.2.1.2.2.2.2.1.length a7), (Vs a8 a3.2.2.2.2.1.2.2.2.2.2.length a9), (Vs c4 a3.2.2.2.2.2.length c5)] 70, rwt aaa 46 3 c8 a6 a7 a3.2.2.2.2.1.2.2.2.2.1, rwt aaa 46 3 c9 a8 a9 a3.2.2.2.2.1.2.2.2.2.2, rwt aaa 46 3 d0 c4 c5 a3.2.2.2.2.2, blk b1 [(str ([] : Str)), (str ([] : Str)), (str ([] : Str)), (str ([] : Str)), (Vi .i64 (0 : Int)), (Vs none 0 0), (Vs none 0 0), (Vs none 0 0)] 70] h2 := Hp.callK (L1 := [blk b5 [(str a4.2.2.1.1), (Vi .i64 a4.2.2.1.2)] 119, blk a5 [(str a4.2.2.2.1), (str a4.2.2.2.2.1.1), (str a4.2.2.2.2.1.2.1), (str a4.2.2.2.2.1.2.2.1), (Vi .i64 a4.2.2.2.2.1.2.2.2.1), (Vs b0 a4.2.2.2.2.1.2.2.2.2.1.length b2), (Vs b3 a4.2.2.2.2.1.2.2.2.2.2.length b4), (Vs b6 a4.2.2.2.2.2.length b7)] 70, rwt aaa 46 3 c1 b0 b2 a4.2.2.2.2.1.2.2.2.2.1, rwt aaa 46 3 c2 b3 b4 a4.2.2.2.2.1.2.2.2.2.2, rwt aaa 46 3 c3 b6 b7 a4.2.2.2.2.2]) (L2 := [blk b1 [(str ([] : Str)), (str ([] : Str)), (str ([] : Str)), (str ([] : Str)), (Vi .i64 (0 : Int)), (Vs none 0 0), (Vs none 0 0), (Vs none 0 0)] 70]) d4 e7; clear e7
  refine wp 5 (nq (cs (sr (wp 1 (acv a3.2.1 (0 : UInt8) krf krf (nq (cd hr (fun h3 hr => ?_) (fun h3 hr => ?_))))))))
  refine sr (wp 4 (acr d9 0 b5 1 [(str a3.2.2.1.1), (Vi .i64 a3.2.2.1.2)] 119 (Vi .i64 a3.2.2.1.2) rfl rfl krf krf (gi hr fun h5 hr => agl s_0 .i64 a3.2.2.1.2 Tryz.underlying9 krf krf h5 (bi hr fun b8 h6 hr => aat 59 #[] [(str (zar (zad a3.2.2.1.2) s_0))] _ ent59 krf krf (ams h6 (hG.hp0 d9)) ?_))))
  rintro _ h7 ⟨d5, b9, c0, rfl, e8⟩
  have h8 : Hp w [] [rwt aaa 46 3 d5 b9 c0 b8.1, blk b5 [(str a3.2.2.1.1), (Vi .i64 a3.2.2.1.2)] 119, blk a5 [(str a3.2.2.2.1), (str a3.2.2.2.2.1.1), (str a3.2.2.2.2.1.2.1), (str a3.2.2.2.2.1.2.2.1), (Vi .i64 a3.2.2.2.2.1.2.2.2.1), (Vs a6 a3.2.2.2.2.1.2.2.2.2.1.length a7), (Vs a8 a3.2.2.2.2.1.2.2.2.2.2.length a9), (Vs c4 a3.2.2.2.2.2.length c5)] 70, rwt aaa 46 3 c8 a6 a7 a3.2.2.2.2.1.2.2.2.2.1, rwt aaa 46 3 c9 a8 a9 a3.2.2.2.2.1.2.2.2.2.2, rwt aaa 46 3 d0 c4 c5 a3.2.2.2.2.2, blk b1 [(str ([] : Str)), (str ([] : Str)), (str ([] : Str)), (str ([] : Str)), (Vi .i64 (0 : Int)), (Vs none 0 0), (Vs none 0 0), (Vs none 0 0)] 70] h7 := Hp.callK (L1 := []) (L2 := [blk b5 [(str a3.2.2.1.1), (Vi .i64 a3.2.2.1.2)] 119, blk a5 [(str a3.2.2.2.1), (str a3.2.2.2.2.1.1), (str a3.2.2.2.2.1.2.1), (str a3.2.2.2.2.1.2.2.1), (Vi .i64 a3.2.2.2.2.1.2.2.2.1), (Vs a6 a3.2.2.2.2.1.2.2.2.2.1.length a7), (Vs a8 a3.2.2.2.2.1.2.2.2.2.2.length a9), (Vs c4 a3.2.2.2.2.2.length c5)] 70, rwt aaa 46 3 c8 a6 a7 a3.2.2.2.2.1.2.2.2.2.1, rwt aaa 46 3 c9 a8 a9 a3.2.2.2.2.1.2.2.2.2.2, rwt aaa 46 3 d0 c4 c5 a3.2.2.2.2.2, blk b1 [(str ([] : Str)), (str ([] : Str)), (str ([] : Str)), (str ([] : Str)), (Vi .i64 (0 : Int)), (Vs none 0 0), (Vs none 0 0), (Vs none 0 0)] 70]) d9 e8; clear e8
  refine wp 5 (aht h8 2 a5 7 [(str a3.2.2.2.1), (str a3.2.2.2.2.1.1), (str a3.2.2.2.2.1.2.1), (str a3.2.2.2.2.1.2.2.1), (Vi .i64 a3.2.2.2.2.1.2.2.2.1), (Vs a6 a3.2.2.2.2.1.2.2.2.2.1.length a7), (Vs a8 a3.2.2.2.2.1.2.2.2.2.2.length a9), (Vs c4 a3.2.2.2.2.2.length c5)] 70 (Vs b9 b8.1.length c0) [rwt aaa 46 3 d5 b9 c0 b8.1, blk b5 [(str a3.2.2.1.1), (Vi .i64 a3.2.2.1.2)] 119, blk a5 [(str a3.2.2.2.1), (str a3.2.2.2.2.1.1), (str a3.2.2.2.2.1.2.1), (str a3.2.2.2.2.1.2.2.1), (Vi .i64 a3.2.2.2.2.1.2.2.2.1), (Vs a6 a3.2.2.2.2.1.2.2.2.2.1.length a7), (Vs a8 a3.2.2.2.2.1.2.2.2.2.2.length a9), (Vs b9 b8.1.length c0)] 70, rwt aaa 46 3 c8 a6 a7 a3.2.2.2.2.1.2.2.2.2.1, rwt aaa 46 3 c9 a8 a9 a3.2.2.2.2.1.2.2.2.2.2, rwt aaa 46 3 d0 c4 c5 a3.2.2.2.2.2, blk b1 [(str ([] : Str)), (str ([] : Str)), (str ([] : Str)), (str ([] : Str)), (Vi .i64 (0 : Int)), (Vs none 0 0), (Vs none 0 0), (Vs none 0 0)] 70] rfl (zaj (zac _) nbe) krf krf rfl krf rfl fun i2 e0 => wp 2 (nq (cr (wp 4 (acr e0 1 b5 1 [(str a3.2.2.1.1), (Vi .i64 a3.2.2.1.2)] 119 (Vi .i64 a3.2.2.1.2) rfl rfl krf krf (gi hr fun h9 hr => aah b8.2.1 a3.2.2.1.2 krf krf h9 ?_))))))
  refine wp 1 (nq (cs (sr (wp 1 (afs b8.2.2 (0 : UInt8) krf krf (nq (cn hr (fun i0 hr => ?_) (fun i0 hr => ?_))))))))
  exact nzz hr
  refine ck (qn (sr (aob e0 2 a5 0 8 [(str a3.2.2.2.1), (str a3.2.2.2.2.1.1), (str a3.2.2.2.2.1.2.1), (str a3.2.2.2.2.1.2.2.1), (Vi .i64 a3.2.2.2.2.1.2.2.2.1), (Vs a6 a3.2.2.2.2.1.2.2.2.2.1.length a7), (Vs a8 a3.2.2.2.2.1.2.2.2.2.2.length a9), (Vs b9 b8.1.length c0)] [(str a3.2.2.2.1), (str a3.2.2.2.2.1.1), (str a3.2.2.2.2.1.2.1), (str a3.2.2.2.2.1.2.2.1), (Vi .i64 a3.2.2.2.2.1.2.2.2.1), (Vs a6 a3.2.2.2.2.1.2.2.2.2.1.length a7), (Vs a8 a3.2.2.2.2.1.2.2.2.2.2.length a9), (Vs b9 b8.1.length c0)] 70 rfl rfl rfl krf krf krf (ahl e0 6 b1 0 [(str ([] : Str)), (str ([] : Str)), (str ([] : Str)), (str ([] : Str)), (Vi .i64 (0 : Int)), (Vs none 0 0), (Vs none 0 0), (Vs none 0 0)] [(str a3.2.2.2.1), (str a3.2.2.2.2.1.1), (str a3.2.2.2.2.1.2.1), (str a3.2.2.2.2.1.2.2.1), (Vi .i64 a3.2.2.2.2.1.2.2.2.1), (Vs a6 a3.2.2.2.2.1.2.2.2.2.1.length a7), (Vs a8 a3.2.2.2.2.1.2.2.2.2.2.length a9), (Vs b9 b8.1.length c0)] 70 [rwt aaa 46 3 d5 b9 c0 b8.1, blk b5 [(str a3.2.2.1.1), (Vi .i64 a3.2.2.1.2)] 119, blk a5 [(str a3.2.2.2.1), (str a3.2.2.2.2.1.1), (str a3.2.2.2.2.1.2.1), (str a3.2.2.2.2.1.2.2.1), (Vi .i64 a3.2.2.2.2.1.2.2.2.1), (Vs a6 a3.2.2.2.2.1.2.2.2.2.1.length a7), (Vs a8 a3.2.2.2.2.1.2.2.2.2.2.length a9), (Vs b9 b8.1.length c0)] 70, rwt aaa 46 3 c8 a6 a7 a3.2.2.2.2.1.2.2.2.2.1, rwt aaa 46 3 c9 a8 a9 a3.2.2.2.2.1.2.2.2.2.2, rwt aaa 46 3 d0 c4 c5 a3.2.2.2.2.2, blk b1 [(str a3.2.2.2.1), (str a3.2.2.2.2.1.1), (str a3.2.2.2.2.1.2.1), (str a3.2.2.2.2.1.2.2.1), (Vi .i64 a3.2.2.2.2.1.2.2.2.1), (Vs a6 a3.2.2.2.2.1.2.2.2.2.1.length a7), (Vs a8 a3.2.2.2.2.1.2.2.2.2.2.length a9), (Vs b9 b8.1.length c0)] 70] rfl nbe krf krf rfl krf rfl fun i3 e9 => wp 2 (nq (ct ?_))))))
  obtain rfl := oi hr
  refine aor _ [(zam #[(str a3.2.2.2.1), (str a3.2.2.2.2.1.1), (str a3.2.2.2.2.1.2.1), (str a3.2.2.2.2.1.2.2.1), (Vi .i64 a3.2.2.2.2.1.2.2.2.1), (Vs a6 a3.2.2.2.2.1.2.2.2.2.1.length a7), (Vs a8 a3.2.2.2.2.1.2.2.2.2.2.length a9), (Vs b9 b8.1.length c0)]), (Vi .i64 (0 : Int)), (bt (0 : UInt8))] (zal #[(zam #[(str a3.2.2.2.1), (str a3.2.2.2.2.1.1), (str a3.2.2.2.2.1.2.1), (str a3.2.2.2.2.1.2.2.1), (Vi .i64 a3.2.2.2.2.1.2.2.2.1), (Vs a6 a3.2.2.2.2.1.2.2.2.2.1.length a7), (Vs a8 a3.2.2.2.2.1.2.2.2.2.2.length a9), (Vs b9 b8.1.length c0)]), (Vi .i64 (0 : Int)), (bt (0 : UInt8))]) rfl rfl (abh (ahv e9 6 b1 70 [(str a3.2.2.2.1), (str a3.2.2.2.2.1.1), (str a3.2.2.2.2.1.2.1), (str a3.2.2.2.2.1.2.2.1), (Vi .i64 a3.2.2.2.2.1.2.2.2.1), (Vs a6 a3.2.2.2.2.1.2.2.2.2.1.length a7), (Vs a8 a3.2.2.2.2.1.2.2.2.2.2.length a9), (Vs b9 b8.1.length c0)] rfl krf krf krf) (abh (afe krf) (abh (afe krf) agu))) rfl ?_
  exact ⟨c8, a6, a7, c9, a8, a9, d5, b9, c0, (by first | rfl | (simp; done) | (simp; omega)), (Hp.front (Hp.front e9 4 _ rfl) 4 _ rfl).kp⟩
  exact nzz hr
  exact nzz hr
  exact nzz hr
theorem K_L_header_Address {fu : Nat} {b4 : Str} {w : World} {r : ((Str × (Str × Str × Str × Int × (List (Str × Str × Bool)) × (List (Str × Str × Bool))) × (List (Str × Str × Bool))) × UInt8)} (hr : ant fu b4 = some r) (hG : Gl w) : CR Tryz.prog 40 [(str b4)] w fun v w' => ∃ (o0 : Option Nat), ∃ (a0 : Option Addr), ∃ (cap0 : Nat), ∃ (o1 : Option Nat), ∃ (a1 : Option Addr), ∃ (cap1 : Nat), ∃ (o2 : Option Nat), ∃ (a2 : Option Addr), ∃ (cap2 : Nat), v = (zal #[(zam #[(str r.1.1), (str r.1.2.1.1), (str r.1.2.1.2.1), (str r.1.2.1.2.2.1), (Vi .i64 r.1.2.1.2.2.2.1), (Vs a0 r.1.2.1.2.2.2.2.1.length cap0), (Vs a1 r.1.2.1.2.2.2.2.2.length cap1), (Vs a2 r.1.2.2.length cap2)]), (bt r.2)]) ∧ Hp w [] [rwt aaa 46 3 o0 a0 cap0 r.1.2.1.2.2.2.2.1, rwt aaa 46 3 o1 a1 cap1 r.1.2.1.2.2.2.2.2, rwt aaa 46 3 o2 a2 cap2 r.1.2.2] w' := by
  have hH : Hp w [] [] w := Hp.refl w
  refine enter (k := 16) Tryz.func40 rfl rfl nbe ?_
  unfold ant at hr
  refine sr (adx hH [(str ([] : Str)), (str ([] : Str)), (str ([] : Str)), (str ([] : Str)), (Vi .i64 (0 : Int)), (Vs none 0 0), (Vs none 0 0), (Vs none 0 0)] 70 (fun b => (Vp (some ⟨b, 0, none⟩))) rfl rfl krf fun b1 w2 b5 => wp 1 (nq (sr (wp 1 (bi hr fun y4 c0 hr => ?_)))))
  refine wc ent51 b5 (akt c0 (hG.hp0 b5)) fun w6 b6 => bi hr fun y9 c1 hr => aat 93 #[] [(str y4)] _ ent93 krf krf (apv c1 (hG.hp0 b6)) ?_
  rintro _ c2 ⟨a9, a3, a4, b0, a5, a6, b2, a7, a8, rfl, b7⟩
  have c3 : Hp w [] [rwt aaa 46 3 a9 a3 a4 y9.1.2.1.2.2.2.2.1, rwt aaa 46 3 b0 a5 a6 y9.1.2.1.2.2.2.2.2, rwt aaa 46 3 b2 a7 a8 y9.1.2.2, blk b1 [(str ([] : Str)), (str ([] : Str)), (str ([] : Str)), (str ([] : Str)), (Vi .i64 (0 : Int)), (Vs none 0 0), (Vs none 0 0), (Vs none 0 0)] 70] c2 := Hp.callK (L1 := []) (L2 := [blk b1 [(str ([] : Str)), (str ([] : Str)), (str ([] : Str)), (str ([] : Str)), (Vi .i64 (0 : Int)), (Vs none 0 0), (Vs none 0 0), (Vs none 0 0)] 70]) b6 b7; clear b7
  refine wp 4 (adx c3 [(str ([] : Str)), (str ([] : Str)), (str ([] : Str)), (str ([] : Str)), (Vi .i64 (0 : Int)), (Vs none 0 0), (Vs none 0 0), (Vs none 0 0)] 70 (fun b => (Vp (some ⟨b, 0, none⟩))) rfl rfl krf fun b3 c5 c4 => ahl c4 0 b3 0 [(str ([] : Str)), (str ([] : Str)), (str ([] : Str)), (str ([] : Str)), (Vi .i64 (0 : Int)), (Vs none 0 0), (Vs none 0 0), (Vs none 0 0)] [(str y9.1.1), (str y9.1.2.1.1), (str y9.1.2.1.2.1), (str y9.1.2.1.2.2.1), (Vi .i64 y9.1.2.1.2.2.2.1), (Vs a3 y9.1.2.1.2.2.2.2.1.length a4), (Vs a5 y9.1.2.1.2.2.2.2.2.length a6), (Vs a7 y9.1.2.2.length a8)] 70 [blk b3 [(str y9.1.1), (str y9.1.2.1.1), (str y9.1.2.1.2.1), (str y9.1.2.1.2.2.1), (Vi .i64 y9.1.2.1.2.2.2.1), (Vs a3 y9.1.2.1.2.2.2.2.1.length a4), (Vs a5 y9.1.2.1.2.2.2.2.2.length a6), (Vs a7 y9.1.2.2.length a8)] 70, rwt aaa 46 3 a9 a3 a4 y9.1.2.1.2.2.2.2.1, rwt aaa 46 3 b0 a5 a6 y9.1.2.1.2.2.2.2.2, rwt aaa 46 3 b2 a7 a8 y9.1.2.2, blk b1 [(str ([] : Str)), (str ([] : Str)), (str ([] : Str)), (str ([] : Str)), (Vi .i64 (0 : Int)), (Vs none 0 0), (Vs none 0 0), (Vs none 0 0)] 70] rfl nbe krf krf rfl krf rfl fun c6 b8 => wp 2 (nq (sr (aob b8 0 b3 0 8 [(str y9.1.1), (str y9.1.2.1.1), (str y9.1.2.1.2.1), (str y9.1.2.1.2.2.1), (Vi .i64 y9.1.2.1.2.2.2.1), (Vs a3 y9.1.2.1.2.2.2.2.1.length a4), (Vs a5 y9.1.2.1.2.2.2.2.2.length a6), (Vs a7 y9.1.2.2.length a8)] [(str y9.1.1), (str y9.1.2.1.1), (str y9.1.2.1.2.1), (str y9.1.2.1.2.2.1), (Vi .i64 y9.1.2.1.2.2.2.1), (Vs a3 y9.1.2.1.2.2.2.2.1.length a4), (Vs a5 y9.1.2.1.2.2.2.2.2.length a6), (Vs a7 y9.1.2.2.length a8)] 70 rfl rfl rfl krf krf krf (wp 1 ?_)))))
  refine ahl b8 4 b1 0 [(str ([] : Str)), (str ([] : Str)), (str ([] : Str)), (str ([] : Str)), (Vi .i64 (0 : Int)), (Vs none 0 0), (Vs none 0 0), (Vs none 0 0)] [(str y9.1.1), (str y9.1.2.1.1), (str y9.1.2.1.2.1), (str y9.1.2.1.2.2.1), (Vi .i64 y9.1.2.1.2.2.2.1), (Vs a3 y9.1.2.1.2.2.2.2.1.length a4), (Vs a5 y9.1.2.1.2.2.2.2.2.length a6), (Vs a7 y9.1.2.2.length a8)] 70 [blk b3 [(str y9.1.1), (str y9.1.2.1.1), (str y9.1.2.1.2.1), (str y9.1.2.1.2.2.1), (Vi .i64 y9.1.2.1.2.2.2.1), (Vs a3 y9.1.2.1.2.2.2.2.1.length a4), (Vs a5 y9.1.2.1.2.2.2.2.2.length a6), (Vs a7 y9.1.2.2.length a8)] 70, rwt aaa 46 3 a9 a3 a4 y9.1.2.1.2.2.2.2.1, rwt aaa 46 3 b0 a5 a6 y9.1.2.1.2.2.2.2.2, rwt aaa 46 3 b2 a7 a8 y9.1.2.2, blk b1 [(str y9.1.1), (str y9.1.2.1.1), (str y9.1.2.1.2.1), (str y9.1.2.1.2.2.1), (Vi .i64 y9.1.2.1.2.2.2.1), (Vs a3 y9.1.2.1.2.2.2.2.1.length a4), (Vs a5 y9.1.2.1.2.2.2.2.2.length a6), (Vs a7 y9.1.2.2.length a8)] 70] rfl nbe krf krf rfl krf rfl fun c7 b9 => wp 1 (nq (ct ?_))
  obtain rfl := oi hr
  refine aor _ [(zam #[(str y9.1.1), (str y9.1.2.1.1), (str y9.1.2.1.2.1), (str y9.1.2.1.2.2.1), (Vi .i64 y9.1.2.1.2.2.2.1), (Vs a3 y9.1.2.1.2.2.2.2.1.length a4), (Vs a5 y9.1.2.1.2.2.2.2.2.length a6), (Vs a7 y9.1.2.2.length a8)]), (bt y9.2.2)] (zal #[(zam #[(str y9.1.1), (str y9.1.2.1.1), (str y9.1.2.1.2.1), (str y9.1.2.1.2.2.1), (Vi .i64 y9.1.2.1.2.2.2.1), (Vs a3 y9.1.2.1.2.2.2.2.1.length a4), (Vs a5 y9.1.2.1.2.2.2.2.2.length a6), (Vs a7 y9.1.2.2.length a8)]), (bt y9.2.2)]) rfl rfl (abh (ahv b9 4 b1 70 [(str y9.1.1), (str y9.1.2.1.1), (str y9.1.2.1.2.1), (str y9.1.2.1.2.2.1), (Vi .i64 y9.1.2.1.2.2.2.1), (Vs a3 y9.1.2.1.2.2.2.2.1.length a4), (Vs a5 y9.1.2.1.2.2.2.2.2.length a6), (Vs a7 y9.1.2.2.length a8)] rfl krf krf krf) (abh (afe krf) agu)) rfl ?_
  exact ⟨a9, a3, a4, b0, a5, a6, b2, a7, a8, (by first | rfl | (simp; done) | (simp; omega)), (Hp.front (Hp.front (Hp.front b9 3 _ rfl) 3 _ rfl) 3 _ rfl).kp⟩
theorem K_L_lexis_Quote {fu : Nat} {s_0 : Str} {w : World} {r : (Str × UInt8)} (hr : aky fu s_0 = some r) (hG : Gl w) : CR Tryz.prog 99 [(str s_0)] w fun v w' => v = (zal #[(str r.1), (bt r.2)]) ∧ Hp w [] [] w' := by
  have hH : Hp w [] [] w := Hp.refl w
  refine enter (k := 44) Tryz.func99 rfl rfl nbe ?_
  unfold aky at hr
  refine sr (wp 2 (nq (sr (wp 2 (gi hr fun g1 hr => aah (s_0.length : Int) (2 : Int) krf krf g1 ?_)))))
  refine gi hr fun g2 hr => w_makeT (f := eB) hH 5 1 1 .i64 .i64 ((s_0.length : Int) + (2 : Int)) Tryz.underlying92 (by unfold TI; kernel_rfl) (by decide) krf krf g2 fun o3 a4 cap5 w6 e6 => wp 1 (nq (sr (wp 1 (adx e6 [(bt (34 : UInt8))] 5 (fun b => (Vs (some ⟨b, 0, none⟩) 1 1)) rfl rfl krf fun b8 w9 c8 => gi hr fun e7 hr => ?_))))
  refine adz c8 1 o3 a4 (some ⟨b8, 0, none⟩) cap5 1 5 1 1 ([] : List UInt8) ([(34 : UInt8)] : List UInt8) alj rfl Tryz.underlying92 (by unfold TI; kernel_rfl) (by decide) (by decide) (Eq.trans (b := (Vs a4 0 cap5)) krf (aaj (by first | rfl | (simp; done) | omega | (simp; omega) | (rw [zah]; omega)))) (Eq.trans (b := (Vs (some ⟨b8, 0, none⟩) 1 1)) krf (aaj (by first | rfl | (simp; done) | omega | (simp; omega) | (rw [zah]; omega)))) (c8.rdblk 0 rfl) e7 fun c9 d0 d1 e8 c1 => ?_
  replace c1 : Hp w [] [blk b8 [(bt (34 : UInt8))] 5, rwt eB 5 1 c9 d0 d1 (([] : List UInt8) ++ ([(34 : UInt8)] : List UInt8))] e8 := c1
  refine wp 1 (nq (bi hr fun d2 e9 hr => cut (σ := (List UInt8) × (Option Nat) × (Option Addr) × Nat) [2, 3, 4] (fun ⟨a3, b6, b1, b2⟩ => [(4, (Vs b1 a3.length b2))]) (fun ⟨a3, b6, b1, b2⟩ w' => Hp w [] [rwt eB 5 1 b6 b1 b2 a3] w' ∧ .inl a3 = d2) ?_ ?_))
  refine sr (wp 3 (nq (ce (lpG (σ := Nat × (List UInt8) × Int × (Option Nat) × (Option Addr) × Nat) [0, 2, 3, 4, 15, 16] (fun ⟨b0, a2, a1, a9, a6, a7⟩ => [(4, (Vs a6 a2.length a7)), (16, (Vi .i64 a1))]) (fun ⟨b0, a2, a1, a9, a6, a7⟩ w' => Hp w [] [rwt eB 5 1 a9 a6 a7 a2] w' ∧ afb fu s_0 b0 a2 a1 = some d2) (fun ⟨b0, a2, a1, a9, a6, a7⟩ => b0) (fu, ([] : List UInt8) ++ ([(34 : UInt8)] : List UInt8), (0 : Int), c9, d0, d1) (by exact ⟨(Hp.front c1 1 _ rfl).kp, e9⟩) ?_))))
  rintro ⟨_ | b0, a2, a1, a9, a6, a7⟩ h0 G ⟨c2, a0⟩
  · exact nzz a0
  rw [afb.eq_2] at a0
  refine sr (wp 1 (nq (cs (cd a0 (fun f0 a0 => ?_) (fun f0 a0 => ?_)))))
  refine ck (qn (cs (ce (sr (wp 2 (nq (cs ?_)))))))
  refine cr (wp 2 (gi a0 fun f1 a0 => abp s_0 .i64 a1 Tryz.underlying9 krf krf f1 (wp 1 (nq (cs (sr ?_))))))
  refine wp 1 (bi a0 fun h1 f2 a0 => wc ent162 c2 (amu f2 (hG.hp0 c2)) fun h2 b7 => nq (cb a0 (fun f3 a0 => ?_) (fun f3 a0 => ?_)))
  refine sr (wp 2 (nq (ct (st (bt_ (st (adl ?_)))))))
  refine bt_ (adl ?_)
  obtain rfl := oi a0
  obtain rfl := oi hr
  exact rv b7.kp
  refine ck (qn (bi a0 fun f4 a5 a0 => cut (σ := (List UInt8) × (Option Nat) × (Option Addr) × Nat) [0, 2, 3, 4, 5, 15, 16] (fun ⟨a8, b9, b3, b4⟩ => [(4, (Vs b3 a8.length b4))]) (fun ⟨a8, b9, b3, b4⟩ w' => Hp w [] [rwt eB 5 1 b9 b3 b4 a8] w' ∧ a8 = f4) ?_ ?_))
  refine bi a5 fun f5 b5 a5 => agq b7 [0, 2, 3, 4, 5, 15, 16, 29] [(29, (Vb f5))] ?_ ?_
  refine cr (wp 1 (acv (at_ s_0 a1) (34 : UInt8) krf krf (wd b5 (fun f6 b5 => ?_) (fun f6 b5 => ?_))))
  refine wp 3 (wl (ql ?_))
  obtain rfl := oi b5
  exact je b7.kp
  refine wp 1 (gy 26 (acv (at_ s_0 a1) (92 : UInt8) krf krf (wp 1 (wl (ql ?_)))))
  obtain rfl := oi b5
  exact je b7.kp
  intro h3 G d3
  refine cb a5 (fun f7 a5 => ?_) (fun f7 a5 => ?_)
  refine cr (wp 1 (adx d3 [(bt (92 : UInt8))] 5 (fun b => (Vs (some ⟨b, 0, none⟩) 1 1)) rfl rfl krf fun c3 h4 d4 => gi a5 fun f8 a5 => adz d4 1 a9 a6 (some ⟨c3, 0, none⟩) a7 1 5 1 1 a2 ([(92 : UInt8)] : List UInt8) alj rfl Tryz.underlying92 (by unfold TI; kernel_rfl) (by decide) (by decide) krf (Eq.trans (b := (Vs (some ⟨c3, 0, none⟩) 1 1)) krf (aaj (by first | rfl | (simp; done) | omega | (simp; omega) | (rw [zah]; omega)))) (d4.rdblk 0 rfl) f8 fun d5 d6 d7 f9 c4 => ?_))
  replace c4 : Hp w [] [blk c3 [(bt (92 : UInt8))] 5, rwt eB 5 1 d5 d6 d7 (a2 ++ ([(92 : UInt8)] : List UInt8))] f9 := c4
  refine wp 1 (wl (ql ?_))
  obtain rfl := oi a5
  exact ⟨(a2 ++ ([(92 : UInt8)] : List UInt8), d5, d6, d7), _, rfl, by kernel_rfl, (Hp.front c4 1 _ rfl).kp, rfl⟩
  refine ck (ql ?_)
  obtain rfl := oi a5
  exact ⟨(a2, a9, a6, a7), _, rfl, by kernel_rfl, d3.kp, rfl⟩
  rintro ⟨a8, b9, b3, b4⟩ h5 G ⟨g0, rfl⟩
  refine cr (wp 3 (gi a0 fun g3 a0 => abp s_0 .i64 a1 Tryz.underlying9 krf krf g3 (adx g0 [(bt (at_ s_0 a1))] 5 (fun b => (Vs (some ⟨b, 0, none⟩) 1 1)) rfl rfl krf fun c5 h6 d8 => gi a0 fun g4 a0 => adz d8 1 b9 b3 (some ⟨c5, 0, none⟩) b4 1 5 1 1 a8 ([at_ s_0 a1] : List UInt8) alj rfl Tryz.underlying92 (by unfold TI; kernel_rfl) (by decide) (by decide) krf (Eq.trans (b := (Vs (some ⟨c5, 0, none⟩) 1 1)) krf (aaj (by first | rfl | (simp; done) | omega | (simp; omega) | (rw [zah]; omega)))) (d8.rdblk 0 rfl) g4 fun d9 e0 e1 g5 c6 => ?_)))
  replace c6 : Hp w [] [blk c5 [(bt (at_ s_0 a1))] 5, rwt eB 5 1 d9 e0 e1 (a8 ++ ([at_ s_0 a1] : List UInt8))] g5 := c6
  refine wp 1 (wl (bn (qn (cr (gi a0 fun g6 a0 => aah a1 (1 : Int) krf krf g6 (wp 1 (wl (ql ?_))))))))
  exact ⟨(b0, a8 ++ ([at_ s_0 a1] : List UInt8), a1 + (1 : Int), d9, e0, e1), _, rfl, by kernel_rfl, ⟨(Hp.front c6 1 _ rfl).kp, a0⟩, zac _⟩
  refine ace (acd (acq (acf (ql ?_))))
  obtain rfl := oi a0
  exact ⟨(a2, a9, a6, a7), _, rfl, by kernel_rfl, c2.kp, rfl⟩
  rintro ⟨a3, b6, b1, b2⟩ h7 G ⟨g7, rfl⟩
  refine sr (wp 1 (adx g7 [(bt (34 : UInt8))] 5 (fun b => (Vs (some ⟨b, 0, none⟩) 1 1)) rfl rfl krf fun c7 h8 e2 => gi hr fun g8 hr => adz e2 1 b6 b1 (some ⟨c7, 0, none⟩) b2 1 5 1 1 a3 ([(34 : UInt8)] : List UInt8) alj rfl Tryz.underlying92 (by unfold TI; kernel_rfl) (by decide) (by decide) krf (Eq.trans (b := (Vs (some ⟨c7, 0, none⟩) 1 1)) krf (aaj (by first | rfl | (simp; done) | omega | (simp; omega) | (rw [zah]; omega)))) (e2.rdblk 0 rfl) g8 fun g9 e3 e4 e5 c0 => ?_))
  replace c0 : Hp w [] [blk c7 [(bt (34 : UInt8))] 5, rwt eB 5 1 g9 e3 e4 (a3 ++ ([(34 : UInt8)] : List UInt8))] e5 := c0
  refine aey (v := (str (a3 ++ ([(34 : UInt8)] : List UInt8)))) (w' := e5) rfl rfl (apc (a3 ++ ([(34 : UInt8)] : List UInt8)) e3 ((a3 ++ ([(34 : UInt8)] : List UInt8)).length) e4 5 (Rd.bytes (c0.rdrw 1 rfl)) (by first | rfl | (simp; done) | omega | (simp; omega) | (rw [zah]; omega)) Tryz.underlying92 Tryz.underlying9 Tryz.underlying5 krf) (wp 2 (nq (ct ?_)))
  obtain rfl := oi hr
  exact rv c0.kp
theorem K_L_address_control {fu : Nat} {a0 : UInt8} {w : World} {r : Bool} (hr : anb fu a0 = some r) (hG : Gl w) : CR Tryz.prog 238 [(bt a0)] w fun v w' => v = (Vb r) ∧ Hp w [] [] w' := by
  have hH : Hp w [] [] w := Hp.refl w
  refine enter (k := 13) Tryz.func238 rfl rfl nbe ?_
  unfold anb at hr
  refine sr (wp 1 (nq (bi hr fun v4 a1 hr => agq hH [2] [(2, (Vb (decide (a0 = (127 : UInt8)))))] ?_ ?_)))
  refine cr (wp 1 (w8_lss a0 (32 : UInt8) krf krf (wd a1 (fun h5 a1 => ?_) (fun h5 a1 => ?_))))
  exact nzz a1
  refine wp 5 (gy 9 (acv a0 (127 : UInt8) krf krf (wp 2 (wl (ql ?_)))))
  obtain rfl := oi a1
  exact je hH.kp
  intro w6 G a2
  refine ct ?_
  obtain rfl := oi hr
  exact rv a2.kp
theorem alf {fu : Nat} {s_0 : Str} {w : World} {r : Bool} (hr : aks fu s_0 = some r) (hG : Gl w) : CR Tryz.prog 201 [(str s_0)] w fun v w' => v = (Vb r) ∧ Hp w [] [] w' := by
  have hH : Hp w [] [] w := Hp.refl w
  refine enter (k := 14) Tryz.func201 rfl rfl nbe ?_
  unfold aks at hr
  refine sr (wp 1 (nq (bi hr fun b2 a4 hr => agq hH [2] [] ?_ ?_)))
  refine sr (wp 3 (nq (ce (lpS (fun a3 a1 => ajt fu s_0 a3 a1) (0 : Int) hH a4 [0, 2, 5, 6] (fun a1 => [(6, (Vi .i64 a1))]) (fun _ => rfl) ?_))))
  rintro a3 a1 b3 G a2 a0
  rw [ajt.eq_2] at a0
  refine sr (wp 1 (nq (cs (cd a0 (fun a5 a0 => ?_) (fun a5 a0 => ?_)))))
  refine ck (qn (cs (ce (sr (wp 2 (nq (cs ?_)))))))
  refine cr (wp 2 (gi a0 fun a6 a0 => abp s_0 .i64 a1 Tryz.underlying9 krf krf a6 (bi a0 fun b4 a7 a0 => wc ent238 a2 (K_L_address_control a7 (hG.hp0 a2)) fun b5 a8 => nq (cb a0 (fun a9 a0 => ?_) (fun a9 a0 => ?_)))))
  exact nzz a0
  exact ck (bn (qn (cr (gi a0 fun b0 a0 => aah a1 (1 : Int) krf krf b0 (wp 1 (wl (ql (le' (a1 + (1 : Int)) a8.kp a0))))))))
  refine ace (acd (acq (acf (ql ?_))))
  obtain rfl := oi a0
  exact je a2.kp
  intro b6 G b1
  refine sr (wp 1 (nq (ct ?_)))
  obtain rfl := oi hr
  exact rv b1.kp
theorem akm {fu : Nat} {a2 : List (Str × Str × Bool)} {c3 : Int} (b9 : Option Addr) (c4 : Nat) (c5 : Nat) {w : World} {r : ((List (Str × Str × Bool)) × Bool)} (hr : als fu a2 c3 = some r) (hG : Gl w) (e2 : c4 = a2.length) (d2 : Rd w b9 (zai aaa a2)) (g8 : c4 ≤ c5) : CR Tryz.prog 203 [(Vs b9 c4 c5), (Vi .i64 c3)] w fun v w' => ∃ (o0 : Option Nat), ∃ (a0 : Option Addr), ∃ (cap0 : Nat), v = (zal #[(Vs a0 r.1.length cap0), (Vb r.2)]) ∧ Hp w [] [rwt aaa 46 3 o0 a0 cap0 r.1] w' := by
  subst e2
  have hH : Hp w [] [] w := Hp.refl w
  refine enter (k := 69) Tryz.func203 rfl rfl nbe ?_
  unfold als at hr
  refine sr (wp 2 (nq (cs (sr (wp 3 (wl ?_))))))
  refine qn (cd hr (fun h1 hr => ?_) (fun h1 hr => ?_))
  exact nzz hr
  refine ck (qn (sr (wp 1 (nq (bi hr fun d3 e3 hr => cut (σ := (List (Str × Str × Bool)) × (Option Nat) × (Option Addr) × Nat) [4, 5, 6] (fun ⟨b0, b6, b2, b3⟩ => [(6, (Vs b2 b0.length b3))]) (fun ⟨b0, b6, b2, b3⟩ w' => Hp w [] [rwt aaa 46 3 b6 b2 b3 b0] w' ∧ b0 = d3) ?_ ?_)))))
  refine sr (wp 3 (nq (ce (lpG (σ := Nat × (List (Str × Str × Bool)) × Int × (Option Nat) × (Option Addr) × Nat) [1, 4, 5, 6, 12, 13, 14] (fun ⟨b5, a6, a1, b4, a8, a9⟩ => [(6, (Vs a8 a6.length a9)), (14, (Vi .i64 a1))]) (fun ⟨b5, a6, a1, b4, a8, a9⟩ w' => Hp w [] [rwt aaa 46 3 b4 a8 a9 a6] w' ∧ aiv fu a2 c3 b5 a6 a1 = some d3) (fun ⟨b5, a6, a1, b4, a8, a9⟩ => b5) (fu, ([] : List (Str × Str × Bool)), (0 : Int), none, none, 0) (by exact ⟨(Hp.nilrw hH aaa 46 3 none).kp, e3⟩) ?_ (mc krf (mc krf (mc krf (mc (Eq.trans (b := (Vs none 0 0)) krf (aaj lsy)) (mc krf (mc krf (mc krf rfl)))))))))))
  rintro ⟨_ | b5, a6, a1, b4, a8, a9⟩ g9 G ⟨c0, a3⟩
  · exact nzz a3
  rw [aiv.eq_2] at a3
  refine sr (wp 1 (nq (cs (cd a3 (fun e4 a3 => ?_) (fun e4 a3 => ?_)))))
  refine ck (qn (cs (ce (sr (gi a3 fun e5 a3 => ahu b9 a2.length c5 46 3 .i64 a1 Tryz.underlying22 krf krf krf a2 rfl e5 (d2.hp c0) aab (by decide) (gi a3 fun e6 a3 => aiy b9 aaa a2 3 a1 aab (d2.hp c0) [(str ((el a2 a1).1)), (str ((el a2 a1).2.1)), (Vb ((el a2 a1).2.2))] e6 krf krf krf krf (by decide) ?_))))))
  refine adx c0 [(str ([] : Str)), (str ([] : Str)), (Vb false)] 46 (fun b => (Vp (some ⟨b, 0, none⟩))) rfl rfl krf fun a7 h0 e7 => ahl e7 0 a7 0 [(str ([] : Str)), (str ([] : Str)), (Vb false)] [(str ((el a2 a1).1)), (str ((el a2 a1).2.1)), (Vb ((el a2 a1).2.2))] 46 [blk a7 [(str ((el a2 a1).1)), (str ((el a2 a1).2.1)), (Vb ((el a2 a1).2.2))] 46, rwt aaa 46 3 b4 a8 a9 a6] rfl nbe krf krf rfl krf rfl fun h2 c6 => nq (sr (wp 1 (acr c6 0 a7 0 [(str ((el a2 a1).1)), (str ((el a2 a1).2.1)), (Vb ((el a2 a1).2.2))] 46 (str ((el a2 a1).1)) rfl rfl krf krf (bi a3 fun a4 e8 a3 => wc ent84 c6 (ado e8 (hG.hp0 c6)) fun h3 e9 => ?_))))
  refine wp 1 (aht e9 0 a7 0 [(str ((el a2 a1).1)), (str ((el a2 a1).2.1)), (Vb ((el a2 a1).2.2))] 46 (str a4) [blk a7 [(str a4), (str ((el a2 a1).2.1)), (Vb ((el a2 a1).2.2))] 46, rwt aaa 46 3 b4 a8 a9 a6] rfl (zaj (zac _) nbe) krf krf rfl krf rfl fun h4 b7 => nq (cs (bi a3 fun f0 a5 a3 => agq b7 [1, 4, 5, 6, 8, 12, 13, 14, 42] [(42, (Vb f0))] ?_ ?_)))
  refine cr (wp 1 (acr b7 0 a7 0 [(str a4), (str ((el a2 a1).2.1)), (Vb ((el a2 a1).2.2))] 46 (str a4) rfl rfl krf krf (wp 1 (wd a5 (fun f1 a5 => ?_) (fun f1 a5 => ?_)))))
  exact nzz a5
  refine wp 1 (gy 25 (acr b7 0 a7 0 [(str a4), (str ((el a2 a1).2.1)), (Vb ((el a2 a1).2.2))] 46 (str a4) rfl rfl krf krf (gy 25 (bi a5 fun h5 f2 a5 => wc ent201 b7 (alf f2 (hG.hp0 b7)) fun h6 c7 => wp 2 (wb a5 (fun f3 a5 => ?_) (fun f3 a5 => ?_))))))
  exact nzz a5
  refine wp 1 (gy 31 (acr c7 0 a7 1 [(str a4), (str ((el a2 a1).2.1)), (Vb ((el a2 a1).2.2))] 46 (str ((el a2 a1).2.1)) rfl rfl krf krf (gy 31 (bi a5 fun h7 f4 a5 => wc ent201 c7 (alf f4 (hG.hp0 c7)) fun h8 b8 => wp 2 (wb a5 (fun f5 a5 => ?_) (fun f5 a5 => ?_))))))
  exact nzz a5
  refine wp 2 (gy 37 (acr b8 0 a7 0 [(str a4), (str ((el a2 a1).2.1)), (Vb ((el a2 a1).2.2))] 46 (str a4) rfl rfl krf krf (gy 37 (bi a5 fun h9 f6 a5 => wc ent125 b8 (anh a8 a6.length a9 f6 (hG.hp0 b8) rfl (b8.rdrw 1 rfl) (b8.rwcap 1 rfl)) fun i0 f7 => wp 1 (wl (ql ?_))))))
  obtain rfl := oi a5
  exact je (Hp.front (Hp.front f7 1 _ rfl) 1 _ rfl).kp
  intro i1 G c1
  refine cb a3 (fun f8 a3 => ?_) (fun f8 a3 => ?_)
  exact nzz a3
  refine ck (qn (cs (bi a3 fun i2 b1 a3 => agq c1 [1, 4, 5, 6, 8, 12, 13, 14, 61] [(61, (Vb (!(((el a2 a1).2.2) == (!decide (((el a2 a1).2.1) = ([] : Str)))))))] ?_ ?_)))
  refine cr (wp 2 (wd b1 (fun f9 b1 => ?_) (fun f9 b1 => ?_)))
  exact nzz b1
  refine wp 7 (gy 50 (wd b1 (fun g0 b1 => ?_) (fun g0 b1 => ?_)))
  refine wp 1 (gy 53 (acr c1 0 a7 2 [(str a4), (str ((el a2 a1).2.1)), (Vb ((el a2 a1).2.2))] 46 (Vb ((el a2 a1).2.2)) rfl rfl krf krf (wp 1 (gy 53 (acr c1 0 a7 1 [(str a4), (str ((el a2 a1).2.1)), (Vb ((el a2 a1).2.2))] 46 (str ((el a2 a1).2.1)) rfl rfl krf krf (wp 1 (gy 53 (w_neb ((el a2 a1).2.2) (!decide (((el a2 a1).2.1) = ([] : Str))) Tryz.underlying4 krf krf (wp 2 ?_)))))))))
  refine wl (ql ?_)
  obtain rfl := oi b1
  exact je (Hp.front (Hp.front c1 1 _ rfl) 1 _ rfl).kp
  exact nzz b1
  intro i3 G d4
  refine cb a3 (fun g1 a3 => ?_) (fun g1 a3 => ?_)
  exact nzz a3
  refine ck (qn (cr (wp 1 (aob d4 0 a7 0 3 [(str a4), (str ((el a2 a1).2.1)), (Vb ((el a2 a1).2.2))] [(str a4), (str ((el a2 a1).2.1)), (Vb ((el a2 a1).2.2))] 46 rfl rfl rfl krf krf krf (adx d4 [(str a4), (str ((el a2 a1).2.1)), (Vb ((el a2 a1).2.2))] 46 (fun b => (Vs (some ⟨b, 0, none⟩) 1 1)) rfl rfl krf fun c8 i4 d5 => gi a3 fun g2 a3 => adz d5 2 b4 a8 (some ⟨c8, 0, none⟩) a9 1 46 3 40 a6 ([(a4, (el a2 a1).2.1, ((el a2 a1).2.2))] : List (Str × Str × Bool)) aab rfl Tryz.underlying22 (by unfold TI; kernel_rfl) (by decide) (by decide) krf (Eq.trans (b := (Vs (some ⟨c8, 0, none⟩) 1 1)) krf (aaj (by first | rfl | (simp; done) | omega | (simp; omega) | (rw [zah]; omega)))) (d5.rdblk 0 rfl) g2 fun d6 d7 d8 g3 c9 => ?_)))))
  replace c9 : Hp w [] [blk c8 [(str a4), (str ((el a2 a1).2.1)), (Vb ((el a2 a1).2.2))] 46, blk a7 [(str a4), (str ((el a2 a1).2.1)), (Vb ((el a2 a1).2.2))] 46, rwt aaa 46 3 d6 d7 d8 (a6 ++ ([(a4, (el a2 a1).2.1, ((el a2 a1).2.2))] : List (Str × Str × Bool)))] g3 := c9
  refine wp 1 (wl (bn (qn (cr (gi a3 fun g4 a3 => aah a1 (1 : Int) krf krf g4 (wp 1 (wl (ql ?_))))))))
  exact ⟨(b5, a6 ++ ([(a4, (el a2 a1).2.1, ((el a2 a1).2.2))] : List (Str × Str × Bool)), a1 + (1 : Int), d6, d7, d8), _, rfl, by kernel_rfl, ⟨(Hp.front c9 2 _ rfl).kp, a3⟩, zac _⟩
  refine ace (acd (acq (acf (ql ?_))))
  obtain rfl := oi a3
  exact ⟨(a6, b4, a8, a9), _, rfl, by kernel_rfl, c0.kp, rfl⟩
  rintro ⟨b0, b6, b2, b3⟩ i5 G ⟨c2, rfl⟩
  refine sr (wp 1 (bi hr fun d9 g5 hr => aat 100 #[] [(Vs b2 b0.length b3)] _ ent100 krf krf (akl b2 b0.length b3 g5 (hG.hp0 c2) rfl (c2.rdrw 0 rfl) (c2.rwcap 0 rfl)) ?_))
  rintro _ g6 ⟨e0, d0, d1, rfl, e1⟩
  have g7 : Hp w [] [rwt aaa 46 3 e0 d0 d1 d9, rwt aaa 46 3 b6 b2 b3 b0] g6 := Hp.callK (L1 := []) (L2 := [rwt aaa 46 3 b6 b2 b3 b0]) c2 e1; clear e1
  refine wp 2 (nq (ct ?_))
  obtain rfl := oi hr
  refine r_two (Vs d0 d9.length d1) (Vb true) rfl krf krf ?_
  exact ⟨e0, d0, d1, (by first | rfl | (simp; done) | (simp; omega)), g7.kp⟩
theorem K_L_address_Normal {fu : Nat} {a2 : (Str × Str × Str × Int × (List (Str × Str × Bool)) × (List (Str × Str × Bool)))} (a3 : Option Addr) (e1 : Nat) (a4 : Nat) (a5 : Option Addr) (e2 : Nat) (a6 : Nat) {w : World} {r : ((Str × Str × Str × Int × (List (Str × Str × Bool)) × (List (Str × Str × Bool))) × UInt8)} (hr : anu fu a2 = some r) (hG : Gl w) (f8 : e1 = a2.2.2.2.2.1.length) (e5 : Rd w a3 (zai aaa a2.2.2.2.2.1)) (e6 : e1 ≤ a4) (f9 : e2 = a2.2.2.2.2.2.length) (e7 : Rd w a5 (zai aaa a2.2.2.2.2.2)) (e8 : e2 ≤ a6) : CR Tryz.prog 155 [(zam #[(str a2.1), (str a2.2.1), (str a2.2.2.1), (Vi .i64 a2.2.2.2.1), (Vs a3 e1 a4), (Vs a5 e2 a6)])] w fun v w' => ∃ (o0 : Option Nat), ∃ (a0 : Option Addr), ∃ (cap0 : Nat), ∃ (o1 : Option Nat), ∃ (a1 : Option Addr), ∃ (cap1 : Nat), v = (zal #[(zam #[(str r.1.1), (str r.1.2.1), (str r.1.2.2.1), (Vi .i64 r.1.2.2.2.1), (Vs a0 r.1.2.2.2.2.1.length cap0), (Vs a1 r.1.2.2.2.2.2.length cap1)]), (bt r.2)]) ∧ Hp w [] [rwt aaa 46 3 o0 a0 cap0 r.1.2.2.2.2.1, rwt aaa 46 3 o1 a1 cap1 r.1.2.2.2.2.2] w' := by
  subst f8
  subst f9
  have hH : Hp w [] [] w := Hp.refl w
  refine enter (k := 95) Tryz.func155 rfl rfl nbe ?_
  unfold anu at hr
  refine sr (adx hH [(str a2.1), (str a2.2.1), (str a2.2.2.1), (Vi .i64 a2.2.2.2.1), (Vs a3 a2.2.2.2.2.1.length a4), (Vs a5 a2.2.2.2.2.2.length a6)] 68 (fun b => (Vp (some ⟨b, 0, none⟩))) rfl rfl krf fun b1 w2 g0 => adx g0 [(str ([] : Str)), (str ([] : Str)), (str ([] : Str)), (Vi .i64 (0 : Int)), (Vs none 0 0), (Vs none 0 0)] 68 (fun b => (Vp (some ⟨b, 0, none⟩))) rfl rfl krf fun b4 w5 g1 => wp 1 (nq (cs (bi hr fun y7 e9 hr => adu 9 (fun j_ w_ w_' => aax [2, 7, 9] (fun w' => w'.heap[b1]? = some (.cells [(str a2.1), (str a2.2.1), (str a2.2.2.1), (Vi .i64 a2.2.2.2.1), (Vs a3 a2.2.2.2.2.1.length a4), (Vs a5 a2.2.2.2.2.2.length a6)].toArray 68 (0, 0))) j_ w_ w_' ∧ aax [7, 9] (fun w' => w'.heap[b1]? = some (.cells [(str a2.1), (str a2.2.1), (str a2.2.2.1), (Vi .i64 a2.2.2.2.1), (Vs a3 a2.2.2.2.2.1.length a4), (Vs a5 a2.2.2.2.2.2.length a6)].toArray 68 (0, 0))) j_ w_ w_' ∧ True) [false, false, false, false, false, false, false, false, false, false] (fun _ _ => ⟨aax.same, aax.same, trivial⟩) krf krf g1 rfl (acz acy) fun k2 c9 => ?_))))
  refine rp 8 [0] (aak [true, true, false, false, false, false, false, false, false, false] 1 11 (str a2.1) [2, 7, 9] (fun _ _ _ h => h.1) _ rfl rfl krf krf krf krf krf rfl (abc rfl (by intro w hS_; exact (afc b1 0 [(str a2.1), (str a2.2.1), (str a2.2.2.1), (Vi .i64 a2.2.2.2.1), (Vs a3 a2.2.2.2.2.1.length a4), (Vs a5 a2.2.2.2.2.2.length a6)] 68 (str a2.1) hS_ rfl krf krf))) (by exact c9.blkAt 1 rfl) (rp 6 [3] (aak [true, true, false, true, true, false, false, false, false, false] 4 14 (str a2.2.1) [7, 9] (fun _ _ _ h => h.2.1) _ rfl rfl krf krf krf krf krf rfl (abc rfl (by intro w hS_; exact (afc b1 1 [(str a2.1), (str a2.2.1), (str a2.2.2.1), (Vi .i64 a2.2.2.2.1), (Vs a3 a2.2.2.2.2.1.length a4), (Vs a5 a2.2.2.2.2.2.length a6)] 68 (str a2.2.1) hS_ rfl krf krf))) (by exact c9.blkAt 1 rfl) (rp 4 [5] (aak [true, true, false, true, true, true, true, false, false, false] 6 16 (Vi .i64 a2.2.2.2.1) [7, 9] (fun _ _ _ h => h.2.1) _ rfl rfl krf krf krf krf krf rfl (abc rfl (by intro w hS_; exact (afc b1 3 [(str a2.1), (str a2.2.1), (str a2.2.2.1), (Vi .i64 a2.2.2.2.1), (Vs a3 a2.2.2.2.2.1.length a4), (Vs a5 a2.2.2.2.2.2.length a6)] 68 (Vi .i64 a2.2.2.2.1) hS_ rfl krf krf))) (by exact c9.blkAt 1 rfl) (r_one2 [true, true, true, true, true, true, true, false, false, false] [true, true, false, true, true, true, true, false, true, false] 2 8 _ _ rfl rfl krf krf krf rfl rfl ?_ ?_))))))
  refine wc ent84 c9 (ado e9 (hG.hp0 c9)) fun w9 d2 => wl (abq (by exact ⟨aax.out rfl, aax.new (d2.blkAt 1 rfl), trivial⟩) (rp 1 [7] (ro 8 rfl (adx d2 [(str ([] : Str)), (str ([] : Str)), (str ([] : Str)), (Vi .i64 (0 : Int)), (Vs none 0 0), (Vs none 0 0)] 68 (fun b => (Vp (some ⟨b, 0, none⟩))) rfl rfl krf fun a7 g2 c6 => wl (abq (by exact ⟨aax.new (c6.blkAt 2 rfl), aax.new (c6.blkAt 2 rfl), trivial⟩) (adi krf (ahl c6 0 a7 0 [(str ([] : Str)), (str ([] : Str)), (str ([] : Str)), (Vi .i64 (0 : Int)), (Vs none 0 0), (Vs none 0 0)] [(str y7), (str a2.2.1), (str ([] : Str)), (Vi .i64 a2.2.2.2.1), (Vs none 0 0), (Vs none 0 0)] 68 [blk a7 [(str y7), (str a2.2.1), (str ([] : Str)), (Vi .i64 a2.2.2.2.1), (Vs none 0 0), (Vs none 0 0)] 68, blk b4 [(str ([] : Str)), (str ([] : Str)), (str ([] : Str)), (Vi .i64 (0 : Int)), (Vs none 0 0), (Vs none 0 0)] 68, blk b1 [(str a2.1), (str a2.2.1), (str a2.2.2.1), (Vi .i64 a2.2.2.2.1), (Vs a3 a2.2.2.2.2.1.length a4), (Vs a5 a2.2.2.2.2.2.length a6)] 68] rfl nbe krf krf rfl krf rfl fun k3 d5 => ?_)))))))
  refine nq (sr (wp 1 (nq (cs (sr ?_)))))
  refine wp 1 (acr d5 0 a7 0 [(str y7), (str a2.2.1), (str ([] : Str)), (Vi .i64 a2.2.2.2.1), (Vs none 0 0), (Vs none 0 0)] 68 (str y7) rfl rfl krf krf (nq (ce (cs (sr (wp 2 (wl ?_)))))))
  refine qn (cd hr (fun g3 hr => ?_) (fun g3 hr => ?_))
  refine ck (qn (cd hr (fun g4 hr => ?_) (fun g4 hr => ?_)))
  refine sr (wp 1 (acr d5 2 b1 2 [(str a2.1), (str a2.2.1), (str a2.2.2.1), (Vi .i64 a2.2.2.2.1), (Vs a3 a2.2.2.2.2.1.length a4), (Vs a5 a2.2.2.2.2.2.length a6)] 68 (str a2.2.2.1) rfl rfl krf krf (bi hr fun b3 g5 hr => wc ent26 d5 (aic g5 (hG.hp0 d5)) fun k4 g6 => wp 4 (aht g6 0 a7 2 [(str y7), (str a2.2.1), (str ([] : Str)), (Vi .i64 a2.2.2.2.1), (Vs none 0 0), (Vs none 0 0)] 68 (str b3.1) [blk a7 [(str y7), (str a2.2.1), (str b3.1), (Vi .i64 a2.2.2.2.1), (Vs none 0 0), (Vs none 0 0)] 68, blk b4 [(str ([] : Str)), (str ([] : Str)), (str ([] : Str)), (Vi .i64 (0 : Int)), (Vs none 0 0), (Vs none 0 0)] 68, blk b1 [(str a2.1), (str a2.2.1), (str a2.2.2.1), (Vi .i64 a2.2.2.2.1), (Vs a3 a2.2.2.2.2.1.length a4), (Vs a5 a2.2.2.2.2.2.length a6)] 68] rfl (zaj (zac _) nbe) krf krf rfl krf rfl fun k5 d3 => wp 1 (wl ?_)))))
  refine qn (cr (wp 1 (wb hr (fun g7 hr => ?_) (fun g7 hr => ?_))))
  refine wp 1 (gy 31 (acr d3 2 b1 3 [(str a2.1), (str a2.2.1), (str a2.2.2.1), (Vi .i64 a2.2.2.2.1), (Vs a3 a2.2.2.2.2.1.length a4), (Vs a5 a2.2.2.2.2.2.length a6)] 68 (Vi .i64 a2.2.2.2.1) rfl rfl krf krf (wp 2 (wd hr (fun g8 hr => ?_) (fun g8 hr => ?_)))))
  refine wp 1 (gy 36 (acr d3 2 b1 3 [(str a2.1), (str a2.2.1), (str a2.2.2.1), (Vi .i64 a2.2.2.2.1), (Vs a3 a2.2.2.2.2.1.length a4), (Vs a5 a2.2.2.2.2.2.length a6)] 68 (Vi .i64 a2.2.2.2.1) rfl rfl krf krf (wp 2 (wd hr (fun g9 hr => ?_) (fun g9 hr => ?_)))))
  refine wp 1 (gy 41 (acr d3 2 b1 1 [(str a2.1), (str a2.2.1), (str a2.2.2.1), (Vi .i64 a2.2.2.2.1), (Vs a3 a2.2.2.2.2.1.length a4), (Vs a5 a2.2.2.2.2.2.length a6)] 68 (str a2.2.1) rfl rfl krf krf (gy 41 (bi hr fun k6 h0 hr => wc ent201 d3 (alf h0 (hG.hp0 d3)) fun k7 d6 => wp 2 (wl (bn (qn ?_)))))))
  refine sr (wp 1 (acr d6 2 b1 4 [(str a2.1), (str a2.2.1), (str a2.2.2.1), (Vi .i64 a2.2.2.2.1), (Vs a3 a2.2.2.2.2.1.length a4), (Vs a5 a2.2.2.2.2.2.length a6)] 68 (Vs a3 a2.2.2.2.2.1.length a4) rfl rfl krf krf (bi hr fun b5 h1 hr => aat 203 #[] [(Vs a3 a2.2.2.2.2.1.length a4), (Vi .i64 (1 : Int))] _ ent203 krf krf (akm a3 a2.2.2.2.2.1.length a4 h1 (hG.hp0 d6) rfl (e5.hp d6) e6) ?_)))
  rintro _ h2 ⟨c7, a8, a9, rfl, f0⟩
  have d7 : Hp w [] [rwt aaa 46 3 c7 a8 a9 b5.1, blk a7 [(str y7), (str a2.2.1), (str b3.1), (Vi .i64 a2.2.2.2.1), (Vs none 0 0), (Vs none 0 0)] 68, blk b4 [(str ([] : Str)), (str ([] : Str)), (str ([] : Str)), (Vi .i64 (0 : Int)), (Vs none 0 0), (Vs none 0 0)] 68, blk b1 [(str a2.1), (str a2.2.1), (str a2.2.2.1), (Vi .i64 a2.2.2.2.1), (Vs a3 a2.2.2.2.2.1.length a4), (Vs a5 a2.2.2.2.2.2.length a6)] 68] h2 := Hp.callK (L1 := []) (L2 := [blk a7 [(str y7), (str a2.2.1), (str b3.1), (Vi .i64 a2.2.2.2.1), (Vs none 0 0), (Vs none 0 0)] 68, blk b4 [(str ([] : Str)), (str ([] : Str)), (str ([] : Str)), (Vi .i64 (0 : Int)), (Vs none 0 0), (Vs none 0 0)] 68, blk b1 [(str a2.1), (str a2.2.1), (str a2.2.2.1), (Vi .i64 a2.2.2.2.1), (Vs a3 a2.2.2.2.2.1.length a4), (Vs a5 a2.2.2.2.2.2.length a6)] 68]) d6 f0; clear f0
  refine wp 5 (nq (sr (wp 1 (acr d7 3 b1 5 [(str a2.1), (str a2.2.1), (str a2.2.2.1), (Vi .i64 a2.2.2.2.1), (Vs a3 a2.2.2.2.2.1.length a4), (Vs a5 a2.2.2.2.2.2.length a6)] 68 (Vs a5 a2.2.2.2.2.2.length a6) rfl rfl krf krf (bi hr fun b8 h3 hr => aat 203 #[] [(Vs a5 a2.2.2.2.2.2.length a6), (Vi .i64 (2 : Int))] _ ent203 krf krf (akm a5 a2.2.2.2.2.2.length a6 h3 (hG.hp0 d7) rfl (e7.hp d7) e8) ?_)))))
  rintro _ h4 ⟨d0, b9, c0, rfl, f1⟩
  have h5 : Hp w [] [rwt aaa 46 3 d0 b9 c0 b8.1, rwt aaa 46 3 c7 a8 a9 b5.1, blk a7 [(str y7), (str a2.2.1), (str b3.1), (Vi .i64 a2.2.2.2.1), (Vs none 0 0), (Vs none 0 0)] 68, blk b4 [(str ([] : Str)), (str ([] : Str)), (str ([] : Str)), (Vi .i64 (0 : Int)), (Vs none 0 0), (Vs none 0 0)] 68, blk b1 [(str a2.1), (str a2.2.1), (str a2.2.2.1), (Vi .i64 a2.2.2.2.1), (Vs a3 a2.2.2.2.2.1.length a4), (Vs a5 a2.2.2.2.2.2.length a6)] 68] h4 := Hp.callK (L1 := []) (L2 := [rwt aaa 46 3 c7 a8 a9 b5.1, blk a7 [(str y7), (str a2.2.1), (str b3.1), (Vi .i64 a2.2.2.2.1), (Vs none 0 0), (Vs none 0 0)] 68, blk b4 [(str ([] : Str)), (str ([] : Str)), (str ([] : Str)), (Vi .i64 (0 : Int)), (Vs none 0 0), (Vs none 0 0)] 68, blk b1 [(str a2.1), (str a2.2.1), (str a2.2.2.1), (Vi .i64 a2.2.2.2.1), (Vs a3 a2.2.2.2.2.1.length a4), (Vs a5 a2.2.2.2.2.2.length a6)] 68]) d7 f1; clear f1
  refine wp 5 (nq (cs (bi hr fun h6 c4 hr => cut (σ := Unit) [2, 3, 4, 6, 8, 88] (fun e3 => [(88, (Vb (!b8.2)))]) (fun e3 w' => Hp w [] [rwt aaa 46 3 d0 b9 c0 b8.1, rwt aaa 46 3 c7 a8 a9 b5.1, blk a7 [(str y7), (str a2.2.1), (str b3.1), (Vi .i64 a2.2.2.2.1), (Vs none 0 0), (Vs none 0 0)] 68, blk b4 [(str ([] : Str)), (str ([] : Str)), (str ([] : Str)), (Vi .i64 (0 : Int)), (Vs none 0 0), (Vs none 0 0)] 68] w' ∧ e3 = h6) ?_ ?_)))
  refine cr (wp 2 (wb c4 (fun h7 c4 => ?_) (fun h7 c4 => ?_)))
  exact nzz c4
  refine wp 3 (wb c4 (fun h8 c4 => ?_) (fun h8 c4 => ?_))
  exact nzz c4
  refine wp 3 (wl (ql ?_))
  obtain rfl := oi c4
  exact ⟨(), _, rfl, by kernel_rfl, (Hp.front (Hp.front (Hp.front (Hp.front h5 3 _ rfl) 3 _ rfl) 3 _ rfl) 3 _ rfl).kp, rfl⟩
  rintro e3 k8 G ⟨h9, rfl⟩
  refine cb hr (fun i0 hr => ?_) (fun i0 hr => ?_)
  exact nzz hr
  refine ck (qn (sr (wp 3 (aht h9 2 a7 4 [(str y7), (str a2.2.1), (str b3.1), (Vi .i64 a2.2.2.2.1), (Vs none 0 0), (Vs none 0 0)] 68 (Vs a8 b5.1.length a9) [rwt aaa 46 3 d0 b9 c0 b8.1, rwt aaa 46 3 c7 a8 a9 b5.1, blk a7 [(str y7), (str a2.2.1), (str b3.1), (Vi .i64 a2.2.2.2.1), (Vs a8 b5.1.length a9), (Vs none 0 0)] 68, blk b4 [(str ([] : Str)), (str ([] : Str)), (str ([] : Str)), (Vi .i64 (0 : Int)), (Vs none 0 0), (Vs none 0 0)] 68] rfl (zaj (zac _) nbe) krf krf rfl krf rfl fun k9 i1 => wp 1 (aht i1 2 a7 5 [(str y7), (str a2.2.1), (str b3.1), (Vi .i64 a2.2.2.2.1), (Vs a8 b5.1.length a9), (Vs none 0 0)] 68 (Vs b9 b8.1.length c0) [rwt aaa 46 3 d0 b9 c0 b8.1, rwt aaa 46 3 c7 a8 a9 b5.1, blk a7 [(str y7), (str a2.2.1), (str b3.1), (Vi .i64 a2.2.2.2.1), (Vs a8 b5.1.length a9), (Vs b9 b8.1.length c0)] 68, blk b4 [(str ([] : Str)), (str ([] : Str)), (str ([] : Str)), (Vi .i64 (0 : Int)), (Vs none 0 0), (Vs none 0 0)] 68] rfl (zaj (zac _) nbe) krf krf rfl krf rfl fun l0 f2 => nq ?_)))))
  refine sr (aob f2 2 a7 0 6 [(str y7), (str a2.2.1), (str b3.1), (Vi .i64 a2.2.2.2.1), (Vs a8 b5.1.length a9), (Vs b9 b8.1.length c0)] [(str y7), (str a2.2.1), (str b3.1), (Vi .i64 a2.2.2.2.1), (Vs a8 b5.1.length a9), (Vs b9 b8.1.length c0)] 68 rfl rfl rfl krf krf krf (ahl f2 3 b4 0 [(str ([] : Str)), (str ([] : Str)), (str ([] : Str)), (Vi .i64 (0 : Int)), (Vs none 0 0), (Vs none 0 0)] [(str y7), (str a2.2.1), (str b3.1), (Vi .i64 a2.2.2.2.1), (Vs a8 b5.1.length a9), (Vs b9 b8.1.length c0)] 68 [rwt aaa 46 3 d0 b9 c0 b8.1, rwt aaa 46 3 c7 a8 a9 b5.1, blk a7 [(str y7), (str a2.2.1), (str b3.1), (Vi .i64 a2.2.2.2.1), (Vs a8 b5.1.length a9), (Vs b9 b8.1.length c0)] 68, blk b4 [(str y7), (str a2.2.1), (str b3.1), (Vi .i64 a2.2.2.2.1), (Vs a8 b5.1.length a9), (Vs b9 b8.1.length c0)] 68] rfl nbe krf krf rfl krf rfl fun l1 f3 => wp 1 (nq (ct ?_))))
  obtain rfl := oi hr
  refine aor _ [(zam #[(str y7), (str a2.2.1), (str b3.1), (Vi .i64 a2.2.2.2.1), (Vs a8 b5.1.length a9), (Vs b9 b8.1.length c0)]), (bt (0 : UInt8))] (zal #[(zam #[(str y7), (str a2.2.1), (str b3.1), (Vi .i64 a2.2.2.2.1), (Vs a8 b5.1.length a9), (Vs b9 b8.1.length c0)]), (bt (0 : UInt8))]) rfl rfl (abh (ahv f3 3 b4 68 [(str y7), (str a2.2.1), (str b3.1), (Vi .i64 a2.2.2.2.1), (Vs a8 b5.1.length a9), (Vs b9 b8.1.length c0)] rfl krf krf krf) (abh (afe krf) agu)) rfl ?_
  exact ⟨c7, a8, a9, d0, b9, c0, (by first | rfl | (simp; done) | (simp; omega)), (Hp.front f3 1 _ rfl).kp⟩
  exact nzz hr
  exact nzz hr
  exact nzz hr
  exact nzz hr
  exact nzz hr
  refine adx c9 [(str ([] : Str)), (str ([] : Str)), (str ([] : Str)), (Vi .i64 (0 : Int)), (Vs none 0 0), (Vs none 0 0)] 68 (fun b => (Vp (some ⟨b, 0, none⟩))) rfl rfl krf fun a7 g2 c6 => wl (abq (by exact ⟨aax.new (c6.blkAt 2 rfl), aax.new (c6.blkAt 2 rfl), trivial⟩) (ro 2 rfl (wc ent84 c6 (ado e9 (hG.hp0 c6)) fun w9 d2 => wl (abq (by exact ⟨aax.out rfl, aax.new (d2.blkAt 2 rfl), trivial⟩) (rp 0 [7] (adi krf (ahl d2 0 a7 0 [(str ([] : Str)), (str ([] : Str)), (str ([] : Str)), (Vi .i64 (0 : Int)), (Vs none 0 0), (Vs none 0 0)] [(str y7), (str a2.2.1), (str ([] : Str)), (Vi .i64 a2.2.2.2.1), (Vs none 0 0), (Vs none 0 0)] 68 [blk a7 [(str y7), (str a2.2.1), (str ([] : Str)), (Vi .i64 a2.2.2.2.1), (Vs none 0 0), (Vs none 0 0)] 68, blk b4 [(str ([] : Str)), (str ([] : Str)), (str ([] : Str)), (Vi .i64 (0 : Int)), (Vs none 0 0), (Vs none 0 0)] 68, blk b1 [(str a2.1), (str a2.2.1), (str a2.2.2.1), (Vi .i64 a2.2.2.2.1), (Vs a3 a2.2.2.2.2.1.length a4), (Vs a5 a2.2.2.2.2.2.length a6)] 68] rfl nbe krf krf rfl krf rfl fun l2 d8 => ?_)))))))
  refine nq (sr (wp 1 (nq (cs (sr ?_)))))
  refine wp 1 (acr d8 0 a7 0 [(str y7), (str a2.2.1), (str ([] : Str)), (Vi .i64 a2.2.2.2.1), (Vs none 0 0), (Vs none 0 0)] 68 (str y7) rfl rfl krf krf (nq (ce (cs (sr (wp 2 (wl ?_)))))))
  refine qn (cd hr (fun i2 hr => ?_) (fun i2 hr => ?_))
  refine ck (qn (cd hr (fun i3 hr => ?_) (fun i3 hr => ?_)))
  refine sr (wp 1 (acr d8 2 b1 2 [(str a2.1), (str a2.2.1), (str a2.2.2.1), (Vi .i64 a2.2.2.2.1), (Vs a3 a2.2.2.2.2.1.length a4), (Vs a5 a2.2.2.2.2.2.length a6)] 68 (str a2.2.2.1) rfl rfl krf krf (bi hr fun b6 i4 hr => wc ent26 d8 (aic i4 (hG.hp0 d8)) fun l3 i5 => wp 4 (aht i5 0 a7 2 [(str y7), (str a2.2.1), (str ([] : Str)), (Vi .i64 a2.2.2.2.1), (Vs none 0 0), (Vs none 0 0)] 68 (str b6.1) [blk a7 [(str y7), (str a2.2.1), (str b6.1), (Vi .i64 a2.2.2.2.1), (Vs none 0 0), (Vs none 0 0)] 68, blk b4 [(str ([] : Str)), (str ([] : Str)), (str ([] : Str)), (Vi .i64 (0 : Int)), (Vs none 0 0), (Vs none 0 0)] 68, blk b1 [(str a2.1), (str a2.2.1), (str a2.2.2.1), (Vi .i64 a2.2.2.2.1), (Vs a3 a2.2.2.2.2.1.length a4), (Vs a5 a2.2.2.2.2.2.length a6)] 68] rfl (zaj (zac _) nbe) krf krf rfl krf rfl fun l4 d4 => wp 1 (wl ?_)))))
  refine qn (cr (wp 1 (wb hr (fun i6 hr => ?_) (fun i6 hr => ?_))))
  refine wp 1 (gy 31 (acr d4 2 b1 3 [(str a2.1), (str a2.2.1), (str a2.2.2.1), (Vi .i64 a2.2.2.2.1), (Vs a3 a2.2.2.2.2.1.length a4), (Vs a5 a2.2.2.2.2.2.length a6)] 68 (Vi .i64 a2.2.2.2.1) rfl rfl krf krf (wp 2 (wd hr (fun i7 hr => ?_) (fun i7 hr => ?_)))))
  refine wp 1 (gy 36 (acr d4 2 b1 3 [(str a2.1), (str a2.2.1), (str a2.2.2.1), (Vi .i64 a2.2.2.2.1), (Vs a3 a2.2.2.2.2.1.length a4), (Vs a5 a2.2.2.2.2.2.length a6)] 68 (Vi .i64 a2.2.2.2.1) rfl rfl krf krf (wp 2 (wd hr (fun i9 hr => ?_) (fun i9 hr => ?_)))))
  refine wp 1 (gy 41 (acr d4 2 b1 1 [(str a2.1), (str a2.2.1), (str a2.2.2.1), (Vi .i64 a2.2.2.2.1), (Vs a3 a2.2.2.2.2.1.length a4), (Vs a5 a2.2.2.2.2.2.length a6)] 68 (str a2.2.1) rfl rfl krf krf (gy 41 (bi hr fun l5 j0 hr => wc ent201 d4 (alf j0 (hG.hp0 d4)) fun l6 d9 => wp 2 (wl (bn (qn ?_)))))))
  refine sr (wp 1 (acr d9 2 b1 4 [(str a2.1), (str a2.2.1), (str a2.2.2.1), (Vi .i64 a2.2.2.2.1), (Vs a3 a2.2.2.2.2.1.length a4), (Vs a5 a2.2.2.2.2.2.length a6)] 68 (Vs a3 a2.2.2.2.2.1.length a4) rfl rfl krf krf (bi hr fun b7 j1 hr => aat 203 #[] [(Vs a3 a2.2.2.2.2.1.length a4), (Vi .i64 (1 : Int))] _ ent203 krf krf (akm a3 a2.2.2.2.2.1.length a4 j1 (hG.hp0 d9) rfl (e5.hp d9) e6) ?_)))
  rintro _ j2 ⟨c8, b0, b2, rfl, f4⟩
  have e0 : Hp w [] [rwt aaa 46 3 c8 b0 b2 b7.1, blk a7 [(str y7), (str a2.2.1), (str b6.1), (Vi .i64 a2.2.2.2.1), (Vs none 0 0), (Vs none 0 0)] 68, blk b4 [(str ([] : Str)), (str ([] : Str)), (str ([] : Str)), (Vi .i64 (0 : Int)), (Vs none 0 0), (Vs none 0 0)] 68, blk b1 [(str a2.1), (str a2.2.1), (str a2.2.2.1), (Vi .i64 a2.2.2.2.1), (Vs a3 a2.2.2.2.2.1.length a4), (Vs a5 a2.2.2.2.2.2.length a6)] 68] j2 := Hp.callK (L1 := []) (L2 := [blk a7 [(str y7), (str a2.2.1), (str b6.1), (Vi .i64 a2.2.2.2.1), (Vs none 0 0), (Vs none 0 0)] 68, blk b4 [(str ([] : Str)), (str ([] : Str)), (str ([] : Str)), (Vi .i64 (0 : Int)), (Vs none 0 0), (Vs none 0 0)] 68, blk b1 [(str a2.1), (str a2.2.1), (str a2.2.2.1), (Vi .i64 a2.2.2.2.1), (Vs a3 a2.2.2.2.2.1.length a4), (Vs a5 a2.2.2.2.2.2.length a6)] 68]) d9 f4; clear f4
  refine wp 5 (nq (sr (wp 1 (acr e0 3 b1 5 [(str a2.1), (str a2.2.1), (str a2.2.2.1), (Vi .i64 a2.2.2.2.1), (Vs a3 a2.2.2.2.2.1.length a4), (Vs a5 a2.2.2.2.2.2.length a6)] 68 (Vs a5 a2.2.2.2.2.2.length a6) rfl rfl krf krf (bi hr fun c1 j3 hr => aat 203 #[] [(Vs a5 a2.2.2.2.2.2.length a6), (Vi .i64 (2 : Int))] _ ent203 krf krf (akm a5 a2.2.2.2.2.2.length a6 j3 (hG.hp0 e0) rfl (e7.hp e0) e8) ?_)))))
  rintro _ j4 ⟨d1, c2, c3, rfl, f5⟩
  have j5 : Hp w [] [rwt aaa 46 3 d1 c2 c3 c1.1, rwt aaa 46 3 c8 b0 b2 b7.1, blk a7 [(str y7), (str a2.2.1), (str b6.1), (Vi .i64 a2.2.2.2.1), (Vs none 0 0), (Vs none 0 0)] 68, blk b4 [(str ([] : Str)), (str ([] : Str)), (str ([] : Str)), (Vi .i64 (0 : Int)), (Vs none 0 0), (Vs none 0 0)] 68, blk b1 [(str a2.1), (str a2.2.1), (str a2.2.2.1), (Vi .i64 a2.2.2.2.1), (Vs a3 a2.2.2.2.2.1.length a4), (Vs a5 a2.2.2.2.2.2.length a6)] 68] j4 := Hp.callK (L1 := []) (L2 := [rwt aaa 46 3 c8 b0 b2 b7.1, blk a7 [(str y7), (str a2.2.1), (str b6.1), (Vi .i64 a2.2.2.2.1), (Vs none 0 0), (Vs none 0 0)] 68, blk b4 [(str ([] : Str)), (str ([] : Str)), (str ([] : Str)), (Vi .i64 (0 : Int)), (Vs none 0 0), (Vs none 0 0)] 68, blk b1 [(str a2.1), (str a2.2.1), (str a2.2.2.1), (Vi .i64 a2.2.2.2.1), (Vs a3 a2.2.2.2.2.1.length a4), (Vs a5 a2.2.2.2.2.2.length a6)] 68]) e0 f5; clear f5
  refine wp 5 (nq (cs (bi hr fun j6 c5 hr => cut (σ := Unit) [2, 3, 4, 6, 8, 88] (fun e4 => [(88, (Vb (!c1.2)))]) (fun e4 w' => Hp w [] [rwt aaa 46 3 d1 c2 c3 c1.1, rwt aaa 46 3 c8 b0 b2 b7.1, blk a7 [(str y7), (str a2.2.1), (str b6.1), (Vi .i64 a2.2.2.2.1), (Vs none 0 0), (Vs none 0 0)] 68, blk b4 [(str ([] : Str)), (str ([] : Str)), (str ([] : Str)), (Vi .i64 (0 : Int)), (Vs none 0 0), (Vs none 0 0)] 68] w' ∧ e4 = j6) ?_ ?_)))
  refine cr (wp 2 (wb c5 (fun j7 c5 => ?_) (fun j7 c5 => ?_)))
  exact nzz c5
  refine wp 3 (wb c5 (fun j8 c5 => ?_) (fun j8 c5 => ?_))
  exact nzz c5
  refine wp 3 (wl (ql ?_))
  obtain rfl := oi c5
  exact ⟨(), _, rfl, by kernel_rfl, (Hp.front (Hp.front (Hp.front (Hp.front j5 3 _ rfl) 3 _ rfl) 3 _ rfl) 3 _ rfl).kp, rfl⟩
  rintro e4 l7 G ⟨j9, rfl⟩
  refine cb hr (fun k0 hr => ?_) (fun k0 hr => ?_)
  exact nzz hr
  refine ck (qn (sr (wp 3 (aht j9 2 a7 4 [(str y7), (str a2.2.1), (str b6.1), (Vi .i64 a2.2.2.2.1), (Vs none 0 0), (Vs none 0 0)] 68 (Vs b0 b7.1.length b2) [rwt aaa 46 3 d1 c2 c3 c1.1, rwt aaa 46 3 c8 b0 b2 b7.1, blk a7 [(str y7), (str a2.2.1), (str b6.1), (Vi .i64 a2.2.2.2.1), (Vs b0 b7.1.length b2), (Vs none 0 0)] 68, blk b4 [(str ([] : Str)), (str ([] : Str)), (str ([] : Str)), (Vi .i64 (0 : Int)), (Vs none 0 0), (Vs none 0 0)] 68] rfl (zaj (zac _) nbe) krf krf rfl krf rfl fun l8 k1 => wp 1 (aht k1 2 a7 5 [(str y7), (str a2.2.1), (str b6.1), (Vi .i64 a2.2.2.2.1), (Vs b0 b7.1.length b2), (Vs none 0 0)] 68 (Vs c2 c1.1.length c3) [rwt aaa 46 3 d1 c2 c3 c1.1, rwt aaa 46 3 c8 b0 b2 b7.1, blk a7 [(str y7), (str a2.2.1), (str b6.1), (Vi .i64 a2.2.2.2.1), (Vs b0 b7.1.length b2), (Vs c2 c1.1.length c3)] 68, blk b4 [(str ([] : Str)), (str ([] : Str)), (str ([] : Str)), (Vi .i64 (0 : Int)), (Vs none 0 0), (Vs none 0 0)] 68] rfl (zaj (zac _) nbe) krf krf rfl krf rfl fun l9 f6 => nq ?_)))))
  refine sr (aob f6 2 a7 0 6 [(str y7), (str a2.2.1), (str b6.1), (Vi .i64 a2.2.2.2.1), (Vs b0 b7.1.length b2), (Vs c2 c1.1.length c3)] [(str y7), (str a2.2.1), (str b6.1), (Vi .i64 a2.2.2.2.1), (Vs b0 b7.1.length b2), (Vs c2 c1.1.length c3)] 68 rfl rfl rfl krf krf krf (ahl f6 3 b4 0 [(str ([] : Str)), (str ([] : Str)), (str ([] : Str)), (Vi .i64 (0 : Int)), (Vs none 0 0), (Vs none 0 0)] [(str y7), (str a2.2.1), (str b6.1), (Vi .i64 a2.2.2.2.1), (Vs b0 b7.1.length b2), (Vs c2 c1.1.length c3)] 68 [rwt aaa 46 3 d1 c2 c3 c1.1, rwt aaa 46 3 c8 b0 b2 b7.1, blk a7 [(str y7), (str a2.2.1), (str b6.1), (Vi .i64 a2.2.2.2.1), (Vs b0 b7.1.length b2), (Vs c2 c1.1.length c3)] 68, blk b4 [(str y7), (str a2.2.1), (str b6.1), (Vi .i64 a2.2.2.2.1), (Vs b0 b7.1.length b2), (Vs c2 c1.1.length c3)] 68] rfl nbe krf krf rfl krf rfl fun m0 f7 => wp 1 (nq (ct ?_))))
  obtain rfl := oi hr
  refine aor _ [(zam #[(str y7), (str a2.2.1), (str b6.1), (Vi .i64 a2.2.2.2.1), (Vs b0 b7.1.length b2), (Vs c2 c1.1.length c3)]), (bt (0 : UInt8))] (zal #[(zam #[(str y7), (str a2.2.1), (str b6.1), (Vi .i64 a2.2.2.2.1), (Vs b0 b7.1.length b2), (Vs c2 c1.1.length c3)]), (bt (0 : UInt8))]) rfl rfl (abh (ahv f7 3 b4 68 [(str y7), (str a2.2.1), (str b6.1), (Vi .i64 a2.2.2.2.1), (Vs b0 b7.1.length b2), (Vs c2 c1.1.length c3)] rfl krf krf krf) (abh (afe krf) agu)) rfl ?_
  exact ⟨c8, b0, b2, d1, c2, c3, (by first | rfl | (simp; done) | (simp; omega)), (Hp.front f7 1 _ rfl).kp⟩
  exact nzz hr
  exact nzz hr
  exact nzz hr
  exact nzz hr
  exact nzz hr
theorem ade {fu : Nat} {a2 : (Unit × (List UInt8))} {a7 : Str} (a1 : Nat) (a6 : Bool) (a5 : Option Nat) (a3 : Option Addr) (a4 : Nat) {w : World} {r : (Int × Unit × (Unit × (List UInt8)))} (hr : abx fu a2 a7 = some r) (hG : Gl w) (hM : Hp w (abf [blk a1 [(Vp (bif a6 then some ⟨a1, 0, none⟩ else none)), (Vs a3 a2.2.length a4)] 131, rwt eB 5 1 a5 a3 a4 a2.2]) [blk a1 [(Vp (bif a6 then some ⟨a1, 0, none⟩ else none)), (Vs a3 a2.2.length a4)] 131, rwt eB 5 1 a5 a3 a4 a2.2] w) (hS : ∀ b ∈ abf [blk a1 [(Vp (bif a6 then some ⟨a1, 0, none⟩ else none)), (Vs a3 a2.2.length a4)] 131, rwt eB 5 1 a5 a3 a4 a2.2], 9 ≤ b) : CR Tryz.prog 126 [(Vp (some ⟨a1, 0, none⟩)), (str a7)] w fun v w' => ∃ (o0 : Option Nat), ∃ (a0 : Option Addr), ∃ (cap0 : Nat), v = (zal #[(Vi .i64 r.1), Value.nilIface]) ∧ Hp w (abf [blk a1 [(Vp (bif a6 then some ⟨a1, 0, none⟩ else none)), (Vs a3 a2.2.length a4)] 131, rwt eB 5 1 a5 a3 a4 a2.2]) [blk a1 [(Vp (some ⟨a1, 0, none⟩)), (Vs a0 r.2.2.2.length cap0)] 131, rwt eB 5 1 o0 a0 cap0 r.2.2.2] w' := by
  have hH : Hp w (abf [blk a1 [(Vp (bif a6 then some ⟨a1, 0, none⟩ else none)), (Vs a3 a2.2.length a4)] 131, rwt eB 5 1 a5 a3 a4 a2.2]) [blk a1 [(Vp (bif a6 then some ⟨a1, 0, none⟩ else none)), (Vs a3 a2.2.length a4)] 131, rwt eB 5 1 a5 a3 a4 a2.2] w := hM
  refine enter (k := 19) Tryz.func126 rfl rfl nbe ?_
  unfold abx at hr
  refine sr (wp 2 (nq (sr (wp 1 (aat 184 #[] [(Vp (some ⟨a1, 0, none⟩))] _ ent184 krf krf (sh_copyCheck a1 a6 (Vs a3 a2.2.length a4) w (hH.hand (L1 := [blk a1 [(Vp (bif a6 then some ⟨a1, 0, none⟩ else none)), (Vs a3 a2.2.length a4)] 131]) (L2 := [rwt eB 5 1 a5 a3 a4 a2.2]))) ?_)))))
  rintro _ w4 ⟨rfl, b1⟩
  have b2 : Hp w (abf [blk a1 [(Vp (bif a6 then some ⟨a1, 0, none⟩ else none)), (Vs a3 a2.2.length a4)] 131, rwt eB 5 1 a5 a3 a4 a2.2]) [blk a1 [(Vp (some ⟨a1, 0, none⟩)), (Vs a3 a2.2.length a4)] 131, rwt eB 5 1 a5 a3 a4 a2.2] w4 := Hp.callK (L1 := [blk a1 [(Vp (bif a6 then some ⟨a1, 0, none⟩ else none)), (Vs a3 a2.2.length a4)] 131]) (L2 := [rwt eB 5 1 a5 a3 a4 a2.2]) hH b1; clear b1
  refine nq (sr (wp 4 (acr b2 0 a1 1 [(Vp (some ⟨a1, 0, none⟩)), (Vs a3 a2.2.length a4)] 131 (Vs a3 a2.2.length a4) rfl rfl krf krf (wp 1 (gi hr fun g7 hr => w_appS b2 1 a5 a3 a4 5 a2.2 a7 rfl Tryz.underlying92 Tryz.underlying9 (by unfold TI; kernel_rfl) krf krf krf g7 fun o8 a9 a8 b3 b0 => ?_)))))
  replace b0 : Hp w (abf [blk a1 [(Vp (bif a6 then some ⟨a1, 0, none⟩ else none)), (Vs a3 a2.2.length a4)] 131, rwt eB 5 1 a5 a3 a4 a2.2]) [blk a1 [(Vp (some ⟨a1, 0, none⟩)), (Vs a3 a2.2.length a4)] 131, rwt eB 5 1 o8 a9 a8 (a2.2 ++ a7)] b3 := b0
  refine wp 2 (aht b0 0 a1 1 [(Vp (some ⟨a1, 0, none⟩)), (Vs a3 a2.2.length a4)] 131 (Vs a9 ((a2.2 ++ a7).length) a8) [blk a1 [(Vp (some ⟨a1, 0, none⟩)), (Vs a9 ((a2.2 ++ a7).length) a8)] 131, rwt eB 5 1 o8 a9 a8 (a2.2 ++ a7)] rfl (zaj (zac _) nbe) krf krf rfl krf rfl fun b5 b4 => nq (sr (wp 4 (nq (ct ?_)))))
  obtain rfl := oi hr
  refine r_two (Vi .i64 (a7.length : Int)) Value.nilIface rfl krf krf ?_
  exact ⟨o8, a9, a8, (by first | rfl | (simp; done) | (simp; omega)), (Hp.front (Hp.front b4 1 _ rfl) 1 _ rfl).kp⟩
end Go.Proofs
