/-
  The law HeaderVias holds, second form: for every value and every Via of at most 1048576 values and letters the call returns true; no condition beyond the statement's own (part 6 of 8).
-/
import Derived.Test.YtpbfkeakaefenaaGreatDoorHq5
import Derived.Test.YtpbfkeakaefenaaGreatDoorProg
set_option linter.unusedVariables false
set_option linter.unusedSimpArgs false
set_option maxRecDepth 20000
set_option maxHeartbeats 1000000
namespace Go.Proofs
open Go.Wk Go.Px
open Go.Value renaming slice → Vs, int → Vi, bool → Vb, pointer → Vp
open Go.Lib renaming indexAny → zaC
open Go.Value renaming agg → zan, tuple → zak
open Int renaming toNat → zac
open List renaming drop → zam, flatMap → zai, take → zaz
open Nat renaming lt_of_lt_of_le → zaj, lt_succ_self → zad
open Tryz
theorem ent8 : Wk.Enters prog 8 := ⟨f8, _, func8, rfl, krf⟩
theorem ent13 : Wk.Enters prog 13 := ⟨f13, _, func13, rfl, krf⟩
theorem ent26 : Wk.Enters prog 26 := ⟨f26, _, func26, rfl, krf⟩
theorem ent33 : Wk.Enters prog 33 := ⟨f33, _, func33, rfl, krf⟩
theorem ent35 : Wk.Enters prog 35 := ⟨f35, _, func35, rfl, krf⟩
theorem ent37 : Wk.Enters prog 37 := ⟨f37, _, func37, rfl, krf⟩
theorem ent74 : Wk.Enters prog 74 := ⟨f74, _, func74, rfl, krf⟩
theorem ent83 : Wk.Enters prog 83 := ⟨f83, _, func83, rfl, krf⟩
theorem K_L_header_cutPort {fu : Nat} {s_0 : Str} {w : World} {r : PQ} (hr : aks fu s_0 = some r) (hG : Gl w) : CR prog 33 [(str s_0)] w fun v w' => v = (zak #[(str r.1), (str r.2.1), (Vb r.2.2)]) ∧ Hp w [] [] w' := by
 have hH := Hp.refl w
 refine enter (k := 30) func33 rfl rfl nbe ?_
 unfold aks at hr
 refine sr (wp 3 (nq (sr (wp 1 (gi hr fun g4 hr => aat 83 #[] [(str s_0), (bt (58 : UInt8))] _ ent83 krf krf (sh_LastIndexByte s_0 (58 : UInt8) w g4) ?_)))))
 rintro _ w1 ⟨rfl, a3⟩
 have a1 := hH.call a3; clear a3
 refine wp 1 (nq (cs (bi hr fun a7 a0 hr => age a1 [0, 2, 3, 4, 5, 21] [(21, (Vb a7))] ?_ ?_)))
 refine cr (wp 2 (wd a0 (fun a8 a0 => ?_) (fun a8 a0 => ?_)))
 refine wp 11 (wl (ql ?_))
 obtain rfl := oi a0
 exact je a1.kp
 refine wp 2 (gy 10 (gi a0 fun a9 a0 => amw s_0 .i64 (ans (· == (58 : UInt8)) s_0) underlying9 krf krf a9 (gy 10 (gi a0 fun b0 a0 => aat 84 #[] [(str (zaz (zac (ans (· == (58 : UInt8)) s_0)) s_0)), (str ([91] : Str))] _ ent84 krf krf (sh_Contains (zaz (zac (ans (· == (58 : UInt8)) s_0)) s_0) ([91] : Str) w1 b0 (hG.hp0 a1)) ?_))))
 rintro _ b1 ⟨rfl, a4⟩
 have a2 := a1.call a4; clear a4
 refine gy 10 (wb a0 (fun b2 a0 => ?_) (fun b2 a0 => ?_))
 refine wp 2 (gy 15 (gi a0 fun b3 a0 => ahd s_0 .i64 (ans (· == (58 : UInt8)) s_0) underlying9 krf krf b3 (gy 15 (gi a0 fun b4 a0 => aat 84 #[] [(str (zam (zac (ans (· == (58 : UInt8)) s_0)) s_0)), (str ([93] : Str))] _ ent84 krf krf (sh_Contains (zam (zac (ans (· == (58 : UInt8)) s_0)) s_0) ([93] : Str) b1 b4 (hG.hp0 a2)) ?_))))
 rintro _ c1 ⟨rfl, a5⟩
 have b5 := a2.call a5; clear a5
 refine wp 2 (wl (ql ?_))
 obtain rfl := oi a0
 exact je b5.kp
 refine wp 6 (wl (ql ?_))
 obtain rfl := oi a0
 exact je a2.kp
 intro c2 G a6
 refine cb hr (fun b6 hr => ?_) (fun b6 hr => ?_)
 refine sr (wp 4 (nq (ct (st ?_))))
 obtain rfl := oi hr
 exact rv a6.kp
 refine ck (qn (cs (gi hr fun b7 hr => gi hr fun b8 hr => gi hr fun b9 hr => cdr 8 a6 (ade adb) fun c3 c0 => rp 6 [0, 1] (rt 2 (str (zaz (zac (ans (· == (58 : UInt8)) s_0)) s_0)) rfl rfl (aba rfl (by intro w hS_; exact (x_slice_to s_0 .i64 (ans (· == (58 : UInt8)) s_0) underlying9 krf krf b7))) (rp 3 [3, 4] ?_)))))
 refine rt 5 (Vi .i64 ((ans (· == (58 : UInt8)) s_0) + (1 : Int))) rfl rfl (aba rfl (by intro w hS_; exact (aln (ans (· == (58 : UInt8)) s_0) (1 : Int) krf krf b8))) (rt 6 (str (zam (zac ((ans (· == (58 : UInt8)) s_0) + (1 : Int))) s_0)) rfl rfl (aba rfl (by intro w hS_; exact (aon s_0 .i64 ((ans (· == (58 : UInt8)) s_0) + (1 : Int)) underlying9 krf krf b9))) (rp 0 [7] (adn krf (wp 2 (nq (ct ?_))))))
 obtain rfl := oi hr
 exact rv c0.kp
theorem K_L_lexis_Number {fu : Nat} {s_0 : Str} {w : World} {r : (Int × UInt8)} (hr : akx fu s_0 = some r) (hG : Gl w) : CR prog 35 [(str s_0)] w fun v w' => v = (zak #[(Vi .i64 r.1), (bt r.2)]) ∧ Hp w [] [] w' := by
 have hH := Hp.refl w
 refine enter (k := 41) func35 rfl rfl nbe ?_
 unfold akx at hr
 refine sr (wp 2 (nq (cs (bi hr fun v5 a4 hr => age hH [0, 2, 3, 13] [(13, (Vb v5))] ?_ ?_))))
 refine cr (wp 3 (wd a4 (fun h6 a4 => ?_) (fun h6 a4 => ?_)))
 refine wp 4 (wl (ql ?_))
 obtain rfl := oi a4
 exact je hH.kp
 refine wp 4 (wl (ql ?_))
 obtain rfl := oi a4
 exact je hH.kp
 intro w7 G a6
 refine cb hr (fun h9 hr => ?_) (fun h9 hr => ?_)
 refine sr (wp 2 (nq (ct (st ?_))))
 obtain rfl := oi hr
 exact rv a6.kp
 refine ck (qn (sr (wp 1 (nq (bi hr fun b1 b2 hr => cut1 a6 b1 [2, 3, 4] (fun a7 => [(4, (Vi .i64 a7))]) ?_ ?_)))))
 refine sr (wp 3 (nq (ce (lpS (fun a8 ⟨a3, a1⟩ => afb fu s_0 a8 a3 a1) ((0 : Int), (0 : Int)) a6 b2 [0, 2, 3, 4, 15, 16] (fun ⟨a3, a1⟩ => [(4, (Vi .i64 a3)), (16, (Vi .i64 a1))]) (fun _ => rfl) ?_))))
 rintro a8 ⟨a3, a1⟩ c4 G a5 a0
 dsimp only at a0
 rw [afb.eq_2] at a0
 refine sr (wp 1 (nq (cs (cd a0 (fun b3 a0 => ?_) (fun b3 a0 => ?_)))))
 refine ck (qn (cs (ce (sr (wp 2 (nq (cs ?_)))))))
 refine bi a0 fun b4 a2 a0 => age a5 [0, 2, 3, 4, 5, 15, 16, 28] [(28, (Vb b4))] ?_ ?_
 refine cr (wp 2 (gi a2 fun b5 a2 => abi s_0 .i64 a1 underlying9 krf krf b5 (w8_lss (at_ s_0 a1) (48 : UInt8) krf krf (wd a2 (fun b6 a2 => ?_) (fun b6 a2 => ?_)))))
 refine wp 5 (wl (ql ?_))
 obtain rfl := oi a2
 exact je a5.kp
 refine wp 2 (gy 23 (gi a2 fun b7 a2 => abi s_0 .i64 a1 underlying9 krf krf b7 (gy 23 (w8_gtr (at_ s_0 a1) (57 : UInt8) krf krf (wp 1 (wl (ql ?_)))))))
 obtain rfl := oi a2
 exact je a5.kp
 intro c5 G a9
 refine cb a0 (fun b8 a0 => ?_) (fun b8 a0 => ?_)
 refine sr (wp 2 (nq (ct (st (bt_ (st (adg ?_)))))))
 refine bt_ (adg ?_)
 obtain rfl := oi a0
 obtain rfl := oi hr
 exact rv a9.kp
 refine ck (qn (cr (wp 1 (gi a0 fun b9 a0 => aou (10 : Int) a3 krf krf b9 (wp 2 (gi a0 fun c0 a0 => abi s_0 .i64 a1 underlying9 krf krf c0 (w8_sub (at_ s_0 a1) (48 : UInt8) krf krf ?_)))))))
 refine w_convx .i64 .u8 (((at_ s_0 a1) - (48 : UInt8)).toNat : Int) underlying5 underlying2 krf (amt _) (gi a0 fun c1 a0 => aae ((10 : Int) * a3) (((at_ s_0 a1) - (48 : UInt8)).toNat : Int) krf krf c1 (wp 1 (wl (bn (qn (cr (gi a0 fun c2 a0 => aae a1 (1 : Int) krf krf c2 ?_)))))))
 exact wp 1 (wl (ql (le' (((10 : Int) * a3) + (((at_ s_0 a1) - (48 : UInt8)).toNat : Int), a1 + (1 : Int)) a9.kp a0)))
 refine abq (abp (aby (abr (ql ?_))))
 obtain rfl := oi a0
 exact je1 rfl a5.kp
 rintro a7 c6 G b0 rfl
 refine cs (sr (wp 2 (nq (cd hr (fun c3 hr => ?_) (fun c3 hr => ?_)))))
 refine sr (wp 2 (nq (ct (st ?_))))
 obtain rfl := oi hr
 exact rv b0.kp
 refine ck (qn (sr (wp 3 (nq (ct ?_)))))
 obtain rfl := oi hr
 exact rv b0.kp
theorem K_L_address_Get {fu : Nat} {a1 : List PQ} {b0 : Str} (a3 : Option Addr) (a6 : Nat) (a7 : Nat) {w : World} {r : (Str × Bool)} (hr : amc fu a1 b0 = some r) (hG : Gl w) (b4 : a6 = a1.length) (b1 : Rd w a3 (zai aaa a1)) (c7 : a6 ≤ a7) : CR prog 37 [(Vs a3 a6 a7), (str b0)] w fun v w' => v = (zak #[(str r.1), (Vb r.2)]) ∧ Hp w [] [] w' := by
 subst b4
 have hH := Hp.refl w
 refine enter (k := 24) func37 rfl rfl nbe ?_
 unfold amc at hr
 refine sr (wp 2 (nq (sr (wp 1 (bi hr fun y1 b5 hr => wc ent67 hH (adu b5 (hG.hp0 hH)) fun w3 b2 => ?_)))))
 refine wp 1 (nq (bi hr fun b6 b7 hr => cut1 b2 b6 [4, 5] (fun b8 => []) ?_ ?_))
 refine sr (wp 3 (nq (ce (lpS (fun b3 a0 => agm fu a1 y1 b3 a0) (0 : Int) b2 b7 [1, 4, 5, 10, 11, 12] (fun a0 => [(12, (Vi .i64 a0))]) (fun _ => rfl) ?_))))
 rintro b3 a0 c8 G a4 a2
 rw [agm.eq_2] at a2
 refine sr (wp 1 (nq (cs (cd a2 (fun b9 a2 => ?_) (fun b9 a2 => ?_)))))
 refine ck (qn (cs (ce (sr (gi a2 fun c0 a2 => ahl a3 a1.length a7 65 3 .i64 a0 underlying22 krf krf krf a1 rfl c0 (b1.hp a4) aab (by decide) (gi a2 fun c1 a2 => ajh a3 aaa a1 3 a0 aab (b1.hp a4) (Zz0 a1 a0) c1 krf krf krf krf (by decide) ?_))))))
 refine adr a4 (Zz6) 65 (fun b => (Vp (some ⟨b, 0, none⟩))) rfl rfl krf fun a5 c9 c2 => ahq c2 0 a5 0 (Zz6) (Zz0 a1 a0) 65 [blk a5 (Zz0 a1 a0) 65] rfl nbe krf krf rfl krf rfl fun d0 a8 => nq (sr (wp 1 (abs a8 0 a5 0 (Zz0 a1 a0) 65 (str ((el a1 a0).1)) rfl rfl krf krf (bi a2 fun d1 c3 a2 => wc ent67 a8 (adu c3 (hG.hp0 a8)) fun d2 a9 => ?_))))
 refine wp 2 (nq (cd a2 (fun c4 a2 => ?_) (fun c4 a2 => ?_)))
 refine sr (wp 1 (abs a9 0 a5 1 (Zz0 a1 a0) 65 (str ((el a1 a0).2.1)) rfl rfl krf krf (wp 2 (nq (ct (bt_ (st ?_)))))))
 refine adg (bt_ (adg ?_))
 obtain rfl := oi a2
 obtain rfl := oi hr
 exact rv a9.kp
 exact ck (bn (qn (cr (gi a2 fun c5 a2 => aae a0 (1 : Int) krf krf c5 (wp 1 (wl (ql (le' (a0 + (1 : Int)) a9.kp a2))))))))
 refine abq (abp (aby (abr (ql ?_))))
 obtain rfl := oi a2
 exact je1 rfl a4.kp
 rintro b8 d3 G c6 rfl
 refine sr (wp 2 (nq (ct ?_)))
 obtain rfl := oi hr
 exact rv c6.kp
theorem K_L_header_Via {fu : Nat} {c9 : Str} {w : World} {r : ((Str × Str × Int × Str × (List PQ)) × UInt8)} (hr : amz fu c9 = some r) (hG : Gl w) : CR prog 8 [(str c9)] w fun v w' => ∃ (o0 : Option Nat), ∃ (a0 : Option Addr), ∃ (cap0 : Nat), v = (zak #[(zan #[(str r.1.1), (str r.1.2.1), (Vi .i64 r.1.2.2.1), (str r.1.2.2.2.1), (Vs a0 r.1.2.2.2.2.length cap0)]), (bt r.2)]) ∧ Hp w [] [rwt aaa 65 3 o0 a0 cap0 r.1.2.2.2.2] w' := by
 have hH := Hp.refl w
 refine enter (k := 120) func8 rfl rfl nbe ?_
 unfold amz at hr
 refine sr (adr hH (Zz4) 24 (fun b => (Vp (some ⟨b, 0, none⟩))) rfl rfl krf fun b1 w2 d0 => wp 1 (nq (sr (wp 1 (bi hr fun y4 e9 hr => ?_)))))
 refine wc ent27 d0 (anq e9 (hG.hp0 d0)) fun w6 b9 => wp 1 (nq (cs (bi hr fun f0 b3 hr => age b9 [0, 2, 3, 30] [(30, (Vb f0))] ?_ ?_)))
 refine cr (wp 3 (wd b3 (fun f1 b3 => ?_) (fun f1 b3 => ?_)))
 refine wp 5 (wl (ql ?_))
 obtain rfl := oi b3
 exact je b9.kp
 refine wp 1 (gy 25 (gi b3 fun f2 b3 => amw y4 .i64 (8 : Int) underlying9 krf krf f2 (gy 25 (bi b3 fun j1 f3 b3 => wc ent28 b9 (afz f3 (hG.hp0 b9)) fun j2 f4 => wp 2 (wl (ql ?_))))))
 obtain rfl := oi b3
 exact je f4.kp
 intro j3 G c3
 refine cb hr (fun f5 hr => ?_) (fun f5 hr => ?_)
 refine sr (wp 1 (ahq c3 0 b1 0 (Zz4) (Zz4) 24 [blk b1 (Zz4) 24] rfl nbe krf krf rfl krf rfl fun j4 d1 => wp 1 (nq (ct (st ?_)))))
 obtain rfl := oi hr
 refine aov _ [(zan #[(str ([] : Str)), (str ([] : Str)), (Vi .i64 (0 : Int)), (str ([] : Str)), (Vs none 0 0)]), (bt (5 : UInt8))] (zak #[(zan #[(str ([] : Str)), (str ([] : Str)), (Vi .i64 (0 : Int)), (str ([] : Str)), (Vs none 0 0)]), (bt (5 : UInt8))]) rfl rfl (abe (ahu d1 0 b1 24 (Zz4) rfl krf krf krf) (abe (afd krf) agr)) rfl ?_
 exact ⟨none, none, 0, (by first | rfl | (simp; done) | (simp; omega)), (Hp.nilrw d1 aaa 65 3 none).kp⟩
 refine ck (qn (sr (wp 1 (bi hr fun f6 f7 hr => wc ent30 c3 (anp f7 (hG.hp0 c3)) fun j5 d2 => wp 1 (nq ?_)))))
 refine sr (wp 2 (bi hr fun a9 f8 hr => wc ent31 d2 (ams f8 (hG.hp0 d2)) fun j6 c4 => wp 1 (nq (cs (bi hr fun f9 b7 hr => age c4 [0, 2, 3, 4, 5, 43] [(43, (Vb f9))] ?_ ?_)))))
 refine cr (wp 2 (wd b7 (fun g0 b7 => ?_) (fun g0 b7 => ?_)))
 refine wp 4 (wl (ql ?_))
 obtain rfl := oi b7
 exact je c4.kp
 refine wp 4 (wl (ql ?_))
 obtain rfl := oi b7
 exact je c4.kp
 intro j7 G c5
 refine cb hr (fun g1 hr => ?_) (fun g1 hr => ?_)
 refine sr (wp 1 (ahq c5 0 b1 0 (Zz4) (Zz4) 24 [blk b1 (Zz4) 24] rfl nbe krf krf rfl krf rfl fun j8 d3 => wp 1 (nq (ct (st ?_)))))
 obtain rfl := oi hr
 refine aov _ [(zan #[(str ([] : Str)), (str ([] : Str)), (Vi .i64 (0 : Int)), (str ([] : Str)), (Vs none 0 0)]), (bt (5 : UInt8))] (zak #[(zan #[(str ([] : Str)), (str ([] : Str)), (Vi .i64 (0 : Int)), (str ([] : Str)), (Vs none 0 0)]), (bt (5 : UInt8))]) rfl rfl (abe (ahu d3 0 b1 24 (Zz4) rfl krf krf krf) (abe (afd krf) agr)) rfl ?_
 exact ⟨none, none, 0, (by first | rfl | (simp; done) | (simp; omega)), (Hp.nilrw d3 aaa 65 3 none).kp⟩
 refine ck (qn (sr (wp 2 (gi hr fun g2 hr => alo y4 .i64 .i64 (8 : Int) f6 underlying9 krf krf krf g2 (bi hr fun a1 g3 hr => wc ent28 c5 (afz g3 (hG.hp0 c5)) fun j9 g4 => wp 1 ?_)))))
 refine adr g4 (Zz4) 24 (fun b => (Vp (some ⟨b, 0, none⟩))) rfl rfl krf fun a7 k0 g5 => ahq g5 0 a7 0 (Zz4) (Zz60 a1) 24 [blk a7 (Zz60 a1) 24, blk b1 (Zz4) 24] rfl nbe krf krf rfl krf rfl fun g6 c6 => nq (sr (wp 2 (gi hr fun g7 hr => ahd y4 .i64 a9 underlying9 krf krf g7 (wp 2 ?_))))
 refine nq (bi hr fun c7 b0 hr => age c6 [2, 3, 6, 7, 8] [(7, (str c7.1)), (8, (str c7.2))] ?_ ?_)
 refine sr (wp 1 (gi b0 fun g8 b0 => aat 32 #[] [(str (zam (zac a9) y4)), (str ([59, 32, 9] : Str))] _ ent32 krf krf (sh_IndexAnyW (zam (zac a9) y4) ([59, 32, 9] : Str) g6 g8 (hG.hp0 c6)) ?_))
 rintro _ k1 ⟨rfl, d4⟩
 have d5 := c6.call d4; clear d4
 refine wp 1 (nq (sr (wp 2 (nq (cd b0 (fun g9 b0 => ?_) (fun g9 b0 => ?_))))))
 refine gi b0 fun h0 b0 => gi b0 fun h1 b0 => cdr 7 d5 (aam adb) fun k2 h2 => rp 5 [0, 1] (rt 2 (str (zaz (zac (zaC (zam (zac a9) y4) ([59, 32, 9] : Str))) (zam (zac a9) y4))) rfl rfl (aba rfl (by intro w hS_; exact (x_slice_to (zam (zac a9) y4) .i64 (zaC (zam (zac a9) y4) ([59, 32, 9] : Str)) underlying9 krf krf h0))) (rp 2 [3, 4] (rt 5 (str (zam (zac (zaC (zam (zac a9) y4) ([59, 32, 9] : Str))) (zam (zac a9) y4))) rfl rfl (aba rfl (by intro w hS_; exact (aon (zam (zac a9) y4) .i64 (zaC (zam (zac a9) y4) ([59, 32, 9] : Str)) underlying9 krf krf h1))) (rp 0 [6] (adn krf (wp 1 ?_))))))
 refine wl (ql ?_)
 obtain rfl := oi b0
 exact je (Hp.front (Hp.front h2 1 _ rfl) 1 _ rfl).kp
 refine ck (ql ?_)
 obtain rfl := oi b0
 exact je (Hp.front (Hp.front d5 1 _ rfl) 1 _ rfl).kp
 intro k3 G d6
 refine sr (wp 1 (bi hr fun k4 h3 hr => wc ent33 d6 (K_L_header_cutPort h3 (hG.hp0 d6)) fun k5 d7 => wp 7 (nq (sr ?_))))
 refine wp 1 (bi hr fun a2 h4 hr => wc ent34 d7 (ahy h4 (hG.hp0 d7)) fun k6 d8 => wp 5 (nq (cs (sr (wp 2 ?_)))))
 refine nq (cb hr (fun h5 hr => ?_) (fun h5 hr => ?_))
 refine sr (wp 1 (ahq d8 1 b1 0 (Zz4) (Zz4) 24 [blk a7 (Zz60 a1) 24, blk b1 (Zz4) 24] rfl nbe krf krf rfl krf rfl fun k7 d9 => wp 1 (nq (ct (st ?_)))))
 obtain rfl := oi hr
 refine aov _ [(zan #[(str ([] : Str)), (str ([] : Str)), (Vi .i64 (0 : Int)), (str ([] : Str)), (Vs none 0 0)]), (bt (5 : UInt8))] (zak #[(zan #[(str ([] : Str)), (str ([] : Str)), (Vi .i64 (0 : Int)), (str ([] : Str)), (Vs none 0 0)]), (bt (5 : UInt8))]) rfl rfl (abe (ahu d9 1 b1 24 (Zz4) rfl krf krf krf) (abe (afd krf) agr)) rfl ?_
 exact ⟨none, none, 0, (by first | rfl | (simp; done) | (simp; omega)), (Hp.nilrw d9 aaa 65 3 none).kp⟩
 refine ck (qn (sr (wp 2 (aib d8 0 a7 1 (Zz60 a1) 24 (str a2.1) [blk a7 (Zz47 a1 a2.1) 24, blk b1 (Zz4) 24] rfl (zaj (zad _) nbe) krf krf rfl krf rfl fun k8 c8 => nq (bi hr fun h6 a8 hr => cut (σ := Int) [2, 3, 6, 8] (fun a4 => []) (fun a4 w' => Hp w [] (Zz99 a7 a1 a2.1 a4 b1) w' ∧ .inl a4 = h6) ?_ ?_)))))
 refine sr (wp 1 (nq (cb a8 (fun h7 a8 => ?_) (fun h7 a8 => ?_))))
 refine sr (wp 1 (bi a8 fun c0 h8 a8 => wc ent35 c8 (K_L_lexis_Number h8 (hG.hp0 c8)) fun k9 b8 => wp 5 (nq (bi a8 fun c1 b5 a8 => age b8 [2, 3, 6, 8, 15, 16] [(16, (bt c1))] ?_ ?_))))
 refine bi b5 fun h9 b4 b5 => age b8 [2, 3, 6, 8, 15, 16, 94] [(94, (Vb h9))] ?_ ?_
 refine cr (wp 1 (acx c0.2 (0 : UInt8) krf krf (wd b4 (fun i0 b4 => ?_) (fun i0 b4 => ?_))))
 refine wp 2 (gy 87 (wd b4 (fun i1 b4 => ?_) (fun i1 b4 => ?_)))
 refine wp 4 (wl (ql ?_))
 obtain rfl := oi b4
 exact je (Hp.front (Hp.front b8 1 _ rfl) 1 _ rfl).kp
 refine wp 4 (wl (ql ?_))
 obtain rfl := oi b4
 exact je (Hp.front (Hp.front b8 1 _ rfl) 1 _ rfl).kp
 refine wp 7 (wl (ql ?_))
 obtain rfl := oi b4
 exact je (Hp.front (Hp.front b8 1 _ rfl) 1 _ rfl).kp
 intro l0 G e0
 refine cb b5 (fun i2 b5 => ?_) (fun i2 b5 => ?_)
 refine cr (wp 1 (wl (ql ?_)))
 obtain rfl := oi b5
 exact je (Hp.front (Hp.front e0 1 _ rfl) 1 _ rfl).kp
 refine ck (ql ?_)
 obtain rfl := oi b5
 exact je (Hp.front (Hp.front e0 1 _ rfl) 1 _ rfl).kp
 intro l1 G e1
 refine cs (sr (wp 1 (afp c1 (0 : UInt8) krf krf (nq (cn a8 (fun i3 a8 => ?_) (fun i3 a8 => ?_))))))
 refine sr (wp 2 (ahq e1 1 b1 0 (Zz4) (Zz4) 24 [blk a7 (Zz47 a1 a2.1) 24, blk b1 (Zz4) 24] rfl nbe krf krf rfl krf rfl fun l2 e2 => wp 1 (nq (ct (st (adg ?_))))))
 obtain rfl := oi a8
 obtain rfl := oi hr
 refine aov _ [(zan #[(str ([] : Str)), (str ([] : Str)), (Vi .i64 (0 : Int)), (str ([] : Str)), (Vs none 0 0)]), (bt c1)] (zak #[(zan #[(str ([] : Str)), (str ([] : Str)), (Vi .i64 (0 : Int)), (str ([] : Str)), (Vs none 0 0)]), (bt c1)]) rfl rfl (abe (ahu e2 1 b1 24 (Zz4) rfl krf krf krf) (abe (afd krf) agr)) rfl ?_
 exact ⟨none, none, 0, (by first | rfl | (simp; done) | (simp; omega)), (Hp.nilrw e2 aaa 65 3 none).kp⟩
 refine ck (qn (cr (wp 2 (aib e1 0 a7 2 (Zz47 a1 a2.1) 24 (Vi .i64 c0.1) (Zz99 a7 a1 a2.1 c0.1 b1) rfl (zaj (zad _) nbe) krf krf rfl krf rfl fun l3 i4 => wl (ql ?_)))))
 obtain rfl := oi a8
 exact ⟨c0.1, _, rfl, by kernel_rfl, (Hp.front (Hp.front i4 1 _ rfl) 1 _ rfl).kp, rfl⟩
 refine ck (ql ?_)
 obtain rfl := oi a8
 exact ⟨(0 : Int), _, rfl, by kernel_rfl, (Hp.front (Hp.front c8 1 _ rfl) 1 _ rfl).kp, rfl⟩
 rintro a4 l4 G ⟨e3, rfl⟩
 refine sr (wp 1 (bi hr fun a3 i5 hr => aat 36 #[] [(str c7.2)] _ ent36 krf krf (aql i5 (hG.hp0 e3)) ?_))
 rintro _ i6 ⟨b6, a5, a6, rfl, e4⟩
 have e5 : Hp w [] [rwt aaa 65 3 b6 a5 a6 a3.1, blk a7 (Zz32 a1 a2.1 a4) 24, blk b1 (Zz4) 24] i6 := Hp.callK (L1 := []) (L2 := (Zz99 a7 a1 a2.1 a4 b1)) e3 e4; clear e4
 refine wp 7 (nq (cs (sr (wp 1 (afp a3.2.2 (0 : UInt8) krf krf (nq (cn hr (fun i7 hr => ?_) (fun i7 hr => ?_))))))))
 refine sr (wp 2 (ahq e5 2 b1 0 (Zz4) (Zz4) 24 [rwt aaa 65 3 b6 a5 a6 a3.1, blk a7 (Zz32 a1 a2.1 a4) 24, blk b1 (Zz4) 24] rfl nbe krf krf rfl krf rfl fun l5 e6 => wp 1 (nq (ct (st ?_)))))
 obtain rfl := oi hr
 refine aov _ [(zan #[(str ([] : Str)), (str ([] : Str)), (Vi .i64 (0 : Int)), (str ([] : Str)), (Vs none 0 0)]), (bt a3.2.2)] (zak #[(zan #[(str ([] : Str)), (str ([] : Str)), (Vi .i64 (0 : Int)), (str ([] : Str)), (Vs none 0 0)]), (bt a3.2.2)]) rfl rfl (abe (ahu e6 2 b1 24 (Zz4) rfl krf krf krf) (abe (afd krf) agr)) rfl ?_
 exact ⟨none, none, 0, (by first | rfl | (simp; done) | (simp; omega)), (Hp.nilrw e6 aaa 65 3 none).kp⟩
 refine ck (qn (sr (wp 2 (aib e5 1 a7 4 (Zz32 a1 a2.1 a4) 24 (Vs a5 a3.1.length a6) [rwt aaa 65 3 b6 a5 a6 a3.1, blk a7 (Zz87 a1 a2.1 a4 a5 a3.1.length a6) 24, blk b1 (Zz4) 24] rfl (zaj (zad _) nbe) krf krf rfl krf rfl fun l6 c2 => nq (sr ?_)))))
 refine wp 1 (bi hr fun b2 i9 hr => wc ent37 c2 (K_L_address_Get a5 a3.1.length a6 i9 (hG.hp0 c2) rfl (c2.rdrw 0 rfl) (c2.rwcap 0 rfl)) fun l7 j0 => wp 4 (aib j0 1 a7 3 (Zz87 a1 a2.1 a4 a5 a3.1.length a6) 24 (str b2.1) [rwt aaa 65 3 b6 a5 a6 a3.1, blk a7 (Zz7 a1 a2.1 a4 b2.1 a5 a3.1.length a6) 24, blk b1 (Zz4) 24] rfl (zaj (zad _) nbe) krf krf rfl krf rfl fun l8 e7 => nq (sr (ant e7 1 a7 0 5 (Zz7 a1 a2.1 a4 b2.1 a5 a3.1.length a6) (Zz7 a1 a2.1 a4 b2.1 a5 a3.1.length a6) 24 rfl rfl rfl krf krf krf ?_))))
 refine ahq e7 2 b1 0 (Zz4) (Zz7 a1 a2.1 a4 b2.1 a5 a3.1.length a6) 24 [rwt aaa 65 3 b6 a5 a6 a3.1, blk a7 (Zz7 a1 a2.1 a4 b2.1 a5 a3.1.length a6) 24, blk b1 (Zz7 a1 a2.1 a4 b2.1 a5 a3.1.length a6) 24] rfl nbe krf krf rfl krf rfl fun l9 e8 => wp 1 (nq (ct ?_))
 obtain rfl := oi hr
 refine aov _ [(zan #[(str a1), (str a2.1), (Vi .i64 a4), (str b2.1), (Vs a5 a3.1.length a6)]), (bt (0 : UInt8))] (zak #[(zan #[(str a1), (str a2.1), (Vi .i64 a4), (str b2.1), (Vs a5 a3.1.length a6)]), (bt (0 : UInt8))]) rfl rfl (abe (ahu e8 2 b1 24 (Zz7 a1 a2.1 a4 b2.1 a5 a3.1.length a6) rfl krf krf krf) (abe (afd krf) agr)) rfl ?_
 exact ⟨b6, a5, a6, (by first | rfl | (simp; done) | (simp; omega)), e8.kp⟩
theorem K_L_header_numbered {fu : Nat} {s_0 : Str} {w : World} {r : (Int × Str × UInt8)} (hr : aoc fu s_0 = some r) (hG : Gl w) : CR prog 74 [(str s_0)] w fun v w' => v = (zak #[(Vi .i64 r.1), (str r.2.1), (bt r.2.2)]) ∧ Hp w [] [] w' := by
 have hH := Hp.refl w
 refine enter (k := 28) func74 rfl rfl nbe ?_
 unfold aoc at hr
 refine sr (wp 3 (nq (sr (wp 1 (gi hr fun g4 hr => aat 32 #[] [(str s_0), (str ([32, 9] : Str))] _ ent32 krf krf (sh_IndexAnyW s_0 ([32, 9] : Str) w g4 (hG.hp0 hH)) ?_)))))
 rintro _ w1 ⟨rfl, a0⟩
 have a1 := hH.call a0; clear a0
 refine wp 1 (nq (cs (sr (wp 2 (nq (cd hr (fun h6 hr => ?_) (fun h6 hr => ?_)))))))
 exact nzz hr
 refine ck (qn (sr (wp 2 (gi hr fun g7 hr => amw s_0 .i64 (zaC s_0 ([32, 9] : Str)) underlying9 krf krf g7 (bi hr fun y8 a4 hr => wc ent35 a1 (K_L_lexis_Number a4 (hG.hp0 a1)) fun a9 a5 => wp 5 ?_)))))
 refine nq (cs (bi hr fun a2 a6 hr => gi hr fun a7 hr => cdr 9 a5 (ade adb) fun b0 a3 => rp 4 [0, 1, 2, 3, 6] (ro 4 rfl (wc ent31 a3 (ams a6 (hG.hp0 a3)) fun b1 a8 => wl ?_))))
 refine abu (by exact trivial) (rt 5 (str (zam (zac a2) s_0)) rfl rfl (aba rfl (by intro w hS_; exact (aon s_0 .i64 a2 underlying9 krf krf a7))) (rp 0 [7, 8] (adn krf (wp 1 (nq (ct ?_))))))
 obtain rfl := oi hr
 exact rv a8.kp
theorem K_L_header_CSeq {fu : Nat} {a0 : Str} {w : World} {r : (Int × Str × UInt8)} (hr : arv fu a0 = some r) (hG : Gl w) : CR prog 26 [(str a0)] w fun v w' => v = (zak #[(Vi .i64 r.1), (str r.2.1), (bt r.2.2)]) ∧ Hp w [] [] w' := by
 have hH := Hp.refl w
 refine enter (k := 23) func26 rfl rfl nbe ?_
 unfold arv at hr
 refine sr (wp 3 (nq (sr (wp 1 (bi hr fun y1 a3 hr => wc ent27 hH (anq a3 (hG.hp0 hH)) fun w3 a1 => ?_)))))
 refine bi hr fun y6 a4 hr => wc ent74 a1 (K_L_header_numbered a4 (hG.hp0 a1)) fun w8 a2 => wp 7 (nq (cs (sr (wp 1 (afp y6.2.2 (0 : UInt8) krf krf ?_)))))
 refine nq (cn hr (fun a5 hr => ?_) (fun a5 hr => ?_))
 exact nzz hr
 refine ck (qn (cs (sr (wp 1 (bi hr fun a9 a6 hr => wc ent47 a2 (aio a6 (hG.hp0 a2)) fun b0 a7 => wp 1 (wl ?_))))))
 refine qn (cb hr (fun a8 hr => ?_) (fun a8 hr => ?_))
 exact nzz hr
 refine ck (qn (sr (wp 5 (nq (ct ?_)))))
 obtain rfl := oi hr
 exact rv a7.kp
theorem K_L_law03_awake {fu : Nat} {w : World} {r : Bool} (hr : ank fu = some r) (hG : Gl w) : CR prog 7 [] w fun v w' => v = (Vb r) ∧ Hp w [] [] w' := by
 have hH := Hp.refl w
 refine enter (k := 77) func7 rfl rfl nbe ?_
 unfold ank at hr
 refine sr (wp 1 (nq (sr (bi hr fun y1 b3 hr => wc ent25 hH (K_L_header_Canon b3 (hG.hp0 hH)) fun w3 a7 => wp 5 ?_))))
 refine nq (sr (bi hr fun y6 b4 hr => wc ent13 a7 (K_L_header_Tidy b4 (hG.hp0 a7)) fun w8 a8 => wp 5 (nq (cs ?_))))
 refine cr (bi hr fun a1 b5 hr => aat 8 #[] [(str ([115, 105, 112, 47, 50, 46, 48, 47, 117, 100, 112, 32, 104, 58, 53, 48, 54, 48, 59, 98, 114, 97, 110, 99, 104, 61, 122, 57] : Str))] _ ent8 krf krf (K_L_header_Via b5 (hG.hp0 a8)) ?_)
 rintro _ b6 ⟨a9, a2, a3, rfl, b0⟩
 have b7 : Hp w [] (Zz10 a9 a2 a3 a1.1.2.2.2.2) b6 := Hp.callK (L1 := []) (L2 := []) a8 b0; clear b0
 refine wp 3 (adr b7 (Zz4) 24 (fun b => (Vp (some ⟨b, 0, none⟩))) rfl rfl krf fun a4 d3 b8 => ahq b8 0 a4 0 (Zz4) (Zz7 a1.1.1 a1.1.2.1 a1.1.2.2.1 a1.1.2.2.2.1 a2 a1.1.2.2.2.2.length a3) 24 [blk a4 (Zz7 a1.1.1 a1.1.2.1 a1.1.2.2.1 a1.1.2.2.2.1 a2 a1.1.2.2.2.2.length a3) 24, rwt aaa 65 3 a9 a2 a3 a1.1.2.2.2.2] rfl nbe krf krf rfl krf rfl fun d4 b1 => wp 1 (nq (sr (bi hr fun b2 b9 hr => wc ent26 b1 (K_L_header_CSeq b9 (hG.hp0 b1)) fun d5 a5 => ?_))))
 refine wp 7 (nq (bi hr fun c0 a0 hr => cut (σ := Unit) [0] (fun a6 => [(0, (Vb (decide (b2.2.2 = (0 : UInt8)))))]) (fun a6 w' => Hp w [] [] w' ∧ a6 = c0) ?_ ?_))
 refine cr (wp 1 (acx y1.2 (0 : UInt8) krf krf (wd a0 (fun c1 a0 => ?_) (fun c1 a0 => ?_))))
 refine wp 3 (wd a0 (fun c2 a0 => ?_) (fun c2 a0 => ?_))
 refine wp 1 (gy 33 (acx y6.2 (0 : UInt8) krf krf (wp 1 (wd a0 (fun c3 a0 => ?_) (fun c3 a0 => ?_)))))
 refine wp 3 (wd a0 (fun c4 a0 => ?_) (fun c4 a0 => ?_))
 refine wp 1 (gy 41 (acx a1.2 (0 : UInt8) krf krf (wp 1 (wd a0 (fun c5 a0 => ?_) (fun c5 a0 => ?_)))))
 refine wp 1 (gy 45 (abs a5 0 a4 0 (Zz7 a1.1.1 a1.1.2.1 a1.1.2.2.1 a1.1.2.2.2.1 a2 a1.1.2.2.2.2.length a3) 24 (str a1.1.1) rfl rfl krf krf (wp 2 (wd a0 (fun c6 a0 => ?_) (fun c6 a0 => ?_)))))
 refine wp 1 (gy 50 (abs a5 0 a4 1 (Zz7 a1.1.1 a1.1.2.1 a1.1.2.2.1 a1.1.2.2.2.1 a2 a1.1.2.2.2.2.length a3) 24 (str a1.1.2.1) rfl rfl krf krf (wp 2 (wd a0 (fun c7 a0 => ?_) (fun c7 a0 => ?_)))))
 refine wp 1 (gy 55 (abs a5 0 a4 2 (Zz7 a1.1.1 a1.1.2.1 a1.1.2.2.1 a1.1.2.2.2.1 a2 a1.1.2.2.2.2.length a3) 24 (Vi .i64 a1.1.2.2.1) rfl rfl krf krf (wp 2 (wd a0 (fun c8 a0 => ?_) (fun c8 a0 => ?_)))))
 refine wp 1 (gy 60 (abs a5 0 a4 3 (Zz7 a1.1.1 a1.1.2.1 a1.1.2.2.1 a1.1.2.2.2.1 a2 a1.1.2.2.2.2.length a3) 24 (str a1.1.2.2.2.1) rfl rfl krf krf (wp 2 (wd a0 (fun c9 a0 => ?_) (fun c9 a0 => ?_)))))
 refine wp 3 (wd a0 (fun d0 a0 => ?_) (fun d0 a0 => ?_))
 refine wp 3 (wd a0 (fun d1 a0 => ?_) (fun d1 a0 => ?_))
 refine wp 1 (gy 73 (acx b2.2.2 (0 : UInt8) krf krf (wp 2 (wl (ql ?_)))))
 obtain rfl := oi a0
 exact ⟨(), _, rfl, by kernel_rfl, a5.kp, rfl⟩
 exact nzz a0
 exact nzz a0
 exact nzz a0
 exact nzz a0
 exact nzz a0
 exact nzz a0
 exact nzz a0
 exact nzz a0
 exact nzz a0
 exact nzz a0
 exact nzz a0
 rintro a6 d6 G ⟨d2, rfl⟩
 refine ct ?_
 obtain rfl := oi hr
 exact rv d2.kp
theorem aqa {fu : Nat} {a1 : UInt8} {w : World} {r : Bool} (hr : akj fu a1 = some r) (hG : Gl w) : CR prog 42 [(bt a1)] w fun v w' => v = (Vb r) ∧ Hp w [] [] w' := by
 have hH := Hp.refl w
 refine enter (k := 9) func42 rfl rfl nbe ?_
 unfold akj at hr
 refine sr (wp 1 (nq (bi hr fun v5 a0 hr => age hH [2] [(2, (Vb v5))] ?_ ?_)))
 refine cr (wp 1 (acx a1 (32 : UInt8) krf krf (wd a0 (fun h6 a0 => ?_) (fun h6 a0 => ?_))))
 refine wp 4 (wl (ql ?_))
 obtain rfl := oi a0
 exact je hH.kp
 refine wp 1 (gy 5 (acx a1 (9 : UInt8) krf krf (wp 2 (wl (ql ?_)))))
 obtain rfl := oi a0
 exact je hH.kp
 intro w7 G a2
 refine ct ?_
 obtain rfl := oi hr
 exact rv a2.kp
open List renaming drop → zam, length_take → zah, set → zal
open Nat renaming lt_succ_self → zad
theorem ent40 : Wk.Enters prog 40 := ⟨f40, _, func40, rfl, krf⟩
theorem ent42 : Wk.Enters prog 42 := ⟨f42, _, func42, rfl, krf⟩
theorem ent93 : Wk.Enters prog 93 := ⟨f93, _, func93, rfl, krf⟩
theorem ent161 : Wk.Enters prog 161 := ⟨f161, _, func161, rfl, krf⟩
theorem ahx {fu : Nat} {s_0 : Str} {a3 : Int} {w : World} {r : Int} (hr : afx fu s_0 a3 = some r) (hG : Gl w) : CR prog 40 [(str s_0), (Vi .i64 a3)] w fun v w' => v = (Vi .i64 r) ∧ Hp w [] [] w' := by
 have hH := Hp.refl w
 refine enter (k := 24) func40 rfl rfl nbe ?_
 unfold afx at hr
 refine sr (wp 1 (nq (sr (wp 1 (w_max .i64 a3 (0 : Int) krf krf (wp 2 ?_))))))
 refine w_min .i64 (max a3 (0 : Int)) (s_0.length : Int) krf krf (wp 1 (nq (bi hr fun a7 a8 hr => age hH [4, 5] [(5, (Vi .i64 a7))] ?_ ?_)))
 refine ce (lpS (fun a5 a2 => aft fu s_0 a5 a2) (min (max a3 (0 : Int)) (s_0.length : Int)) hH a8 [0, 4, 5] (fun a2 => [(5, (Vi .i64 a2))]) (fun _ => rfl) ?_)
 rintro a5 a2 b7 G a4 a0
 rw [aft.eq_2] at a0
 refine cs (bi a0 fun a9 a1 a0 => age a4 [0, 4, 5, 20] [(20, (Vb a9))] ?_ ?_)
 refine cr (wp 4 (wd a1 (fun b0 a1 => ?_) (fun b0 a1 => ?_)))
 refine wp 2 (gy 15 (gi a1 fun b1 a1 => abi s_0 .i64 a2 underlying9 krf krf b1 (gy 15 (bi a1 fun b8 b2 a1 => wc ent42 a4 (aqa b2 (hG.hp0 a4)) fun b9 b3 => wp 1 (wl (ql ?_))))))
 obtain rfl := oi a1
 exact je b3.kp
 refine wp 5 (wl (ql ?_))
 obtain rfl := oi a1
 exact je a4.kp
 intro c0 G a6
 refine cb a0 (fun b4 a0 => ?_) (fun b4 a0 => ?_)
 refine ck (qn (ce (cr (wp 1 (gi a0 fun b5 a0 => aae a2 (1 : Int) krf krf b5 (wp 1 (wl (bn ?_))))))))
 exact ql (le' (a2 + (1 : Int)) a6.kp a0)
 refine abq (abp (aby (abr (ql ?_))))
 obtain rfl := oi a0
 exact je a6.kp
 intro c1 G b6
 refine sr (wp 2 (nq (ct ?_)))
 obtain rfl := oi hr
 exact rv b6.kp
theorem K_L_ref01_Trim {fu : Nat} {s_0 : Str} {w : World} {r : Str} (hr : aos fu s_0 = some r) (hG : Gl w) : CR prog 38 [(str s_0)] w fun v w' => v = (str r) ∧ Hp w [] [] w' := by
 have hH := Hp.refl w
 refine enter (k := 24) func38 rfl rfl nbe ?_
 unfold aos at hr
 refine sr (wp 1 (nq (sr (wp 2 (bi hr fun y1 a8 hr => wc ent40 hH (ahx a8 (hG.hp0 hH)) fun w3 a4 => ?_)))))
 refine gi hr fun g6 hr => ahd s_0 .i64 y1 underlying9 krf krf g6 (wp 1 (nq (sr (wp 3 (nq ?_)))))
 refine bi hr fun a5 a9 hr => age a4 [0, 2, 3] [(3, (Vi .i64 a5))] ?_ ?_
 refine ce (lpS (fun a6 a2 => ahv fu s_0 y1 a6 a2) ((zam (zac y1) s_0).length : Int) a4 a9 [0, 2, 3] (fun a2 => [(3, (Vi .i64 a2))]) (fun _ => rfl) ?_)
 rintro a6 a2 c0 G a3 a1
 rw [ahv.eq_2] at a1
 refine cs (bi a1 fun b0 a0 a1 => age a3 [0, 2, 3, 18] [(18, (Vb b0))] ?_ ?_)
 refine cr (wp 2 (wd a0 (fun b1 a0 => ?_) (fun b1 a0 => ?_)))
 refine wp 2 (gy 12 (gi a0 fun b2 a0 => adk a2 (1 : Int) krf krf b2 (gy 12 (gi a0 fun b3 a0 => abi (zam (zac y1) s_0) .i64 (a2 - (1 : Int)) underlying9 krf krf b3 (gy 12 (bi a0 fun c1 b4 a0 => wc ent42 a3 (aqa b4 (hG.hp0 a3)) fun c2 b5 => ?_))))))
 refine wp 1 (wl (ql ?_))
 obtain rfl := oi a0
 exact je b5.kp
 refine wp 6 (wl (ql ?_))
 obtain rfl := oi a0
 exact je a3.kp
 intro c3 G a7
 refine cb a1 (fun b6 a1 => ?_) (fun b6 a1 => ?_)
 refine ck (qn (ce (cr (wp 1 (gi a1 fun b7 a1 => adk a2 (1 : Int) krf krf b7 (wp 1 (wl (bn ?_))))))))
 exact ql (le' (a2 - (1 : Int)) a7.kp a1)
 refine abq (abp (aby (abr (ql ?_))))
 obtain rfl := oi a1
 exact je a7.kp
 intro c4 G b8
 refine sr (wp 2 (gi hr fun b9 hr => amw (zam (zac y1) s_0) .i64 a5 underlying9 krf krf b9 (wp 1 (nq (ct ?_)))))
 obtain rfl := oi hr
 exact rv b8.kp
theorem K_L_ref01_TokenChar {fu : Nat} {a1 : UInt8} {w : World} {r : Bool} (hr : ajw fu a1 = some r) (hG : Gl w) : CR prog 93 [(bt a1)] w fun v w' => v = (Vb r) ∧ Hp w [] [] w' := by
 have hH := Hp.refl w
 refine enter (k := 40) func93 rfl rfl nbe ?_
 unfold ajw at hr
 refine sr (wp 1 (nq (cs (bi hr fun a7 a0 hr => age hH [0, 2, 26] [(26, (Vb a7))] ?_ ?_))))
 refine cr (wp 1 (ajo a1 (65 : UInt8) krf krf (wd a0 (fun a8 a0 => ?_) (fun a8 a0 => ?_))))
 refine wp 1 (gy 7 (ajn a1 (90 : UInt8) krf krf (wp 1 (wd a0 (fun a9 a0 => ?_) (fun a9 a0 => ?_)))))
 refine wp 15 (wl (ql ?_))
 obtain rfl := oi a0
 exact je hH.kp
 refine wp 1 (gy 11 (ajo a1 (97 : UInt8) krf krf (gy 11 (wd a0 (fun b0 a0 => ?_) (fun b0 a0 => ?_)))))
 refine wp 1 (gy 14 (ajn a1 (122 : UInt8) krf krf (wp 2 (wd a0 (fun b1 a0 => ?_) (fun b1 a0 => ?_)))))
 refine wp 7 (wl (ql ?_))
 obtain rfl := oi a0
 exact je hH.kp
 refine wp 1 (gy 19 (ajo a1 (48 : UInt8) krf krf (gy 19 (wd a0 (fun b2 a0 => ?_) (fun b2 a0 => ?_)))))
 refine wp 1 (gy 22 (ajn a1 (57 : UInt8) krf krf (wp 2 (wl (ql ?_)))))
 obtain rfl := oi a0
 exact je hH.kp
 refine wp 4 (wl (ql ?_))
 obtain rfl := oi a0
 exact je hH.kp
 refine wp 6 (gy 19 (ajo a1 (48 : UInt8) krf krf (gy 19 (wd a0 (fun b3 a0 => ?_) (fun b3 a0 => ?_)))))
 refine wp 1 (gy 22 (ajn a1 (57 : UInt8) krf krf (wp 2 (wl (ql ?_)))))
 obtain rfl := oi a0
 exact je hH.kp
 refine wp 4 (wl (ql ?_))
 obtain rfl := oi a0
 exact je hH.kp
 refine wp 5 (gy 11 (ajo a1 (97 : UInt8) krf krf (gy 11 (wd a0 (fun b4 a0 => ?_) (fun b4 a0 => ?_)))))
 refine wp 1 (gy 14 (ajn a1 (122 : UInt8) krf krf (wp 2 (wd a0 (fun b5 a0 => ?_) (fun b5 a0 => ?_)))))
 refine wp 7 (wl (ql ?_))
 obtain rfl := oi a0
 exact je hH.kp
 refine wp 1 (gy 19 (ajo a1 (48 : UInt8) krf krf (gy 19 (wd a0 (fun b6 a0 => ?_) (fun b6 a0 => ?_)))))
 refine wp 1 (gy 22 (ajn a1 (57 : UInt8) krf krf (wp 2 (wl (ql ?_)))))
 obtain rfl := oi a0
 exact je hH.kp
 refine wp 4 (wl (ql ?_))
 obtain rfl := oi a0
 exact je hH.kp
 refine wp 6 (gy 19 (ajo a1 (48 : UInt8) krf krf (gy 19 (wd a0 (fun b7 a0 => ?_) (fun b7 a0 => ?_)))))
 refine wp 1 (gy 22 (ajn a1 (57 : UInt8) krf krf (wp 2 (wl (ql ?_)))))
 obtain rfl := oi a0
 exact je hH.kp
 refine wp 4 (wl (ql ?_))
 obtain rfl := oi a0
 exact je hH.kp
 intro c7 G a4
 refine cb hr (fun b8 hr => ?_) (fun b8 hr => ?_)
 refine sr (wp 1 (nq (ct (st ?_))))
 obtain rfl := oi hr
 exact rv a4.kp
 refine ck (qn (sr (wp 1 (nq (bi hr fun b9 c0 hr => cut1 a4 b9 [0, 2] (fun c1 => []) ?_ ?_)))))
 refine sr (wp 1 (nq (ce (lpS (fun a6 a3 => aiz fu a1 a6 a3) (0 : Int) a4 c0 [0, 2, 3, 4] (fun a3 => [(4, (Vi .i64 a3))]) (fun _ => rfl) ?_))))
 rintro a6 a3 c8 G a5 a2
 rw [aiz.eq_2] at a2
 refine cs (sr (wp 4 (nq (cd a2 (fun c2 a2 => ?_) (fun c2 a2 => ?_)))))
 refine ck (qn (cs (ce (sr (wp 2 (gi a2 fun c3 a2 => abi ([45, 46, 33, 37, 42, 95, 43, 39, 126] : Str) .i64 a3 underlying9 krf krf c3 (wp 1 ?_)))))))
 refine acx (at_ ([45, 46, 33, 37, 42, 95, 43, 39, 126] : Str) a3) a1 krf krf (nq (cd a2 (fun c4 a2 => ?_) (fun c4 a2 => ?_)))
 refine sr (wp 1 (nq (ct (bt_ (st (adg (bt_ ?_)))))))
 refine adg ?_
 obtain rfl := oi a2
 obtain rfl := oi hr
 exact rv a5.kp
 exact ck (bn (qn (cr (wp 1 (gi a2 fun c5 a2 => aae a3 (1 : Int) krf krf c5 (wp 1 (wl (ql (le' (a3 + (1 : Int)) a5.kp a2)))))))))
 refine abq (abp (aby (abr (ql ?_))))
 obtain rfl := oi a2
 exact je1 rfl a5.kp
 rintro c1 c9 G c6 rfl
 refine sr (wp 1 (acx a1 (96 : UInt8) krf krf (wp 1 (nq (ct ?_)))))
 obtain rfl := oi hr
 exact rv c6.kp
theorem ali {fu : Nat} {s_0 : Str} {a3 : Int} {w : World} {r : Int} (hr : ahf fu s_0 a3 = some r) (hG : Gl w) : CR prog 39 [(str s_0), (Vi .i64 a3)] w fun v w' => v = (Vi .i64 r) ∧ Hp w [] [] w' := by
 have hH := Hp.refl w
 refine enter (k := 24) func39 rfl rfl nbe ?_
 unfold ahf at hr
 refine sr (wp 1 (nq (sr (wp 1 (w_max .i64 a3 (0 : Int) krf krf (wp 2 ?_))))))
 refine w_min .i64 (max a3 (0 : Int)) (s_0.length : Int) krf krf (wp 1 (nq (bi hr fun a7 a8 hr => age hH [4, 5] [(5, (Vi .i64 a7))] ?_ ?_)))
 refine ce (lpS (fun a5 a2 => afn fu s_0 a5 a2) (min (max a3 (0 : Int)) (s_0.length : Int)) hH a8 [0, 4, 5] (fun a2 => [(5, (Vi .i64 a2))]) (fun _ => rfl) ?_)
 rintro a5 a2 b7 G a4 a0
 rw [afn.eq_2] at a0
 refine cs (bi a0 fun a9 a1 a0 => age a4 [0, 4, 5, 20] [(20, (Vb a9))] ?_ ?_)
 refine cr (wp 4 (wd a1 (fun b0 a1 => ?_) (fun b0 a1 => ?_)))
 refine wp 2 (gy 15 (gi a1 fun b1 a1 => abi s_0 .i64 a2 underlying9 krf krf b1 (gy 15 (bi a1 fun b8 b2 a1 => wc ent93 a4 (K_L_ref01_TokenChar b2 (hG.hp0 a4)) fun b9 b3 => wp 1 (wl (ql ?_))))))
 obtain rfl := oi a1
 exact je b3.kp
 refine wp 5 (wl (ql ?_))
 obtain rfl := oi a1
 exact je a4.kp
 intro c0 G a6
 refine cb a0 (fun b4 a0 => ?_) (fun b4 a0 => ?_)
 refine ck (qn (ce (cr (wp 1 (gi a0 fun b5 a0 => aae a2 (1 : Int) krf krf b5 (wp 1 (wl (bn ?_))))))))
 exact ql (le' (a2 + (1 : Int)) a6.kp a0)
 refine abq (abp (aby (abr (ql ?_))))
 obtain rfl := oi a0
 exact je a6.kp
 intro c1 G b6
 refine sr (wp 2 (nq (ct ?_)))
 obtain rfl := oi hr
 exact rv b6.kp
theorem apz {fu : Nat} {s_0 : Str} {w : World} {r : Str} (hr : aki fu s_0 = some r) (hG : Gl w) : CR prog 41 [(str s_0)] w fun v w' => v = (str r) ∧ Hp w [] [] w' := by
 have hH := Hp.refl w
 refine enter (k := 35) func41 rfl rfl nbe ?_
 unfold aki at hr
 refine sr (wp 1 (nq (sr (wp 1 (w_tobytes hH s_0 5 underlying9 underlying85 underlying5 krf fun a1 cap2 w3 b2 => wp 1 ?_)))))
 refine nq (bi hr fun b1 b3 hr => cut (σ := Str) [2, 3] (fun a8 => []) (fun a8 w' => Hp w [] [brow (Vs a1 s_0.length cap2) s_0.length a8] w' ∧ a8 = b1) ?_ ?_)
 refine sr (wp 1 (nq (ce (lpG (σ := Nat × Str × Int) [2, 3, 4] (fun ⟨a6, a2, a0⟩ => [(4, (Vi .i64 a0))]) (fun ⟨a6, a2, a0⟩ w' => Hp w [] [brow (Vs a1 s_0.length cap2) s_0.length a2] w' ∧ agh fu s_0 a6 a2 a0 = some b1) (fun ⟨a6, a2, a0⟩ => a6) (fu, s_0, (0 : Int)) (by exact ⟨b2.kp, b3⟩) ?_))))
 rintro ⟨_ | a6, a2, a0⟩ d0 G ⟨a5, a3⟩
 · exact nzz a3
 rw [agh.eq_2] at a3
 refine cs (sr (wp 4 (nq (cd a3 (fun b4 a3 => ?_) (fun b4 a3 => ?_)))))
 refine ck (qn (cs (ce (bi a3 fun b5 a4 a3 => age a5 [2, 3, 4, 24] [(24, (Vb b5))] ?_ ?_))))
 refine cr (wp 2 (gi a4 fun b6 a4 => ahl a1 s_0.length cap2 5 1 .i64 a0 underlying85 krf krf krf a2 (a5.browlen 0 rfl).symm b6 (Rd.ofbytes (a5.rdbrow 0 rfl)) akh (by decide) (gi a4 fun b7 a4 => apo a1 eB a2 1 a0 akh (Rd.ofbytes (a5.rdbrow 0 rfl)) (bt (at_ a2 a0)) b7 (by decide) krf krf krf (ajo (at_ a2 a0) (97 : UInt8) krf krf (wd a4 (fun b8 a4 => ?_) (fun b8 a4 => ?_))))))
 refine wp 2 (gy 18 (gi a4 fun b9 a4 => ahl a1 s_0.length cap2 5 1 .i64 a0 underlying85 krf krf krf a2 (a5.browlen 0 rfl).symm b9 (Rd.ofbytes (a5.rdbrow 0 rfl)) akh (by decide) (gy 18 (gi a4 fun c0 a4 => apo a1 eB a2 1 a0 akh (Rd.ofbytes (a5.rdbrow 0 rfl)) (bt (at_ a2 a0)) c0 (by decide) krf krf krf (gy 18 (ajn (at_ a2 a0) (122 : UInt8) krf krf (wp 1 ?_)))))))
 refine wl (ql ?_)
 obtain rfl := oi a4
 exact je a5.kp
 refine wp 6 (wl (ql ?_))
 obtain rfl := oi a4
 exact je a5.kp
 intro d1 G a7
 refine cb a3 (fun c1 a3 => ?_) (fun c1 a3 => ?_)
 refine cr (wp 4 (gi a3 fun c2 a3 => ahl a1 s_0.length cap2 5 1 .i64 a0 underlying85 krf krf krf a2 (a7.browlen 0 rfl).symm c2 (Rd.ofbytes (a7.rdbrow 0 rfl)) akh (by decide) (gi a3 fun c3 a3 => apo a1 eB a2 1 a0 akh (Rd.ofbytes (a7.rdbrow 0 rfl)) (bt (at_ a2 a0)) c3 (by decide) krf krf krf (w8_sub (at_ a2 a0) (32 : UInt8) krf krf (gi a3 fun c4 a3 => ahl a1 s_0.length cap2 5 1 .i64 a0 underlying85 krf krf krf a2 (a7.browlen 0 rfl).symm c4 (Rd.ofbytes (a7.rdbrow 0 rfl)) akh (by decide) (gi a3 fun c5 a3 => ?_))))))
 refine w_stB a7 0 a1 s_0.length cap2 a0 a2 ((at_ a2 a0) - (32 : UInt8)) rfl c5 krf krf krf fun c6 a9 => ?_
 replace a9 : Hp w [] [brow (Vs a1 s_0.length cap2) s_0.length (zal a2 (zac a0) ((at_ a2 a0) - (32 : UInt8)))] c6 := a9
 refine wl (bn (qn (cr (wp 1 (gi a3 fun c7 a3 => aae a0 (1 : Int) krf krf c7 (wp 1 (wl (ql ?_))))))))
 exact ⟨(a6, zal a2 (zac a0) ((at_ a2 a0) - (32 : UInt8)), a0 + (1 : Int)), _, rfl, by kernel_rfl, ⟨a9.kp, a3⟩, zad _⟩
 refine ck (bn (qn (cr (wp 1 (gi a3 fun c8 a3 => aae a0 (1 : Int) krf krf c8 (wp 1 (wl (ql ?_))))))))
 exact ⟨(a6, a2, a0 + (1 : Int)), _, rfl, by kernel_rfl, ⟨a7.kp, a3⟩, zad _⟩
 refine abq (abp (aby (abr (ql ?_))))
 obtain rfl := oi a3
 exact ⟨a2, _, rfl, by kernel_rfl, a5.kp, rfl⟩
 rintro a8 c9 G ⟨b0, rfl⟩
 refine sr (wp 1 (aes (v := (str a8)) (w' := c9) rfl rfl (apn a8 a1 s_0.length cap2 5 (Rd.bytes (Rd.ofbytes (b0.rdbrow 0 rfl))) (b0.browlen 0 rfl) underlying85 underlying9 underlying5 krf) (wp 1 (nq (ct ?_)))))
 obtain rfl := oi hr
 exact rv b0.kp
theorem K_L_ref02_pieces {fu : Nat} {s_0 : Str} {b2 : UInt8} {w : World} {r : List Str} (hr : akv fu s_0 b2 = some r) (hG : Gl w) : CR prog 95 [(str s_0), (bt b2)] w fun v w' => ∃ (o0 : Option Nat), ∃ (a0 : Option Addr), ∃ (cap0 : Nat), v = (Vs a0 r.length cap0) ∧ Hp w [] [rwt eS 9 1 o0 a0 cap0 r] w' := by
 have hH := Hp.refl w
 refine enter (k := 34) func95 rfl rfl nbe ?_
 unfold akv at hr
 refine sr (wp 1 (nq (sr (wp 1 (nq ?_)))))
 refine sr (wp 1 (nq (bi hr fun c1 c8 hr => cut (σ := ((List Str) × Int) × (Option Nat) × (Option Addr) × Nat) [0, 4, 5, 6] (fun ⟨a3, b3, b0, b1⟩ => [(5, (Vs b0 a3.1.length b1)), (6, (Vi .i64 a3.2))]) (fun ⟨a3, b3, b0, b1⟩ w' => Hp w [] [rwt eS 9 1 b3 b0 b1 a3.1] w' ∧ a3 = c1) ?_ ?_)))
 refine sr (wp 1 (nq (ce (lpG (σ := Nat × (List Str) × Int × Int × (Option Nat) × (Option Addr) × Nat) [0, 1, 4, 5, 6, 7] (fun ⟨a8, a5, a4, a2, a9, a6, a7⟩ => [(5, (Vs a6 a5.length a7)), (6, (Vi .i64 a4)), (7, (Vi .i64 a2))]) (fun ⟨a8, a5, a4, a2, a9, a6, a7⟩ w' => Hp w [] [rwt eS 9 1 a9 a6 a7 a5] w' ∧ aey fu s_0 b2 a8 a5 a4 a2 = some c1) (fun ⟨a8, a5, a4, a2, a9, a6, a7⟩ => a8) (fu, ([] : List Str), (0 : Int), (0 : Int), none, none, 0) (by exact ⟨(Hp.nilrw hH eS 9 1 none).kp, c8⟩) ?_ (mc krf (mc krf (mc krf (mc (Eq.trans (b := (Vs none 0 0)) krf (aaj lsy)) (mc krf (mc krf rfl))))))))))
 rintro ⟨_ | a8, a5, a4, a2, a9, a6, a7⟩ e2 G ⟨b4, a1⟩
 · exact nzz a1
 rw [aey.eq_2] at a1
 refine cs (sr (wp 4 (nq (cd a1 (fun c9 a1 => ?_) (fun c9 a1 => ?_)))))
 refine ck (qn (cs (ce (sr (wp 2 (gi a1 fun d0 a1 => abi s_0 .i64 a2 underlying9 krf krf d0 (wp 1 ?_)))))))
 refine acx (at_ s_0 a2) b2 krf krf (nq (cd a1 (fun d1 a1 => ?_) (fun d1 a1 => ?_)))
 refine sr (wp 4 (gi a1 fun d2 a1 => alo s_0 .i64 .i64 a4 a2 underlying9 krf krf krf d2 (adr b4 [(str (sub s_0 a4 a2))] 9 (fun b => (Vs (some ⟨b, 0, none⟩) 1 1)) rfl rfl krf fun b5 e3 c2 => gi a1 fun d3 a1 => adm c2 1 a9 a6 (some ⟨b5, 0, none⟩) a7 1 9 1 16 a5 ([sub s_0 a4 a2] : List Str) apr rfl underlying70 (by unfold TI; kernel_rfl) (by decide) (by decide) krf (Eq.trans (b := (Vs (some ⟨b5, 0, none⟩) 1 1)) krf (aaj (by first | rfl | (simp; done) | omega | (simp; omega) | (rw [zah]; omega)))) (c2.rdblk 0 rfl) d3 fun c3 c4 c5 d4 b6 => ?_)))
 replace b6 : Hp w [] [blk b5 [(str (sub s_0 a4 a2))] 9, rwt eS 9 1 c3 c4 c5 (a5 ++ ([sub s_0 a4 a2] : List Str))] d4 := b6
 refine wp 1 (nq (cr (wp 1 (gi a1 fun d5 a1 => aae a2 (1 : Int) krf krf d5 (wp 1 (wl (bn ?_)))))))
 refine qn (cr (wp 1 (gi a1 fun d6 a1 => aae a2 (1 : Int) krf krf d6 (wp 1 (wl (ql ?_))))))
 exact ⟨(a8, a5 ++ ([sub s_0 a4 a2] : List Str), a2 + (1 : Int), a2 + (1 : Int), c3, c4, c5), _, rfl, by kernel_rfl, ⟨(Hp.front b6 1 _ rfl).kp, a1⟩, zad _⟩
 refine ck (bn (qn (cr (wp 1 (gi a1 fun d7 a1 => aae a2 (1 : Int) krf krf d7 (wp 1 (wl (ql ?_))))))))
 exact ⟨(a8, a5, a4, a2 + (1 : Int), a9, a6, a7), _, rfl, by kernel_rfl, ⟨b4.kp, a1⟩, zad _⟩
 refine abq (abp (aby (abr (ql ?_))))
 obtain rfl := oi a1
 exact ⟨((a5, a4), a9, a6, a7), _, rfl, by kernel_rfl, b4.kp, rfl⟩
 rintro ⟨a3, b3, b0, b1⟩ e4 G ⟨d8, rfl⟩
 refine sr (wp 3 (gi hr fun d9 hr => ahd s_0 .i64 a3.2 underlying9 krf krf d9 (adr d8 [(str (zam (zac a3.2) s_0))] 9 (fun b => (Vs (some ⟨b, 0, none⟩) 1 1)) rfl rfl krf fun b7 e5 c6 => gi hr fun e0 hr => adm c6 1 b3 b0 (some ⟨b7, 0, none⟩) b1 1 9 1 16 a3.1 ([zam (zac a3.2) s_0] : List Str) apr rfl underlying70 (by unfold TI; kernel_rfl) (by decide) (by decide) krf (Eq.trans (b := (Vs (some ⟨b7, 0, none⟩) 1 1)) krf (aaj (by first | rfl | (simp; done) | omega | (simp; omega) | (rw [zah]; omega)))) (c6.rdblk 0 rfl) e0 fun c7 b8 b9 e1 c0 => ?_)))
 replace c0 : Hp w [] [blk b7 [(str (zam (zac a3.2) s_0))] 9, rwt eS 9 1 c7 b8 b9 (a3.1 ++ ([zam (zac a3.2) s_0] : List Str))] e1 := c0
 refine wp 1 (nq (ct ?_))
 obtain rfl := oi hr
 refine r_one (Vs b8 ((a3.1 ++ ([zam (zac a3.2) s_0] : List Str)).length) b9) rfl krf ?_
 exact ⟨c7, b8, b9, (by first | rfl | (simp; done) | (simp; omega)), (Hp.front c0 1 _ rfl).kp⟩
theorem ano {fu : Nat} {a1 : UInt8} {w : World} {r : Bool} (hr : aid fu a1 = some r) (hG : Gl w) : CR prog 161 [(bt a1)] w fun v w' => v = (Vb r) ∧ Hp w [] [] w' := by
 have hH := Hp.refl w
 refine enter (k := 9) func161 rfl rfl nbe ?_
 unfold aid at hr
 refine sr (wp 1 (nq (bi hr fun v5 a0 hr => age hH [2] [(2, (Vb v5))] ?_ ?_)))
 refine cr (wp 1 (ajo a1 (48 : UInt8) krf krf (wd a0 (fun h6 a0 => ?_) (fun h6 a0 => ?_))))
 refine wp 1 (gy 5 (ajn a1 (57 : UInt8) krf krf (wp 2 (wl (ql ?_)))))
 obtain rfl := oi a0
 exact je hH.kp
 refine wp 4 (wl (ql ?_))
 obtain rfl := oi a0
 exact je hH.kp
 intro w7 G a2
 refine ct ?_
 obtain rfl := oi hr
 exact rv a2.kp
theorem K_L_ref02_hex {fu : Nat} {a0 : UInt8} {w : World} {r : Int} (hr : apv fu a0 = some r) (hG : Gl w) : CR prog 228 [(bt a0)] w fun v w' => v = (Vi .i64 r) ∧ Hp w [] [] w' := by
 have hH := Hp.refl w
 refine enter (k := 28) func228 rfl rfl nbe ?_
 unfold apv at hr
 refine sr (wp 1 (nq (cs (sr (wp 1 (bi hr fun y1 a6 hr => ?_))))))
 refine wc ent161 hH (ano a6 (hG.hp0 hH)) fun w3 a3 => nq (cb hr (fun h6 hr => ?_) (fun h6 hr => ?_))
 refine sr (wp 1 (w8_sub a0 (48 : UInt8) krf krf (w_convx .i64 .u8 ((a0 - (48 : UInt8)).toNat : Int) underlying5 underlying3 krf (amt _) (wp 1 (nq (ct (st ?_)))))))
 obtain rfl := oi hr
 exact rv a3.kp
 refine ck (qn (cs (bi hr fun a7 a1 hr => age a3 [0, 2, 13] [(13, (Vb a7))] ?_ ?_)))
 refine cr (wp 1 (ajo a0 (65 : UInt8) krf krf (wd a1 (fun a8 a1 => ?_) (fun a8 a1 => ?_))))
 refine wp 1 (gy 10 (ajn a0 (70 : UInt8) krf krf (wp 1 (wl (ql ?_)))))
 obtain rfl := oi a1
 exact je a3.kp
 refine wp 3 (wl (ql ?_))
 obtain rfl := oi a1
 exact je a3.kp
 intro b5 G a4
 refine cb hr (fun a9 hr => ?_) (fun a9 hr => ?_)
 refine sr (wp 1 (w8_sub a0 (65 : UInt8) krf krf (w_convx .i64 .u8 ((a0 - (65 : UInt8)).toNat : Int) underlying5 underlying3 krf (amt _) (gi hr fun b0 hr => aae ((a0 - (65 : UInt8)).toNat : Int) (10 : Int) krf krf b0 (wp 1 (nq ?_))))))
 refine ct (st ?_)
 obtain rfl := oi hr
 exact rv a4.kp
 refine ck (qn (cs (bi hr fun b1 a2 hr => age a4 [0, 2, 23] [(23, (Vb b1))] ?_ ?_)))
 refine cr (wp 1 (ajo a0 (97 : UInt8) krf krf (wd a2 (fun b2 a2 => ?_) (fun b2 a2 => ?_))))
 refine wp 1 (gy 20 (ajn a0 (102 : UInt8) krf krf (wp 1 (wl (ql ?_)))))
 obtain rfl := oi a2
 exact je a4.kp
 refine wp 3 (wl (ql ?_))
 obtain rfl := oi a2
 exact je a4.kp
 intro b6 G a5
 refine cb hr (fun b3 hr => ?_) (fun b3 hr => ?_)
 refine sr (wp 1 (w8_sub a0 (97 : UInt8) krf krf (w_convx .i64 .u8 ((a0 - (97 : UInt8)).toNat : Int) underlying5 underlying3 krf (amt _) (gi hr fun b4 hr => aae ((a0 - (97 : UInt8)).toNat : Int) (10 : Int) krf krf b4 (wp 1 (nq ?_))))))
 refine ct (st ?_)
 obtain rfl := oi hr
 exact rv a5.kp
 refine ck (qn (sr (wp 1 (nq (ct ?_)))))
 obtain rfl := oi hr
 exact rv a5.kp
open Go.Value renaming tuple → zak
open List renaming drop → zam, set → zal
theorem ent94 : Wk.Enters prog 94 := ⟨f94, _, func94, rfl, krf⟩
theorem ent95 : Wk.Enters prog 95 := ⟨f95, _, func95, rfl, krf⟩
theorem ent96 : Wk.Enters prog 96 := ⟨f96, _, func96, rfl, krf⟩
theorem ent97 : Wk.Enters prog 97 := ⟨f97, _, func97, rfl, krf⟩
theorem ent98 : Wk.Enters prog 98 := ⟨f98, _, func98, rfl, krf⟩
theorem ent159 : Wk.Enters prog 159 := ⟨f159, _, func159, rfl, krf⟩
theorem ent160 : Wk.Enters prog 160 := ⟨f160, _, func160, rfl, krf⟩
theorem ent195 : Wk.Enters prog 195 := ⟨f195, _, func195, rfl, krf⟩
theorem ent228 : Wk.Enters prog 228 := ⟨f228, _, func228, rfl, krf⟩
theorem afy {fu : Nat} {s_0 : Str} {w : World} {r : Str} (hr : agx fu s_0 = some r) (hG : Gl w) : CR prog 98 [(str s_0)] w fun v w' => v = (str r) ∧ Hp w [] [] w' := by
 have hH := Hp.refl w
 refine enter (k := 35) func98 rfl rfl nbe ?_
 unfold agx at hr
 refine sr (wp 1 (nq (sr (wp 1 (w_tobytes hH s_0 5 underlying9 underlying85 underlying5 krf fun a1 cap2 w3 b2 => wp 1 ?_)))))
 refine nq (bi hr fun b1 b3 hr => cut (σ := Str) [2, 3] (fun a8 => []) (fun a8 w' => Hp w [] [brow (Vs a1 s_0.length cap2) s_0.length a8] w' ∧ a8 = b1) ?_ ?_)
 refine sr (wp 1 (nq (ce (lpG (σ := Nat × Str × Int) [2, 3, 4] (fun ⟨a6, a2, a0⟩ => [(4, (Vi .i64 a0))]) (fun ⟨a6, a2, a0⟩ w' => Hp w [] [brow (Vs a1 s_0.length cap2) s_0.length a2] w' ∧ agk fu s_0 a6 a2 a0 = some b1) (fun ⟨a6, a2, a0⟩ => a6) (fu, s_0, (0 : Int)) (by exact ⟨b2.kp, b3⟩) ?_))))
 rintro ⟨_ | a6, a2, a0⟩ d0 G ⟨a5, a3⟩
 · exact nzz a3
 rw [agk.eq_2] at a3
 refine cs (sr (wp 4 (nq (cd a3 (fun b4 a3 => ?_) (fun b4 a3 => ?_)))))
 refine ck (qn (cs (ce (bi a3 fun b5 a4 a3 => age a5 [2, 3, 4, 24] [(24, (Vb b5))] ?_ ?_))))
 refine cr (wp 2 (gi a4 fun b6 a4 => ahl a1 s_0.length cap2 5 1 .i64 a0 underlying85 krf krf krf a2 (a5.browlen 0 rfl).symm b6 (Rd.ofbytes (a5.rdbrow 0 rfl)) akh (by decide) (gi a4 fun b7 a4 => apo a1 eB a2 1 a0 akh (Rd.ofbytes (a5.rdbrow 0 rfl)) (bt (at_ a2 a0)) b7 (by decide) krf krf krf (ajo (at_ a2 a0) (65 : UInt8) krf krf (wd a4 (fun b8 a4 => ?_) (fun b8 a4 => ?_))))))
 refine wp 2 (gy 18 (gi a4 fun b9 a4 => ahl a1 s_0.length cap2 5 1 .i64 a0 underlying85 krf krf krf a2 (a5.browlen 0 rfl).symm b9 (Rd.ofbytes (a5.rdbrow 0 rfl)) akh (by decide) (gy 18 (gi a4 fun c0 a4 => apo a1 eB a2 1 a0 akh (Rd.ofbytes (a5.rdbrow 0 rfl)) (bt (at_ a2 a0)) c0 (by decide) krf krf krf (gy 18 (ajn (at_ a2 a0) (90 : UInt8) krf krf (wp 1 ?_)))))))
 refine wl (ql ?_)
 obtain rfl := oi a4
 exact je a5.kp
 refine wp 6 (wl (ql ?_))
 obtain rfl := oi a4
 exact je a5.kp
 intro d1 G a7
 refine cb a3 (fun c1 a3 => ?_) (fun c1 a3 => ?_)
 refine cr (wp 4 (gi a3 fun c2 a3 => ahl a1 s_0.length cap2 5 1 .i64 a0 underlying85 krf krf krf a2 (a7.browlen 0 rfl).symm c2 (Rd.ofbytes (a7.rdbrow 0 rfl)) akh (by decide) (gi a3 fun c3 a3 => apo a1 eB a2 1 a0 akh (Rd.ofbytes (a7.rdbrow 0 rfl)) (bt (at_ a2 a0)) c3 (by decide) krf krf krf (w8_add (at_ a2 a0) (32 : UInt8) krf krf (gi a3 fun c4 a3 => ahl a1 s_0.length cap2 5 1 .i64 a0 underlying85 krf krf krf a2 (a7.browlen 0 rfl).symm c4 (Rd.ofbytes (a7.rdbrow 0 rfl)) akh (by decide) (gi a3 fun c5 a3 => ?_))))))
 refine w_stB a7 0 a1 s_0.length cap2 a0 a2 ((at_ a2 a0) + (32 : UInt8)) rfl c5 krf krf krf fun c6 a9 => ?_
 replace a9 : Hp w [] [brow (Vs a1 s_0.length cap2) s_0.length (zal a2 (zac a0) ((at_ a2 a0) + (32 : UInt8)))] c6 := a9
 refine wl (bn (qn (cr (wp 1 (gi a3 fun c7 a3 => aae a0 (1 : Int) krf krf c7 (wp 1 (wl (ql ?_))))))))
 exact ⟨(a6, zal a2 (zac a0) ((at_ a2 a0) + (32 : UInt8)), a0 + (1 : Int)), _, rfl, by kernel_rfl, ⟨a9.kp, a3⟩, zad _⟩
 refine ck (bn (qn (cr (wp 1 (gi a3 fun c8 a3 => aae a0 (1 : Int) krf krf c8 (wp 1 (wl (ql ?_))))))))
 exact ⟨(a6, a2, a0 + (1 : Int)), _, rfl, by kernel_rfl, ⟨a7.kp, a3⟩, zad _⟩
 refine abq (abp (aby (abr (ql ?_))))
 obtain rfl := oi a3
 exact ⟨a2, _, rfl, by kernel_rfl, a5.kp, rfl⟩
 rintro a8 c9 G ⟨b0, rfl⟩
 refine sr (wp 1 (aes (v := (str a8)) (w' := c9) rfl rfl (apn a8 a1 s_0.length cap2 5 (Rd.bytes (Rd.ofbytes (b0.rdbrow 0 rfl))) (b0.browlen 0 rfl) underlying85 underlying9 underlying5 krf) (wp 1 (nq (ct ?_)))))
 obtain rfl := oi hr
 exact rv b0.kp
theorem K_L_ref02_group {fu : Nat} {s_0 : Str} {w : World} {r : (Str × Bool)} (hr : ani fu s_0 = some r) (hG : Gl w) : CR prog 195 [(str s_0)] w fun v w' => v = (zak #[(str r.1), (Vb r.2)]) ∧ Hp w [] [] w' := by
 have hH := Hp.refl w
 refine enter (k := 36) func195 rfl rfl nbe ?_
 unfold ani at hr
 refine sr (wp 2 (nq (cs (bi hr fun v5 a5 hr => age hH [0, 2, 3, 12] [(12, (Vb v5))] ?_ ?_))))
 refine cr (wp 3 (wd a5 (fun h6 a5 => ?_) (fun h6 a5 => ?_)))
 refine wp 4 (wl (ql ?_))
 obtain rfl := oi a5
 exact je hH.kp
 refine wp 4 (wl (ql ?_))
 obtain rfl := oi a5
 exact je hH.kp
 intro w7 G a6
 refine cb hr (fun h9 hr => ?_) (fun h9 hr => ?_)
 refine sr (wp 2 (nq (ct (st ?_))))
 obtain rfl := oi hr
 exact rv a6.kp
 refine ck (qn (bi hr fun b5 b6 hr => cut1 a6 b5 [0, 2, 3] (fun b7 => []) ?_ ?_))
 refine sr (wp 1 (nq (ce (lpS (fun a9 a3 => agj fu s_0 a9 a3) (0 : Int) a6 b6 [0, 2, 3, 4] (fun a3 => [(4, (Vi .i64 a3))]) (fun _ => rfl) ?_))))
 rintro a9 a3 d2 G a7 a0
 rw [agj.eq_2] at a0
 refine cs (sr (wp 4 (nq (cd a0 (fun b8 a0 => ?_) (fun b8 a0 => ?_)))))
 refine ck (qn (cs (ce (sr (wp 2 (gi a0 fun b9 a0 => abi s_0 .i64 a3 underlying9 krf krf b9 (bi a0 fun d3 c0 a0 => ?_)))))))
 refine wc ent228 a7 (K_L_ref02_hex c0 (hG.hp0 a7)) fun d4 b0 => wp 1 (nq (cd a0 (fun c1 a0 => ?_) (fun c1 a0 => ?_)))
 refine sr (wp 2 (nq (ct (bt_ (st (adg (bt_ ?_)))))))
 refine adg ?_
 obtain rfl := oi a0
 obtain rfl := oi hr
 exact rv b0.kp
 exact ck (bn (qn (cr (wp 1 (gi a0 fun c2 a0 => aae a3 (1 : Int) krf krf c2 (wp 1 (wl (ql (le' (a3 + (1 : Int)) b0.kp a0)))))))))
 refine abq (abp (aby (abr (ql ?_))))
 obtain rfl := oi a0
 exact je1 rfl a7.kp
 rintro b7 d5 G b1 rfl
 refine bi hr fun c3 c4 hr => age b1 [0, 2, 3] [(0, (str c3))] ?_ ?_
 refine ce (lpS (fun b2 a2 => ahj fu b2 a2) s_0 b1 c4 [0, 2, 3] (fun a2 => [(0, (str a2))]) (fun _ => rfl) ?_)
 rintro b2 a2 d6 G a8 a1
 rw [ahj.eq_2] at a1
 refine cs (bi a1 fun c5 a4 a1 => age a8 [0, 2, 3, 31] [(31, (Vb c5))] ?_ ?_)
 refine cr (wp 3 (wd a4 (fun c6 a4 => ?_) (fun c6 a4 => ?_)))
 refine wp 1 (gy 27 (gi a4 fun c7 a4 => abi a2 .i64 (0 : Int) underlying9 krf krf c7 (gy 27 (acx (at_ a2 (0 : Int)) (48 : UInt8) krf krf (wp 1 (wl (ql ?_)))))))
 obtain rfl := oi a4
 exact je a8.kp
 refine wp 4 (wl (ql ?_))
 obtain rfl := oi a4
 exact je a8.kp
 intro d7 G b3
 refine cb a1 (fun c8 a1 => ?_) (fun c8 a1 => ?_)
 refine ck (qn (ce (cr (wp 1 (gi a1 fun c9 a1 => ahd a2 .i64 (1 : Int) underlying9 krf krf c9 (wp 1 (wl (bn ?_))))))))
 exact ql (le' (zam (zac (1 : Int)) a2) b3.kp a1)
 refine abq (abp (aby (abr (ql ?_))))
 obtain rfl := oi a1
 exact je b3.kp
 intro d8 G b4
 refine sr (wp 1 (bi hr fun d9 d0 hr => wc ent98 b4 (afy d0 (hG.hp0 b4)) fun e0 d1 => wp 2 (nq (ct ?_))))
 obtain rfl := oi hr
 exact rv d1.kp
theorem apb {fu : Nat} {s_0 : Str} {w : World} {r : (Str × Int × Bool)} (hr : ajj fu s_0 = some r) (hG : Gl w) : CR prog 159 [(str s_0)] w fun v w' => v = (zak #[(str r.1), (Vi .i64 r.2.1), (Vb r.2.2)]) ∧ Hp w [] [] w' := by
 have hH := Hp.refl w
 refine enter (k := 40) func159 rfl rfl nbe ?_
 unfold ajj at hr
 refine sr (wp 3 (nq (cs (sr (wp 2 (wl ?_))))))
 refine qn (cd hr (fun h1 hr => ?_) (fun h1 hr => ?_))
 refine sr (wp 3 (nq (ct (st ?_))))
 obtain rfl := oi hr
 exact rv hH.kp
 refine ck (qn (sr (wp 1 (bi hr fun y2 b3 hr => aat 95 #[] [(str s_0), (bt (58 : UInt8))] _ ent95 krf krf (K_L_ref02_pieces b3 (hG.hp0 hH)) ?_))))
 rintro _ w4 ⟨o7, a8, cap9, rfl, a7⟩
 have a9 : Hp w [] [rwt eS 9 1 o7 a8 cap9 y2] w4 := Hp.callK (L1 := []) (L2 := []) hH a7; clear a7
 refine wp 1 (nq (sr (wp 1 (nq (bi hr fun b4 b5 hr => cut1 a9 b4 [2, 3, 4, 5, 6] (fun b0 => [(6, (str b0))]) ?_ ?_)))))
 refine sr (wp 1 (nq (ce (lpS (fun b1 ⟨a3, a1⟩ => afq fu y2 b1 a3 a1) (([] : Str), (0 : Int)) a9 b5 [2, 3, 4, 5, 6, 7] (fun ⟨a3, a1⟩ => [(6, (str a3)), (7, (Vi .i64 a1))]) (fun _ => rfl) ?_))))
 rintro b1 ⟨a3, a1⟩ c7 G a4 a0
 dsimp only at a0
 rw [afq.eq_2] at a0
 refine cs (sr (wp 4 (nq (cd a0 (fun b6 a0 => ?_) (fun b6 a0 => ?_)))))
 refine ck (qn (cs (ce (sr (wp 2 (gi a0 fun b7 a0 => ahl a8 y2.length cap9 9 1 .i64 a1 underlying70 krf krf krf y2 rfl b7 (a4.rdrw 0 rfl) apr (by decide) (gi a0 fun b8 a0 => ?_)))))))
 refine apo a8 eS y2 1 a1 apr (a4.rdrw 0 rfl) (str (el y2 a1)) b8 (by decide) krf krf krf (bi a0 fun b2 b9 a0 => wc ent195 a4 (K_L_ref02_group b9 (hG.hp0 a4)) fun c8 a5 => wp 5 (nq (cs (sr (wp 2 ?_)))))
 refine nq (cb a0 (fun c0 a0 => ?_) (fun c0 a0 => ?_))
 refine sr (wp 3 (nq (ct (st (bt_ (st (adg ?_)))))))
 refine bt_ (adg ?_)
 obtain rfl := oi a0
 obtain rfl := oi hr
 exact rv a5.kp
 refine ck (qn (bi a0 fun a6 a2 a0 => age a5 [2, 3, 4, 5, 6, 7, 8] [(6, (str a6))] ?_ ?_))
 refine sr (wp 2 (nq (cd a2 (fun c1 a2 => ?_) (fun c1 a2 => ?_))))
 refine cr (wp 1 (gi a2 fun c2 a2 => adf a3 ([58] : Str) krf krf c2 (wp 1 (wl (ql ?_)))))
 obtain rfl := oi a2
 exact je a5.kp
 refine ck (ql ?_)
 obtain rfl := oi a2
 exact je a5.kp
 intro c9 G c3
 refine cr (wp 2 (gi a0 fun c4 a0 => adf a6 b2.1 krf krf c4 (wp 1 (wl (bn (qn (cr (wp 1 ?_))))))))
 exact gi a0 fun c5 a0 => aae a1 (1 : Int) krf krf c5 (wp 1 (wl (ql (le' (a6 ++ b2.1, a1 + (1 : Int)) c3.kp a0))))
 refine abq (abp (aby (abr (ql ?_))))
 obtain rfl := oi a0
 exact je1 rfl a4.kp
 rintro b0 d0 G c6 rfl
 refine sr (wp 6 (nq (ct ?_)))
 obtain rfl := oi hr
 exact rv c6.kp
theorem K_L_ref02_six {fu : Nat} {s_0 : Str} {w : World} {r : (Str × Bool)} (hr : apu fu s_0 = some r) (hG : Gl w) : CR prog 94 [(str s_0)] w fun v w' => v = (zak #[(str r.1), (Vb r.2)]) ∧ Hp w [] [] w' := by
 have hH := Hp.refl w
 refine enter (k := 77) func94 rfl rfl nbe ?_
 unfold apu at hr
 refine sr (wp 2 (nq (bi hr fun b5 b6 hr => cut1 hH b5 [0, 2, 3] (fun b7 => []) ?_ ?_)))
 refine sr (wp 1 (nq (ce (lpS (fun b0 a1 => agv fu s_0 b0 a1) (0 : Int) hH b6 [0, 2, 3, 4] (fun a1 => [(4, (Vi .i64 a1))]) (fun _ => rfl) ?_))))
 rintro b0 a1 e4 G a5 a0
 rw [agv.eq_2] at a0
 refine cs (sr (wp 1 (gi a0 fun b8 a0 => aae a1 (1 : Int) krf krf b8 (wp 3 (nq (cd a0 (fun b9 a0 => ?_) (fun b9 a0 => ?_)))))))
 refine ck (qn (cs (ce (cs (bi a0 fun c0 a2 a0 => age a5 [0, 2, 3, 4, 31] [(31, (Vb c0))] ?_ ?_)))))
 refine cr (wp 2 (gi a2 fun c1 a2 => abi s_0 .i64 a1 underlying9 krf krf c1 (afp (at_ s_0 a1) (58 : UInt8) krf krf (wn a2 (fun c2 a2 => ?_) (fun c2 a2 => ?_)))))
 refine wp 6 (wl (ql ?_))
 obtain rfl := oi a2
 exact je a5.kp
 refine wp 2 (gy 25 (gi a2 fun c3 a2 => aae a1 (1 : Int) krf krf c3 (gy 25 (gi a2 fun c4 a2 => abi s_0 .i64 (a1 + (1 : Int)) underlying9 krf krf c4 (gy 25 (afp (at_ s_0 (a1 + (1 : Int))) (58 : UInt8) krf krf (wp 1 ?_)))))))
 refine wl (ql ?_)
 obtain rfl := oi a2
 exact je a5.kp
 intro e5 G a7
 refine cb a0 (fun c5 a0 => ?_) (fun c5 a0 => ?_)
 refine abq (abp (abr (qn (cr (wp 1 (gi a0 fun c6 a0 => aae a1 (1 : Int) krf krf c6 (wp 1 (wl ?_))))))))
 exact ql (le' (a1 + (1 : Int)) a7.kp a0)
 refine ck (qn (sr (wp 2 (gi a0 fun c7 a0 => amw s_0 .i64 a1 underlying9 krf krf c7 (bi a0 fun a8 c8 a0 => wc ent159 a7 (apb c8 (hG.hp0 a7)) fun e6 b1 => wp 7 ?_)))))
 refine nq (sr (wp 2 (gi a0 fun c9 a0 => aae a1 (2 : Int) krf krf c9 (gi a0 fun d0 a0 => ahd s_0 .i64 (a1 + (2 : Int)) underlying9 krf krf d0 (bi a0 fun b2 d1 a0 => ?_)))))
 refine wc ent159 b1 (apb d1 (hG.hp0 b1)) fun e7 a6 => wp 7 (nq (cs (bi a0 fun d2 a3 a0 => age a6 [0, 2, 3, 4, 5, 8, 60] [(60, (Vb d2))] ?_ ?_)))
 refine cr (wp 2 (wb a3 (fun d3 a3 => ?_) (fun d3 a3 => ?_)))
 refine wp 9 (wl (ql ?_))
 obtain rfl := oi a3
 exact je a6.kp
 refine wp 3 (wb a3 (fun d4 a3 => ?_) (fun d4 a3 => ?_))
 refine wp 5 (wl (ql ?_))
 obtain rfl := oi a3
 exact je a6.kp
 refine wp 2 (gy 55 (gi a3 fun d5 a3 => aae a8.2.1 b2.2.1 krf krf d5 (wp 2 (wl (ql ?_)))))
 obtain rfl := oi a3
 exact je a6.kp
 intro e8 G b3
 refine cb a0 (fun d6 a0 => ?_) (fun d6 a0 => ?_)
 refine sr (wp 2 (nq (ct (st (bt_ (st (adg ?_)))))))
 refine bt_ (adg ?_)
 obtain rfl := oi a0
 obtain rfl := oi hr
 exact rv b3.kp
 refine ck (qn (sr (wp 1 (gi a0 fun d7 a0 => adf a8.1 ([58, 58] : Str) krf krf d7 (wp 1 (gi a0 fun d8 a0 => adf (a8.1 ++ ([58, 58] : Str)) b2.1 krf krf d8 ?_))))))
 refine wp 2 (nq (ct (bt_ (st (adg (bt_ (adg ?_)))))))
 obtain rfl := oi a0
 obtain rfl := oi hr
 exact rv b3.kp
 refine abq (abp (aby (abr (ql ?_))))
 obtain rfl := oi a0
 exact je1 rfl a5.kp
 rintro b7 e9 G b4 rfl
 refine sr (wp 1 (bi hr fun d9 e0 hr => wc ent159 b4 (apb e0 (hG.hp0 b4)) fun f0 a9 => wp 7 (nq (bi hr fun e1 a4 hr => age a9 [2, 3] [(2, (str d9.1)), (3, (Vb e1))] ?_ ?_))))
 refine cr (wp 2 (wb a4 (fun e2 a4 => ?_) (fun e2 a4 => ?_)))
 refine wp 5 (wl (ql ?_))
 obtain rfl := oi a4
 exact je a9.kp
 refine wp 5 (wl (ql ?_))
 obtain rfl := oi a4
 exact je a9.kp
 intro f1 G e3
 refine ct ?_
 obtain rfl := oi hr
 exact rv e3.kp
theorem K_L_ref02_letter {fu : Nat} {a1 : UInt8} {w : World} {r : Bool} (hr : amm fu a1 = some r) (hG : Gl w) : CR prog 160 [(bt a1)] w fun v w' => v = (Vb r) ∧ Hp w [] [] w' := by
 have hH := Hp.refl w
 refine enter (k := 17) func160 rfl rfl nbe ?_
 unfold amm at hr
 refine sr (wp 1 (nq (bi hr fun v8 a0 hr => age hH [2] [(2, (Vb v8))] ?_ ?_)))
 refine cr (wp 1 (ajo a1 (65 : UInt8) krf krf (wd a0 (fun h9 a0 => ?_) (fun h9 a0 => ?_))))
 refine wp 1 (gy 5 (ajn a1 (90 : UInt8) krf krf (wp 1 (wd a0 (fun a2 a0 => ?_) (fun a2 a0 => ?_)))))
 refine wp 8 (wl (ql ?_))
 obtain rfl := oi a0
 exact je hH.kp
 refine wp 1 (gy 9 (ajo a1 (97 : UInt8) krf krf (gy 9 (wd a0 (fun a3 a0 => ?_) (fun a3 a0 => ?_)))))
 refine wp 1 (gy 12 (ajn a1 (122 : UInt8) krf krf (wp 3 (wl (ql ?_)))))
 obtain rfl := oi a0
 exact je hH.kp
 refine wp 5 (wl (ql ?_))
 obtain rfl := oi a0
 exact je hH.kp
 refine wp 5 (gy 9 (ajo a1 (97 : UInt8) krf krf (gy 9 (wd a0 (fun a4 a0 => ?_) (fun a4 a0 => ?_)))))
 refine wp 1 (gy 12 (ajn a1 (122 : UInt8) krf krf (wp 3 (wl (ql ?_)))))
 obtain rfl := oi a0
 exact je hH.kp
 refine wp 5 (wl (ql ?_))
 obtain rfl := oi a0
 exact je hH.kp
 intro a6 G a5
 refine ct ?_
 obtain rfl := oi hr
 exact rv a5.kp
theorem K_L_ref02_label {fu : Nat} {s_0 : Str} {w : World} {r : (Bool × Bool)} (hr : anh fu s_0 = some r) (hG : Gl w) : CR prog 96 [(str s_0)] w fun v w' => v = (zak #[(Vb r.1), (Vb r.2)]) ∧ Hp w [] [] w' := by
 have hH := Hp.refl w
 refine enter (k := 60) func96 rfl rfl nbe ?_
 unfold anh at hr
 refine sr (wp 2 (nq (cs (bi hr fun b2 a1 hr => age hH [0, 2, 3, 26] [(26, (Vb b2))] ?_ ?_))))
 refine cr (wp 3 (wd a1 (fun b3 a1 => ?_) (fun b3 a1 => ?_)))
 refine wp 17 (wl (ql ?_))
 obtain rfl := oi a1
 exact je hH.kp
 refine wp 4 (wd a1 (fun b4 a1 => ?_) (fun b4 a1 => ?_))
 refine wp 12 (wl (ql ?_))
 obtain rfl := oi a1
 exact je hH.kp
 refine wp 1 (gy 14 (gi a1 fun b5 a1 => abi s_0 .i64 (0 : Int) underlying9 krf krf b5 (gy 14 (acx (at_ s_0 (0 : Int)) (45 : UInt8) krf krf (wp 1 (wd a1 (fun b6 a1 => ?_) (fun b6 a1 => ?_)))))))
 refine wp 7 (wl (ql ?_))
 obtain rfl := oi a1
 exact je hH.kp
 refine wp 3 (gy 19 (gi a1 fun b7 a1 => adk (s_0.length : Int) (1 : Int) krf krf b7 (gy 19 (gi a1 fun b8 a1 => abi s_0 .i64 ((s_0.length : Int) - (1 : Int)) underlying9 krf krf b8 (gy 19 (acx (at_ s_0 ((s_0.length : Int) - (1 : Int))) (45 : UInt8) krf krf (wp 1 ?_)))))))
 refine wl (ql ?_)
 obtain rfl := oi a1
 exact je hH.kp
 intro e0 G a7
 refine cb hr (fun b9 hr => ?_) (fun b9 hr => ?_)
 refine sr (wp 2 (nq (ct (st ?_))))
 obtain rfl := oi hr
 exact rv a7.kp
 refine ck (qn (sr (wp 1 (nq (bi hr fun c0 c1 hr => cut1 a7 c0 [2, 3, 4] (fun a9 => [(4, (Vb a9))]) ?_ ?_)))))
 refine sr (wp 1 (nq (ce (lpS (fun b0 ⟨a4, a3⟩ => adt fu s_0 b0 a4 a3) (false, (0 : Int)) a7 c1 [0, 2, 3, 4, 5] (fun ⟨a4, a3⟩ => [(4, (Vb a4)), (5, (Vi .i64 a3))]) (fun _ => rfl) ?_))))
 rintro b0 ⟨a4, a3⟩ e1 G a5 a0
 dsimp only at a0
 rw [adt.eq_2] at a0
 refine cs (sr (wp 4 (nq (cd a0 (fun c2 a0 => ?_) (fun c2 a0 => ?_)))))
 refine ck (qn (cs (ce (cs (bi a0 fun c3 a2 a0 => age a5 [0, 2, 3, 4, 5, 50] [(50, (Vb c3))] ?_ ?_)))))
 refine cr (wp 2 (gi a2 fun c4 a2 => abi s_0 .i64 a3 underlying9 krf krf c4 (bi a2 fun e2 c5 a2 => wc ent160 a5 (K_L_ref02_letter c5 (hG.hp0 a5)) fun e3 a8 => wp 1 (wb a2 (fun c6 a2 => ?_) (fun c6 a2 => ?_)))))
 refine wp 2 (gy 38 (gi a2 fun c7 a2 => abi s_0 .i64 a3 underlying9 krf krf c7 (gy 38 (bi a2 fun e4 c8 a2 => wc ent161 a8 (ano c8 (hG.hp0 a8)) fun e5 b1 => wp 2 (wb a2 (fun c9 a2 => ?_) (fun c9 a2 => ?_))))))
 refine wp 2 (gy 45 (gi a2 fun d0 a2 => abi s_0 .i64 a3 underlying9 krf krf d0 (gy 45 (afp (at_ s_0 a3) (45 : UInt8) krf krf (wp 1 (wl (ql ?_)))))))
 obtain rfl := oi a2
 exact je b1.kp
 refine wp 5 (wl (ql ?_))
 obtain rfl := oi a2
 exact je b1.kp
 refine wp 12 (wl (ql ?_))
 obtain rfl := oi a2
 exact je a8.kp
 intro e6 G a6
 refine cb a0 (fun d1 a0 => ?_) (fun d1 a0 => ?_)
 refine sr (wp 2 (nq (ct (st (bt_ (st (adg ?_)))))))
 refine bt_ (adg ?_)
 obtain rfl := oi a0
 obtain rfl := oi hr
 exact rv a6.kp
 refine ck (qn (cr (wp 1 (wb a0 (fun d2 a0 => ?_) (fun d2 a0 => ?_)))))
 refine wp 7 (wl (bn (qn (cr (wp 1 (gi a0 fun d3 a0 => aae a3 (1 : Int) krf krf d3 (wp 1 (wl ?_))))))))
 exact ql (le' (true, a3 + (1 : Int)) a6.kp a0)
 refine wp 2 (gy 52 (gi a0 fun d4 a0 => abi s_0 .i64 a3 underlying9 krf krf d4 (gy 52 (bi a0 fun d5 d6 a0 => wc ent161 a6 (ano d6 (hG.hp0 a6)) fun e7 d7 => wp 3 (wl (bn ?_))))))
 exact qn (cr (wp 1 (gi a0 fun d8 a0 => aae a3 (1 : Int) krf krf d8 (wp 1 (wl (ql (le' ((!d5), a3 + (1 : Int)) d7.kp a0)))))))
 refine abq (abp (aby (abr (ql ?_))))
 obtain rfl := oi a0
 exact je1 rfl a5.kp
 rintro a9 e8 G d9 rfl
 refine sr (wp 3 (nq (ct ?_)))
 obtain rfl := oi hr
 exact rv d9.kp
theorem K_L_ref02_number {fu : Nat} {s_0 : Str} {w : World} {r : Bool} (hr : aml fu s_0 = some r) (hG : Gl w) : CR prog 97 [(str s_0)] w fun v w' => v = (Vb r) ∧ Hp w [] [] w' := by
 have hH := Hp.refl w
 refine enter (k := 44) func97 rfl rfl nbe ?_
 unfold aml at hr
 refine sr (wp 1 (nq (cs (bi hr fun v8 a1 hr => age hH [0, 2, 22] [(22, (Vb v8))] ?_ ?_))))
 refine cr (wp 3 (wd a1 (fun h9 a1 => ?_) (fun h9 a1 => ?_)))
 refine wp 14 (wl (ql ?_))
 obtain rfl := oi a1
 exact je hH.kp
 refine wp 4 (wd a1 (fun a9 a1 => ?_) (fun a9 a1 => ?_))
 refine wp 9 (wl (ql ?_))
 obtain rfl := oi a1
 exact je hH.kp
 refine wp 3 (gy 13 (wd a1 (fun b0 a1 => ?_) (fun b0 a1 => ?_)))
 refine wp 1 (gy 17 (gi a1 fun b1 a1 => abi s_0 .i64 (0 : Int) underlying9 krf krf b1 (gy 17 (acx (at_ s_0 (0 : Int)) (48 : UInt8) krf krf (wp 2 (wl (ql ?_)))))))
 obtain rfl := oi a1
 exact je hH.kp
 refine wp 5 (wl (ql ?_))
 obtain rfl := oi a1
 exact je hH.kp
 intro c4 G a4
 refine cb hr (fun b2 hr => ?_) (fun b2 hr => ?_)
 refine sr (wp 1 (nq (ct (st ?_))))
 obtain rfl := oi hr
 exact rv a4.kp
 refine ck (qn (sr (wp 1 (nq (bi hr fun b3 b4 hr => cut1 a4 b3 [2, 3] (fun a6 => [(3, (Vi .i64 a6))]) ?_ ?_)))))
 refine sr (wp 1 (nq (ce (lpS (fun a7 ⟨a3, a2⟩ => aez fu s_0 a7 a3 a2) ((0 : Int), (0 : Int)) a4 b4 [0, 2, 3, 4] (fun ⟨a3, a2⟩ => [(3, (Vi .i64 a3)), (4, (Vi .i64 a2))]) (fun _ => rfl) ?_))))
 rintro a7 ⟨a3, a2⟩ c5 G a5 a0
 dsimp only at a0
 rw [aez.eq_2] at a0
 refine cs (sr (wp 4 (nq (cd a0 (fun b5 a0 => ?_) (fun b5 a0 => ?_)))))
 refine ck (qn (cs (ce (cs (sr (wp 2 (gi a0 fun b6 a0 => abi s_0 .i64 a2 underlying9 krf krf b6 ?_)))))))
 refine bi a0 fun c6 b7 a0 => wc ent161 a5 (ano b7 (hG.hp0 a5)) fun c7 a8 => wp 1 (nq (cb a0 (fun b8 a0 => ?_) (fun b8 a0 => ?_)))
 refine sr (wp 1 (nq (ct (st (bt_ (st (adg ?_)))))))
 refine bt_ (adg ?_)
 obtain rfl := oi a0
 obtain rfl := oi hr
 exact rv a8.kp
 refine ck (qn (cr (wp 1 (gi a0 fun b9 a0 => aou (10 : Int) a3 krf krf b9 (wp 2 (gi a0 fun c0 a0 => abi s_0 .i64 a2 underlying9 krf krf c0 (w8_sub (at_ s_0 a2) (48 : UInt8) krf krf ?_)))))))
 refine w_convx .i64 .u8 (((at_ s_0 a2) - (48 : UInt8)).toNat : Int) underlying5 underlying3 krf (amt _) (gi a0 fun c1 a0 => aae ((10 : Int) * a3) (((at_ s_0 a2) - (48 : UInt8)).toNat : Int) krf krf c1 (wp 1 (wl (bn (qn (cr (wp 1 (gi a0 fun c2 a0 => ?_))))))))
 exact aae a2 (1 : Int) krf krf c2 (wp 1 (wl (ql (le' (((10 : Int) * a3) + (((at_ s_0 a2) - (48 : UInt8)).toNat : Int), a2 + (1 : Int)) a8.kp a0))))
 refine abq (abp (aby (abr (ql ?_))))
 obtain rfl := oi a0
 exact je1 rfl a5.kp
 rintro a6 c8 G c3 rfl
 refine sr (wp 3 (nq (ct ?_)))
 obtain rfl := oi hr
 exact rv c3.kp
theorem aom {fu : Nat} {s_0 : Str} {w : World} {r : (Str × Bool)} (hr : ake fu s_0 = some r) (hG : Gl w) : CR prog 43 [(str s_0)] w fun v w' => v = (zak #[(str r.1), (Vb r.2)]) ∧ Hp w [] [] w' := by
 have hH := Hp.refl w
 refine enter (k := 87) func43 rfl rfl nbe ?_
 unfold ake at hr
 refine sr (wp 2 (nq (sr (wp 3 (nq ?_)))))
 refine cs (bi hr fun v9 a1 hr => age hH [0, 2, 3, 4, 28] [(28, (Vb v9))] ?_ ?_)
 refine cr (wp 2 (wd a1 (fun c2 a1 => ?_) (fun c2 a1 => ?_)))
 refine wp 1 (gy 17 (gi a1 fun c3 a1 => abi s_0 .i64 (0 : Int) underlying9 krf krf c3 (gy 17 (acx (at_ s_0 (0 : Int)) (91 : UInt8) krf krf (wp 1 (wd a1 (fun c4 a1 => ?_) (fun c4 a1 => ?_)))))))
 refine wp 2 (gy 22 (gi a1 fun c5 a1 => adk (s_0.length : Int) (1 : Int) krf krf c5 (gy 22 (gi a1 fun c6 a1 => abi s_0 .i64 ((s_0.length : Int) - (1 : Int)) underlying9 krf krf c6 (gy 22 (acx (at_ s_0 ((s_0.length : Int) - (1 : Int))) (93 : UInt8) krf krf (wp 1 ?_)))))))
 refine wl (ql ?_)
 obtain rfl := oi a1
 exact je hH.kp
 refine wp 6 (wl (ql ?_))
 obtain rfl := oi a1
 exact je hH.kp
 refine wp 11 (wl (ql ?_))
 obtain rfl := oi a1
 exact je hH.kp
 intro g0 G b2
 refine cb hr (fun c7 hr => ?_) (fun c7 hr => ?_)
 refine sr (wp 2 (gi hr fun c8 hr => adk (s_0.length : Int) (1 : Int) krf krf c8 (gi hr fun c9 hr => alo s_0 .i64 .i64 (1 : Int) ((s_0.length : Int) - (1 : Int)) underlying9 krf krf krf c9 (bi hr fun b8 d0 hr => wc ent94 b2 (K_L_ref02_six d0 (hG.hp0 b2)) fun g1 b9 => wp 5 ?_))))
 refine nq (cs (sr (wp 2 (nq (cb hr (fun d1 hr => ?_) (fun d1 hr => ?_))))))
 refine sr (wp 2 (nq (ct (st (st ?_)))))
 obtain rfl := oi hr
 exact rv b9.kp
 refine ck (qn (sr (wp 1 (gi hr fun d2 hr => adf ([91] : Str) b8.1 krf krf d2 (gi hr fun d3 hr => adf (([91] : Str) ++ b8.1) ([93] : Str) krf krf d3 (wp 2 ?_))))))
 refine nq (ct (st ?_))
 obtain rfl := oi hr
 exact rv b9.kp
 refine ck (qn (sr (wp 1 (bi hr fun a3 d4 hr => aat 95 #[] [(str s_0), (bt (46 : UInt8))] _ ent95 krf krf (K_L_ref02_pieces d4 (hG.hp0 b2)) ?_))))
 rintro _ d5 ⟨d6, a5, b5, rfl, c0⟩
 have d7 : Hp w [] [rwt eS 9 1 d6 a5 b5 a3] d5 := Hp.callK (L1 := []) (L2 := []) b2 c0; clear c0
 refine wp 1 (nq (sr (wp 5 (nq (bi hr fun d8 d9 hr => cut (σ := (Bool × Bool)) [0, 2, 3, 4, 8, 9] (fun a6 => [(8, (Vb a6.1)), (9, (Vb a6.2))]) (fun a6 w' => Hp w [] [] w' ∧ .inl a6 = d8) ?_ ?_)))))
 refine sr (wp 1 (nq (ce (lpS (fun c1 ⟨a7, a8, a2⟩ => agb fu a3 c1 a7 a8 a2) ((decide ((a3.length : Int) = (4 : Int))), false, (0 : Int)) d7 d9 [0, 2, 3, 4, 7, 8, 9, 10] (fun ⟨a7, a8, a2⟩ => [(8, (Vb a7)), (9, (Vb a8)), (10, (Vi .i64 a2))]) (fun _ => rfl) ?_))))
 rintro c1 ⟨a7, a8, a2⟩ g2 G a9 a0
 dsimp only at a0
 rw [agb.eq_2] at a0
 refine cs (sr (wp 4 (nq (cd a0 (fun e0 a0 => ?_) (fun e0 a0 => ?_)))))
 refine ck (qn (cs (ce (sr (wp 2 (gi a0 fun e1 a0 => ahl a5 a3.length b5 9 1 .i64 a2 underlying70 krf krf krf a3 rfl e1 (a9.rdrw 0 rfl) apr (by decide) (gi a0 fun e2 a0 => ?_)))))))
 refine apo a5 eS a3 1 a2 apr (a9.rdrw 0 rfl) (str (el a3 a2)) e2 (by decide) krf krf krf (bi a0 fun g3 e3 a0 => wc ent96 a9 (K_L_ref02_label e3 (hG.hp0 a9)) fun g4 b3 => wp 5 (nq (cs (sr (wp 2 ?_)))))
 refine nq (cb a0 (fun e4 a0 => ?_) (fun e4 a0 => ?_))
 refine sr (wp 2 (nq (ct (st (bt_ (st (adg ?_)))))))
 refine bt_ (adg ?_)
 obtain rfl := oi a0
 obtain rfl := oi hr
 exact rv b3.kp
 refine ck (qn (bi a0 fun b6 b0 a0 => age b3 [0, 2, 3, 4, 7, 8, 9, 10] [(9, (Vb b6))] ?_ ?_))
 refine cr (wp 1 (wb b0 (fun e5 b0 => ?_) (fun e5 b0 => ?_)))
 refine wp 3 (wl (ql ?_))
 obtain rfl := oi b0
 exact je b3.kp
 refine wp 3 (wl (ql ?_))
 obtain rfl := oi b0
 exact je b3.kp
 intro g5 G b1
 refine cr (wp 1 (wb a0 (fun e6 a0 => ?_) (fun e6 a0 => ?_)))
 refine wp 2 (gy 68 (gi a0 fun e7 a0 => ahl a5 a3.length b5 9 1 .i64 a2 underlying70 krf krf krf a3 rfl e7 (b1.rdrw 0 rfl) apr (by decide) (gy 68 (gi a0 fun e8 a0 => apo a5 eS a3 1 a2 apr (b1.rdrw 0 rfl) (str (el a3 a2)) e8 (by decide) krf krf krf (gy 68 (bi a0 fun e9 f0 a0 => wc ent97 b1 (K_L_ref02_number f0 (hG.hp0 b1)) fun g6 f1 => ?_))))))
 refine wp 2 (wl (bn (qn (cr (wp 1 (gi a0 fun f2 a0 => aae a2 (1 : Int) krf krf f2 (wp 1 (wl ?_))))))))
 exact ql (le' (e9, b6, a2 + (1 : Int)) f1.kp a0)
 refine wp 7 (wl (bn (qn (cr (wp 1 (gi a0 fun f3 a0 => aae a2 (1 : Int) krf krf f3 (wp 1 (wl ?_))))))))
 exact ql (le' (false, b6, a2 + (1 : Int)) b1.kp a0)
 refine abq (abp (aby (abr (ql ?_))))
 obtain rfl := oi a0
 exact ⟨(a7, a8), _, rfl, by kernel_rfl, a9.kp, rfl⟩
 rintro a6 g7 G ⟨b4, rfl⟩
 refine cs (bi hr fun f4 a4 hr => age b4 [0, 2, 3, 84] [(84, (Vb f4))] ?_ ?_)
 refine cr (wp 2 (wd a4 (fun f5 a4 => ?_) (fun f5 a4 => ?_)))
 refine wp 7 (wl (ql ?_))
 obtain rfl := oi a4
 exact je b4.kp
 refine wp 2 (gy 77 (wb a4 (fun f6 a4 => ?_) (fun f6 a4 => ?_)))
 refine wp 4 (wl (ql ?_))
 obtain rfl := oi a4
 exact je b4.kp
 refine wp 4 (wl (ql ?_))
 obtain rfl := oi a4
 exact je b4.kp
 intro g8 G b7
 refine cb hr (fun f7 hr => ?_) (fun f7 hr => ?_)
 refine sr (wp 2 (nq (ct (st ?_))))
 obtain rfl := oi hr
 exact rv b7.kp
 refine ck (qn (sr (wp 1 (bi hr fun g9 f8 hr => wc ent98 b7 (afy f8 (hG.hp0 b7)) fun h0 f9 => wp 2 (nq ?_)))))
 refine ct ?_
 obtain rfl := oi hr
 exact rv f9.kp
open List renaming flatMap → zai, length_take → zah
theorem ent39 : Wk.Enters prog 39 := ⟨f39, _, func39, rfl, krf⟩
theorem ent43 : Wk.Enters prog 43 := ⟨f43, _, func43, rfl, krf⟩
theorem ent99 : Wk.Enters prog 99 := ⟨f99, _, func99, rfl, krf⟩
theorem ent162 : Wk.Enters prog 162 := ⟨f162, _, func162, rfl, krf⟩
theorem ent170 : Wk.Enters prog 170 := ⟨f170, _, func170, rfl, krf⟩
theorem ent196 : Wk.Enters prog 196 := ⟨f196, _, func196, rfl, krf⟩
theorem ent197 : Wk.Enters prog 197 := ⟨f197, _, func197, rfl, krf⟩
theorem K_L_ref01_Number {fu : Nat} {s_0 : Str} {w : World} {r : (Int × UInt8)} (hr : amo fu s_0 = some r) (hG : Gl w) : CR prog 99 [(str s_0)] w fun v w' => v = (zak #[(Vi .i64 r.1), (bt r.2)]) ∧ Hp w [] [] w' := by
 have hH := Hp.refl w
 refine enter (k := 39) func99 rfl rfl nbe ?_
 unfold amo at hr
 refine sr (wp 2 (nq (sr (wp 1 (nq ?_)))))
 refine bi hr fun a9 b0 hr => cut1 hH a9 [0, 2, 3, 4] (fun a6 => [(4, (Vi .i64 a6))]) ?_ ?_
 refine sr (wp 1 (nq (ce (lpS (fun a7 ⟨a3, a1⟩ => afa fu s_0 a7 a3 a1) ((0 : Int), (0 : Int)) hH b0 [0, 2, 3, 4, 5] (fun ⟨a3, a1⟩ => [(4, (Vi .i64 a3)), (5, (Vi .i64 a1))]) (fun _ => rfl) ?_))))
 rintro a7 ⟨a3, a1⟩ c4 G a4 a0
 dsimp only at a0
 rw [afa.eq_2] at a0
 refine cs (sr (wp 4 (nq (cd a0 (fun b1 a0 => ?_) (fun b1 a0 => ?_)))))
 refine ck (qn (cs (ce (cs (bi a0 fun b2 a2 a0 => age a4 [0, 2, 3, 4, 5, 25] [(25, (Vb b2))] ?_ ?_)))))
 refine cr (wp 2 (gi a2 fun b3 a2 => abi s_0 .i64 a1 underlying9 krf krf b3 (w8_lss (at_ s_0 a1) (48 : UInt8) krf krf (wd a2 (fun b4 a2 => ?_) (fun b4 a2 => ?_)))))
 refine wp 9 (wl (ql ?_))
 obtain rfl := oi a2
 exact je a4.kp
 refine wp 2 (gy 16 (gi a2 fun b5 a2 => abi s_0 .i64 a1 underlying9 krf krf b5 (gy 16 (w8_gtr (at_ s_0 a1) (57 : UInt8) krf krf (wp 1 (wd a2 (fun b6 a2 => ?_) (fun b6 a2 => ?_)))))))
 refine wp 3 (wl (ql ?_))
 obtain rfl := oi a2
 exact je a4.kp
 refine wp 3 (wl (ql ?_))
 obtain rfl := oi a2
 exact je a4.kp
 intro c5 G a8
 refine cb a0 (fun b7 a0 => ?_) (fun b7 a0 => ?_)
 refine sr (wp 2 (nq (ct (st (bt_ (st (adg ?_)))))))
 refine bt_ (adg ?_)
 obtain rfl := oi a0
 obtain rfl := oi hr
 exact rv a8.kp
 refine ck (qn (cr (wp 1 (gi a0 fun b8 a0 => aou (10 : Int) a3 krf krf b8 (wp 2 (gi a0 fun b9 a0 => abi s_0 .i64 a1 underlying9 krf krf b9 (w8_sub (at_ s_0 a1) (48 : UInt8) krf krf ?_)))))))
 refine w_convx .i64 .u8 (((at_ s_0 a1) - (48 : UInt8)).toNat : Int) underlying5 underlying3 krf (amt _) (gi a0 fun c0 a0 => aae ((10 : Int) * a3) (((at_ s_0 a1) - (48 : UInt8)).toNat : Int) krf krf c0 (wp 1 (wl (bn (qn (cr (wp 1 (gi a0 fun c1 a0 => ?_))))))))
 exact aae a1 (1 : Int) krf krf c1 (wp 1 (wl (ql (le' (((10 : Int) * a3) + (((at_ s_0 a1) - (48 : UInt8)).toNat : Int), a1 + (1 : Int)) a8.kp a0))))
 refine abq (abp (aby (abr (ql ?_))))
 obtain rfl := oi a0
 exact je1 rfl a4.kp
 rintro a6 c6 G a5 rfl
 refine cs (sr (wp 2 (nq (cd hr (fun c2 hr => ?_) (fun c2 hr => ?_)))))
 refine sr (wp 2 (nq (ct (st ?_))))
 obtain rfl := oi hr
 exact rv a5.kp
 refine ck (qn (cs (sr (wp 2 (nq (cd hr (fun c3 hr => ?_) (fun c3 hr => ?_)))))))
 refine sr (wp 2 (nq (ct (st ?_))))
 obtain rfl := oi hr
 exact rv a5.kp
 refine ck (qn (sr (wp 3 (nq (ct ?_)))))
 obtain rfl := oi hr
 exact rv a5.kp
theorem K_L_ref03_port {fu : Nat} {s_0 : Str} {w : World} {r : (Int × UInt8)} (hr : aoq fu s_0 = some r) (hG : Gl w) : CR prog 44 [(str s_0)] w fun v w' => v = (zak #[(Vi .i64 r.1), (bt r.2)]) ∧ Hp w [] [] w' := by
 have hH := Hp.refl w
 refine enter (k := 23) func44 rfl rfl nbe ?_
 unfold aoq at hr
 refine sr (wp 2 (nq (sr (wp 1 (bi hr fun y1 a3 hr => wc ent99 hH (K_L_ref01_Number a3 (hG.hp0 hH)) fun w3 a1 => ?_)))))
 refine wp 5 (nq (cs (bi hr fun a4 a0 hr => age a1 [2, 3, 4, 5, 20] [(20, (Vb a4))] ?_ ?_)))
 refine cr (wp 1 (acx y1.2 (0 : UInt8) krf krf (wd a0 (fun a5 a0 => ?_) (fun a5 a0 => ?_))))
 refine wp 2 (gy 13 (wd a0 (fun a6 a0 => ?_) (fun a6 a0 => ?_)))
 refine wp 4 (wl (ql ?_))
 obtain rfl := oi a0
 exact je a1.kp
 refine wp 4 (wl (ql ?_))
 obtain rfl := oi a0
 exact je a1.kp
 refine wp 7 (wl (ql ?_))
 obtain rfl := oi a0
 exact je a1.kp
 intro a8 G a2
 refine cb hr (fun a7 hr => ?_) (fun a7 hr => ?_)
 refine sr (wp 2 (nq (ct (st ?_))))
 obtain rfl := oi hr
 exact rv a2.kp
 refine ck (qn (sr (wp 4 (nq (ct ?_)))))
 obtain rfl := oi hr
 exact rv a2.kp
theorem K_L_ref01_opens {fu : Nat} {s_0 : Str} {a2 : Int} {a4 : UInt8} {w : World} {r : (Int × UInt8)} (hr : aph fu s_0 a2 a4 = some r) (hG : Gl w) : CR prog 196 [(str s_0), (Vi .i64 a2), (bt a4)] w fun v w' => v = (zak #[(Vi .i64 r.1), (bt r.2)]) ∧ Hp w [] [] w' := by
 have hH := Hp.refl w
 refine enter (k := 28) func196 rfl rfl nbe ?_
 unfold aph at hr
 refine sr (wp 2 (nq (cs (bi hr fun v5 a1 hr => age hH [0, 1, 2, 6, 7, 15] [(15, (Vb v5))] ?_ ?_))))
 refine cr (wp 2 (wd a1 (fun h6 a1 => ?_) (fun h6 a1 => ?_)))
 refine wp 5 (wl (ql ?_))
 obtain rfl := oi a1
 exact je hH.kp
 refine wp 5 (wl (ql ?_))
 obtain rfl := oi a1
 exact je hH.kp
 intro w7 G a3
 refine cb hr (fun h9 hr => ?_) (fun h9 hr => ?_)
 refine sr (wp 2 (nq (ct (st ?_))))
 obtain rfl := oi hr
 exact rv a3.kp
 refine ck (qn (cs (bi hr fun a6 a0 hr => age a3 [1, 6, 7, 26] [(26, (Vb a6))] ?_ ?_)))
 refine cr (wp 4 (wd a0 (fun a7 a0 => ?_) (fun a7 a0 => ?_)))
 refine wp 6 (wl (ql ?_))
 obtain rfl := oi a0
 exact je a3.kp
 refine wp 2 (gy 20 (gi a0 fun a8 a0 => abi s_0 .i64 a2 underlying9 krf krf a8 (wp 1 (gy 20 (afp (at_ s_0 a2) a4 krf krf (wp 1 (wl (ql ?_))))))))
 obtain rfl := oi a0
 exact je a3.kp
 intro b0 G a5
 refine cb hr (fun a9 hr => ?_) (fun a9 hr => ?_)
 refine sr (wp 3 (nq (ct (st ?_))))
 obtain rfl := oi hr
 exact rv a5.kp
 refine ck (qn (sr (wp 2 (nq (ct ?_)))))
 obtain rfl := oi hr
 exact rv a5.kp
theorem aof {fu : Nat} {a1 : UInt8} {w : World} {r : Bool} (hr : aim fu a1 = some r) (hG : Gl w) : CR prog 170 [(bt a1)] w fun v w' => v = (Vb r) ∧ Hp w [] [] w' := by
 have hH := Hp.refl w
 refine enter (k := 13) func170 rfl rfl nbe ?_
 unfold aim at hr
 refine sr (wp 1 (nq (bi hr fun v6 a0 hr => age hH [2] [(2, (Vb v6))] ?_ ?_)))
 refine cr (wp 1 (w8_lss a1 (32 : UInt8) krf krf (wd a0 (fun h7 a0 => ?_) (fun h7 a0 => ?_))))
 refine wp 1 (gy 5 (afp a1 (9 : UInt8) krf krf (wp 1 (wn a0 (fun h8 a0 => ?_) (fun h8 a0 => ?_)))))
 refine wp 4 (wl (ql ?_))
 obtain rfl := oi a0
 exact je hH.kp
 refine wp 1 (gy 9 (acx a1 (127 : UInt8) krf krf (wp 2 (wl (ql ?_)))))
 obtain rfl := oi a0
 exact je hH.kp
 refine wp 5 (gy 9 (acx a1 (127 : UInt8) krf krf (wp 2 (wl (ql ?_)))))
 obtain rfl := oi a0
 exact je hH.kp
 intro w9 G a2
 refine ct ?_
 obtain rfl := oi hr
 exact rv a2.kp
theorem K_L_ref01_step {fu : Nat} {s_0 : Str} {a1 : Int} {w : World} {r : (Int × Int × UInt8)} (hr : aor fu s_0 a1 = some r) (hG : Gl w) : CR prog 197 [(str s_0), (Vi .i64 a1)] w fun v w' => v = (zak #[(Vi .i64 r.1), (Vi .i64 r.2.1), (bt r.2.2)]) ∧ Hp w [] [] w' := by
 have hH := Hp.refl w
 refine enter (k := 42) func197 rfl rfl nbe ?_
 unfold aor at hr
 refine sr (wp 3 (nq (cs (sr (wp 4 (wl ?_))))))
 refine qn (cd hr (fun h1 hr => ?_) (fun h1 hr => ?_))
 refine sr (wp 5 (nq (ct (st ?_))))
 obtain rfl := oi hr
 exact rv hH.kp
 refine ck (qn (cs (sr (wp 2 (gi hr fun g2 hr => abi s_0 .i64 a1 underlying9 krf krf g2 (bi hr fun y3 a4 hr => wc ent170 hH (aof a4 (hG.hp0 hH)) fun w5 a2 => ?_))))))
 refine nq (cb hr (fun h8 hr => ?_) (fun h8 hr => ?_))
 refine sr (wp 4 (nq (ct (st ?_))))
 obtain rfl := oi hr
 exact rv a2.kp
 refine ck (qn (cs (sr (wp 2 (gi hr fun g9 hr => abi s_0 .i64 a1 underlying9 krf krf g9 (afp (at_ s_0 a1) (92 : UInt8) krf krf (wl ?_)))))))
 refine qn (cn hr (fun a5 hr => ?_) (fun a5 hr => ?_))
 refine sr (wp 3 (nq (ct (st ?_))))
 obtain rfl := oi hr
 exact rv a2.kp
 refine ck (qn (cs (sr (wp 1 (gi hr fun a6 hr => aae a1 (1 : Int) krf krf a6 (wp 3 (wl ?_)))))))
 refine qn (cd hr (fun a7 hr => ?_) (fun a7 hr => ?_))
 refine sr (wp 5 (nq (ct (st ?_))))
 obtain rfl := oi hr
 exact rv a2.kp
 refine ck (qn (cs (bi hr fun a8 a0 hr => age a2 [1, 4, 5, 6, 40] [(40, (Vb a8))] ?_ ?_)))
 refine cr (wp 2 (gi a0 fun a9 a0 => aae a1 (1 : Int) krf krf a9 (gi a0 fun b0 a0 => abi s_0 .i64 (a1 + (1 : Int)) underlying9 krf krf b0 (w8_lss (at_ s_0 (a1 + (1 : Int))) (32 : UInt8) krf krf (wd a0 (fun b1 a0 => ?_) (fun b1 a0 => ?_))))))
 refine wp 6 (wl (ql ?_))
 obtain rfl := oi a0
 exact je a2.kp
 refine wp 2 (gy 34 (gi a0 fun b2 a0 => aae a1 (1 : Int) krf krf b2 (gy 34 (gi a0 fun b3 a0 => abi s_0 .i64 (a1 + (1 : Int)) underlying9 krf krf b3 (gy 34 (w8_gtr (at_ s_0 (a1 + (1 : Int))) (126 : UInt8) krf krf (wp 1 ?_)))))))
 refine wl (ql ?_)
 obtain rfl := oi a0
 exact je a2.kp
 intro b5 G a3
 refine cb hr (fun b4 hr => ?_) (fun b4 hr => ?_)
 refine sr (wp 4 (nq (ct (st ?_))))
 obtain rfl := oi hr
 exact rv a3.kp
 refine ck (qn (sr (wp 3 (nq (ct ?_)))))
 obtain rfl := oi hr
 exact rv a3.kp
theorem K_L_ref01_Unquote {fu : Nat} {s_0 : Str} {a9 : Int} {w : World} {r : (Str × Int × UInt8)} (hr : alr fu s_0 a9 = some r) (hG : Gl w) : CR prog 162 [(str s_0), (Vi .i64 a9)] w fun v w' => v = (zak #[(str r.1), (Vi .i64 r.2.1), (bt r.2.2)]) ∧ Hp w [] [] w' := by
 have hH := Hp.refl w
 refine enter (k := 61) func162 rfl rfl nbe ?_
 unfold alr at hr
 refine sr (wp 3 (nq (sr (wp 2 (bi hr fun y1 c0 hr => wc ent196 hH (K_L_ref01_opens c0 (hG.hp0 hH)) fun w3 b4 => ?_)))))
 refine wp 5 (nq (cs (sr (wp 1 (afp y1.2 (0 : UInt8) krf krf (nq (cn hr (fun h6 hr => ?_) (fun h6 hr => ?_))))))))
 refine sr (wp 5 (nq (ct (st ?_))))
 obtain rfl := oi hr
 exact rv b4.kp
 refine ck (qn (sr (wp 1 (nq (sr (wp 1 ?_))))))
 refine gi hr fun g7 hr => aae a9 (1 : Int) krf krf g7 (wp 1 (nq (ce (lpG (σ := Nat × (List UInt8) × Int × (Option Nat) × (Option Addr) × Nat) [0, 4, 5, 6, 9, 10] (fun ⟨a7, a2, a1, a8, a4, a5⟩ => [(9, (Vs a4 a2.length a5)), (10, (Vi .i64 a1))]) (fun ⟨a7, a2, a1, a8, a4, a5⟩ w' => Hp w [] [rwt eB 5 1 a8 a4 a5 a2] w' ∧ acy fu s_0 a7 a2 a1 = some r) (fun ⟨a7, a2, a1, a8, a4, a5⟩ => a7) (fu, ([] : List UInt8), a9 + (1 : Int), none, none, 0) (by exact ⟨(Hp.nilrw b4 eB 5 1 none).kp, hr⟩) ?_ (mc krf (mc krf (mc krf (mc krf (mc (Eq.trans (b := (Vs none 0 0)) krf (aaj lsy)) (mc krf rfl))))))))))
 rintro ⟨_ | a7, a2, a1, a8, a4, a5⟩ d5 G ⟨b5, a0⟩
 · exact nzz a0
 rw [acy.eq_2] at a0
 refine ce (sr (wp 2 (bi a0 fun a3 c1 a0 => wc ent197 b5 (K_L_ref01_step c1 (hG.hp0 b5)) fun d6 b0 => wp 7 (nq (cs ?_)))))
 refine sr (wp 1 (afp a3.2.2 (0 : UInt8) krf krf (nq (cn a0 (fun c2 a0 => ?_) (fun c2 a0 => ?_)))))
 refine sr (wp 5 (nq (ct (st (bt_ (adg (bt_ ?_)))))))
 obtain rfl := oi a0
 exact rv b0.kp
 refine ck (qn (cs (bi a0 fun c3 a6 a0 => age b0 [0, 4, 5, 6, 9, 10, 11, 44] [(44, (Vb c3))] ?_ ?_)))
 refine cr (wp 2 (wd a6 (fun c4 a6 => ?_) (fun c4 a6 => ?_)))
 refine wp 2 (gy 39 (gi a6 fun c5 a6 => abi s_0 .i64 a1 underlying9 krf krf c5 (gy 39 (acx (at_ s_0 a1) (34 : UInt8) krf krf (wp 1 (wl (ql ?_)))))))
 obtain rfl := oi a6
 exact je b0.kp
 refine wp 5 (wl (ql ?_))
 obtain rfl := oi a6
 exact je b0.kp
 intro c6 G b1
 refine cb a0 (fun c7 a0 => ?_) (fun c7 a0 => ?_)
 refine sr (wp 1 (aes (v := (str a2)) (w' := c6) rfl rfl (apn a2 a4 a2.length a5 5 (Rd.bytes (b1.rdrw 0 rfl)) (by first | rfl | (simp; done) | omega | (simp; omega) | (rw [zah]; omega)) underlying85 underlying9 underlying5 krf) (wp 1 (gi a0 fun c8 a0 => aae a1 (1 : Int) krf krf c8 (wp 3 (nq ?_))))))
 refine ct (st (bt_ (adg (bt_ ?_))))
 obtain rfl := oi a0
 exact rv b1.kp
 refine ck (qn (sr (wp 4 (gi a0 fun c9 a0 => aae a1 a3.1 krf krf c9 (gi a0 fun d0 a0 => adk (a1 + a3.1) (1 : Int) krf krf d0 (gi a0 fun d1 a0 => ?_))))))
 refine abi s_0 .i64 ((a1 + a3.1) - (1 : Int)) underlying9 krf krf d1 (adr b1 [(bt (at_ s_0 ((a1 + a3.1) - (1 : Int))))] 5 (fun b => (Vs (some ⟨b, 0, none⟩) 1 1)) rfl rfl krf fun b2 d7 b6 => gi a0 fun d2 a0 => adm b6 1 a8 a4 (some ⟨b2, 0, none⟩) a5 1 5 1 1 a2 ([at_ s_0 ((a1 + a3.1) - (1 : Int))] : List UInt8) akh rfl underlying85 (by unfold TI; kernel_rfl) (by decide) (by decide) krf (Eq.trans (b := (Vs (some ⟨b2, 0, none⟩) 1 1)) krf (aaj (by first | rfl | (simp; done) | omega | (simp; omega) | (rw [zah]; omega)))) (b6.rdblk 0 rfl) d2 fun b7 b8 b9 d3 b3 => ?_)
 replace b3 : Hp w [] [blk b2 [(bt (at_ s_0 ((a1 + a3.1) - (1 : Int))))] 5, rwt eB 5 1 b7 b8 b9 (a2 ++ ([at_ s_0 ((a1 + a3.1) - (1 : Int))] : List UInt8))] d3 := b3
 refine wp 1 (nq (cr (wp 2 (gi a0 fun d4 a0 => aae a1 a3.1 krf krf d4 (wp 1 (wl (bn ?_)))))))
 refine ql ?_
 exact ⟨(a7, a2 ++ ([at_ s_0 ((a1 + a3.1) - (1 : Int))] : List UInt8), a1 + a3.1, b7, b8, b9), _, rfl, by kernel_rfl, ⟨(Hp.front b3 1 _ rfl).kp, a0⟩, zad _⟩
theorem K_L_ref02_value {fu : Nat} {s_0 : Str} {a2 : Int} {w : World} {r : (Str × Int × UInt8)} (hr : ang fu s_0 a2 = some r) (hG : Gl w) : CR prog 100 [(str s_0), (Vi .i64 a2)] w fun v w' => v = (zak #[(str r.1), (Vi .i64 r.2.1), (bt r.2.2)]) ∧ Hp w [] [] w' := by
 have hH := Hp.refl w
 refine enter (k := 80) func100 rfl rfl nbe ?_
 unfold ang at hr
 refine sr (wp 3 (nq (cs (bi hr fun v6 a4 hr => age hH [0, 1, 4, 5, 6, 20] [(20, (Vb v6))] ?_ ?_))))
 refine cr (wp 4 (wd a4 (fun h7 a4 => ?_) (fun h7 a4 => ?_)))
 refine wp 2 (gy 15 (gi a4 fun g8 a4 => abi s_0 .i64 a2 underlying9 krf krf g8 (gy 15 (acx (at_ s_0 a2) (34 : UInt8) krf krf (wp 1 (wl (ql ?_)))))))
 obtain rfl := oi a4
 exact je hH.kp
 refine wp 5 (wl (ql ?_))
 obtain rfl := oi a4
 exact je hH.kp
 intro w9 G a7
 refine cb hr (fun b7 hr => ?_) (fun b7 hr => ?_)
 refine sr (wp 2 (bi hr fun e1 b8 hr => wc ent162 a7 (K_L_ref01_Unquote b8 (hG.hp0 a7)) fun e2 b9 => wp 6 (nq (ct (st ?_)))))
 obtain rfl := oi hr
 exact rv b9.kp
 refine ck (qn (bi hr fun c0 a0 hr => cut1 a7 c0 [0, 1, 4, 5, 6] (fun c1 => []) ?_ ?_))
 refine bi a0 fun c2 a5 a0 => age a7 [0, 1, 4, 5, 6, 36] [(36, (Vb c2))] ?_ ?_
 refine cr (wp 4 (wd a5 (fun c3 a5 => ?_) (fun c3 a5 => ?_)))
 refine wp 2 (gy 31 (gi a5 fun c4 a5 => abi s_0 .i64 a2 underlying9 krf krf c4 (gy 31 (acx (at_ s_0 a2) (91 : UInt8) krf krf (wp 1 (wl (ql ?_)))))))
 obtain rfl := oi a5
 exact je a7.kp
 refine wp 5 (wl (ql ?_))
 obtain rfl := oi a5
 exact je a7.kp
 intro e3 G a9
 refine cb a0 (fun c5 a0 => ?_) (fun c5 a0 => ?_)
 refine sr (wp 2 (nq (bi a0 fun a8 c6 a0 => age a9 [0, 1, 4, 5, 6, 7] [(7, (Vi .i64 a8))] ?_ ?_)))
 refine ce (lpS (fun b1 a3 => afj fu s_0 b1 a3) a2 a9 c6 [0, 1, 4, 5, 6, 7] (fun a3 => [(7, (Vi .i64 a3))]) (fun _ => rfl) ?_)
 rintro b1 a3 e4 G b0 a1
 rw [afj.eq_2] at a1
 refine cs (bi a1 fun c7 a6 a1 => age b0 [0, 1, 4, 5, 6, 7, 47] [(47, (Vb c7))] ?_ ?_)
 refine cr (wp 4 (wd a6 (fun c8 a6 => ?_) (fun c8 a6 => ?_)))
 refine wp 2 (gy 42 (gi a6 fun c9 a6 => abi s_0 .i64 a3 underlying9 krf krf c9 (gy 42 (afp (at_ s_0 a3) (93 : UInt8) krf krf (wp 1 (wl (ql ?_)))))))
 obtain rfl := oi a6
 exact je b0.kp
 refine wp 5 (wl (ql ?_))
 obtain rfl := oi a6
 exact je b0.kp
 intro e5 G b2
 refine cb a1 (fun d0 a1 => ?_) (fun d0 a1 => ?_)
 refine ck (qn (ce (cr (wp 1 (gi a1 fun d1 a1 => aae a3 (1 : Int) krf krf d1 (wp 1 (wl (bn ?_))))))))
 exact ql (le' (a3 + (1 : Int)) b2.kp a1)
 refine abq (abp (aby (abr (ql ?_))))
 obtain rfl := oi a1
 exact je b2.kp
 intro e6 G b3
 refine sr (wp 3 (gi a0 fun d2 a0 => aae a8 (1 : Int) krf krf d2 (wp 2 (w_min .i64 (a8 + (1 : Int)) (s_0.length : Int) krf krf (gi a0 fun d3 a0 => alo s_0 .i64 .i64 a2 (min (a8 + (1 : Int)) (s_0.length : Int)) underlying9 krf krf krf d3 (bi a0 fun e7 d4 a0 => ?_))))))
 refine wc ent43 b3 (aom d4 (hG.hp0 b3)) fun e8 b4 => wp 5 (nq (cs (sr (wp 2 (nq (cb a0 (fun d5 a0 => ?_) (fun d5 a0 => ?_)))))))
 refine sr (wp 4 (nq (ct (st (adg ?_)))))
 obtain rfl := oi a0
 obtain rfl := oi hr
 exact rv b4.kp
 refine ck (qn (sr (wp 2 (gi a0 fun d6 a0 => aae a8 (1 : Int) krf krf d6 (wp 3 (nq ?_))))))
 refine ct (adg ?_)
 obtain rfl := oi a0
 obtain rfl := oi hr
 exact rv b4.kp
 refine ck (ql ?_)
 obtain rfl := oi a0
 exact je1 rfl a9.kp
 rintro c1 e9 G b5 rfl
 refine sr (wp 2 (bi hr fun d7 d8 hr => wc ent39 b5 (ali d8 (hG.hp0 b5)) fun f0 b6 => wp 1 (nq (cs (cs ?_)))))
 refine cr (wp 3 (nq (cd hr (fun d9 hr => ?_) (fun d9 hr => ?_))))
 refine sr (wp 4 (nq (ct (st ?_))))
 obtain rfl := oi hr
 exact rv b6.kp
 refine ck (qn (sr (wp 3 (gi hr fun e0 hr => alo s_0 .i64 .i64 a2 d7 underlying9 krf krf krf e0 (wp 4 (nq ?_))))))
 refine ct ?_
 obtain rfl := oi hr
 exact rv b6.kp
theorem K_L_ref02_find {fu : Nat} {a2 : List PQ} {a5 : Str} (a3 : Option Addr) (a6 : Nat) (a7 : Nat) {w : World} {r : Int} (hr : amy fu a2 a5 = some r) (hG : Gl w) (b2 : a6 = a2.length) (a8 : Rd w a3 (zai aaa a2)) (c4 : a6 ≤ a7) : CR prog 102 [(Vs a3 a6 a7), (str a5)] w fun v w' => v = (Vi .i64 r) ∧ Hp w [] [] w' := by
 subst b2
 have hH := Hp.refl w
 refine enter (k := 22) func102 rfl rfl nbe ?_
 unfold amy at hr
 refine sr (wp 1 (nq (bi hr fun b3 b4 hr => cut1 hH b3 [4] (fun b5 => []) ?_ ?_)))
 refine sr (wp 1 (nq (ce (lpS (fun a9 a1 => ahe fu a2 a5 a9 a1) (0 : Int) hH b4 [0, 1, 4, 5] (fun a1 => [(5, (Vi .i64 a1))]) (fun _ => rfl) ?_))))
 rintro a9 a1 c5 G a4 a0
 rw [ahe.eq_2] at a0
 refine cs (sr (wp 4 (nq (cd a0 (fun b6 a0 => ?_) (fun b6 a0 => ?_)))))
 refine ck (qn (cs (ce (sr (wp 2 (gi a0 fun b7 a0 => ahl a3 a2.length a7 65 3 .i64 a1 underlying22 krf krf krf a2 rfl b7 (a8.hp a4) aab (by decide) (w_fldE a3 ((a1).toNat * 3) 0 krf krf ?_)))))))
 refine gi a0 fun b8 a0 => w_ldF a3 aaa a2 3 a1 0 aab (a8.hp a4) (str ((el a2 a1).1)) b8 (by decide) krf krf krf (bi a0 fun c6 b9 a0 => wc ent98 a4 (afy b9 (hG.hp0 a4)) fun c7 b0 => wp 1 (bi a0 fun c8 c0 a0 => wc ent98 b0 (afy c0 (hG.hp0 b0)) fun c9 b1 => wp 1 (nq (cd a0 (fun c1 a0 => ?_) (fun c1 a0 => ?_)))))
 refine sr (wp 2 (nq (ct (bt_ (st (adg (bt_ ?_)))))))
 refine adg ?_
 obtain rfl := oi a0
 obtain rfl := oi hr
 exact rv b1.kp
 exact ck (bn (qn (cr (wp 1 (gi a0 fun c2 a0 => aae a1 (1 : Int) krf krf c2 (wp 1 (wl (ql (le' (a1 + (1 : Int)) b1.kp a0)))))))))
 refine abq (abp (aby (abr (ql ?_))))
 obtain rfl := oi a0
 exact je1 rfl a4.kp
 rintro b5 d0 G c3 rfl
 refine sr (wp 1 (nq (ct ?_)))
 obtain rfl := oi hr
 exact rv c3.kp
open Go.Value renaming agg → zan, func → zap, tuple → zak
open List renaming drop → zam, flatMap → zai, length_take → zah
theorem ent38 : Wk.Enters prog 38 := ⟨f38, _, func38, rfl, krf⟩
theorem ent41 : Wk.Enters prog 41 := ⟨f41, _, func41, rfl, krf⟩
theorem ent44 : Wk.Enters prog 44 := ⟨f44, _, func44, rfl, krf⟩
theorem ent45 : Wk.Enters prog 45 := ⟨f45, _, func45, rfl, krf⟩
theorem ent46 : Wk.Enters prog 46 := ⟨f46, _, func46, rfl, krf⟩
theorem ent100 : Wk.Enters prog 100 := ⟨f100, _, func100, rfl, krf⟩
theorem ent101 : Wk.Enters prog 101 := ⟨f101, _, func101, rfl, krf⟩
theorem ent102 : Wk.Enters prog 102 := ⟨f102, _, func102, rfl, krf⟩
theorem ent167 : Wk.Enters prog 167 := ⟨f167, _, func167, rfl, krf⟩
theorem aqs {fu : Nat} {a0 : List PQ} {a5 : Str} (a1 : Option Addr) (a2 : Nat) (a3 : Nat) {w : World} {r : UInt8} (hr : aif fu a0 a5 = some r) (hG : Gl w) (a6 : a2 = a0.length) (a7 : Rd w a1 (zai aaa a0)) (a8 : a2 ≤ a3) : CR prog 101 [(Vs a1 a2 a3), (str a5)] w fun v w' => v = (bt r) ∧ Hp w [] [] w' := by
 subst a6
 have hH := Hp.refl w
 refine enter (k := 12) func101 rfl rfl nbe ?_
 unfold aif at hr
 refine sr (wp 1 (nq (cs (sr (wp 2 (bi hr fun y1 a9 hr => ?_))))))
 refine wc ent102 hH (K_L_ref02_find a1 a0.length a3 a9 (hG.hp0 hH) rfl (a7.hp hH) a8) fun w3 a4 => wp 1 (nq (cd hr (fun h6 hr => ?_) (fun h6 hr => ?_)))
 refine sr (wp 1 (nq (ct (st ?_))))
 obtain rfl := oi hr
 exact rv a4.kp
 refine ck (qn (cs (sr (wp 3 (nq (cd hr (fun h7 hr => ?_) (fun h7 hr => ?_)))))))
 refine sr (wp 1 (nq (ct (st ?_))))
 obtain rfl := oi hr
 exact rv a4.kp
 refine ck (qn (sr (wp 1 (nq (ct ?_)))))
 obtain rfl := oi hr
 exact rv a4.kp
theorem K_L_ref02_Params {fu : Nat} {s_0 : Str} {w : World} {r : ((List PQ) × Int × UInt8)} (hr : akw fu s_0 = some r) (hG : Gl w) : CR prog 45 [(str s_0)] w fun v w' => ∃ (o0 : Option Nat), ∃ (a0 : Option Addr), ∃ (cap0 : Nat), v = (zak #[(Vs a0 r.1.length cap0), (Vi .i64 r.2.1), (bt r.2.2)]) ∧ Hp w [] [rwt aaa 65 3 o0 a0 cap0 r.1] w' := by
 have hH := Hp.refl w
 refine enter (k := 88) func45 rfl rfl nbe ?_
 unfold akw at hr
 refine sr (wp 3 (nq (sr (wp 1 (nq ?_)))))
 refine sr (wp 1 (bi hr fun y1 d9 hr => wc ent40 hH (ahx d9 (hG.hp0 hH)) fun w3 e0 => wp 1 (nq (bi hr fun c8 e1 hr => cut (σ := (List PQ) × (Option Nat) × (Option Addr) × Nat) [2, 3, 4, 5] (fun ⟨b3, b8, b4, b5⟩ => [(5, (Vs b4 b3.length b5))]) (fun ⟨b3, b8, b4, b5⟩ w' => Hp w [] (Zz10 b8 b4 b5 b3) w' ∧ .inl b3 = c8) ?_ ?_))))
 refine ce (lpG (σ := Nat × (List PQ) × Int × (Option Nat) × (Option Addr) × Nat) [0, 2, 3, 4, 5, 6] (fun ⟨b6, a5, b0, a8, a6, a7⟩ => [(5, (Vs a6 a5.length a7)), (6, (Vi .i64 b0))]) (fun ⟨b6, a5, b0, a8, a6, a7⟩ w' => Hp w [] (Zz10 a8 a6 a7 a5) w' ∧ afs fu s_0 b6 a5 b0 = some c8) (fun ⟨b6, a5, b0, a8, a6, a7⟩ => b6) (fu, ([] : List PQ), y1, none, none, 0) (by exact ⟨(Hp.nilrw e0 aaa 65 3 none).kp, e1⟩) ?_ (mc krf (mc krf (mc krf (mc krf (mc (Eq.trans (b := (Vs none 0 0)) krf (aaj lsy)) (mc krf rfl)))))))
 rintro ⟨_ | b6, a5, b0, a8, a6, a7⟩ h3 G ⟨b9, a1⟩
 · exact nzz a1
 rw [afs.eq_2] at a1
 refine cs (sr (wp 4 (nq (cd a1 (fun e2 a1 => ?_) (fun e2 a1 => ?_)))))
 refine ck (qn (ce (cs (sr (wp 2 (gi a1 fun e3 a1 => abi s_0 .i64 b0 underlying9 krf krf e3 (afp (at_ s_0 b0) (59 : UInt8) krf krf ?_)))))))
 refine nq (cn a1 (fun e4 a1 => ?_) (fun e4 a1 => ?_))
 refine sr (wp 4 (nq (ct (st (bt_ (adg (bt_ ?_)))))))
 refine adg ?_
 obtain rfl := oi a1
 obtain rfl := oi hr
 refine aqp (Vs none 0 0) (Vi .i64 b0) (bt (5 : UInt8)) rfl krf krf krf ?_
 exact ⟨none, none, 0, (by first | rfl | (simp; done) | (simp; omega)), (Hp.nilrw b9 aaa 65 3 none).kp⟩
 refine ck (qn (sr (wp 2 (gi a1 fun e5 a1 => aae b0 (1 : Int) krf krf e5 (bi a1 fun c1 e6 a1 => wc ent40 b9 (ahx e6 (hG.hp0 b9)) fun h4 c9 => wp 1 ?_)))))
 refine nq (sr (wp 2 (bi a1 fun e7 e8 a1 => wc ent39 c9 (ali e8 (hG.hp0 c9)) fun h5 c2 => wp 1 (nq ?_))))
 refine cs (sr (wp 3 (nq (cd a1 (fun e9 a1 => ?_) (fun e9 a1 => ?_)))))
 refine sr (wp 4 (nq (ct (st (bt_ (adg (bt_ ?_)))))))
 refine adg ?_
 obtain rfl := oi a1
 obtain rfl := oi hr
 refine aqp (Vs none 0 0) (Vi .i64 c1) (bt (5 : UInt8)) rfl krf krf krf ?_
 exact ⟨none, none, 0, (by first | rfl | (simp; done) | (simp; omega)), (Hp.nilrw c2 aaa 65 3 none).kp⟩
 refine ck (qn (sr (wp 3 (gi a1 fun f0 a1 => alo s_0 .i64 .i64 c1 e7 underlying9 krf krf krf f0 (bi a1 fun a4 f1 a1 => wc ent98 c2 (afy f1 (hG.hp0 c2)) fun h6 f2 => wp 1 ?_)))))
 refine adr f2 (Zz6) 65 (fun b => (Vp (some ⟨b, 0, none⟩))) rfl rfl krf fun a9 h7 f3 => ahq f3 0 a9 0 (Zz6) (Zz24 a4) 65 [blk a9 (Zz24 a4) 65, rwt aaa 65 3 a8 a6 a7 a5] rfl nbe krf krf rfl krf rfl fun h8 d0 => nq (sr (wp 2 (bi a1 fun c0 f4 a1 => wc ent40 d0 (ahx f4 (hG.hp0 d0)) fun h9 c3 => wp 1 ?_)))
 refine nq (bi a1 fun f5 a3 a1 => cut (σ := (Int × Str × Bool)) [0, 2, 3, 4, 5, 6, 7, 9] (fun a2 => [(6, (Vi .i64 a2.1))]) (fun a2 w' => Hp w [] [blk a9 (Zz42 a4 a2.2.1 a2.2.2) 65, rwt aaa 65 3 a8 a6 a7 a5] w' ∧ .inl a2 = f5) ?_ ?_)
 refine bi a3 fun f6 b2 a3 => age c3 [0, 2, 3, 4, 5, 6, 7, 9, 54] [(54, (Vb f6))] ?_ ?_
 refine cr (wp 4 (wd b2 (fun f7 b2 => ?_) (fun f7 b2 => ?_)))
 refine wp 2 (gy 49 (gi b2 fun f8 b2 => abi s_0 .i64 c0 underlying9 krf krf f8 (gy 49 (acx (at_ s_0 c0) (61 : UInt8) krf krf (wp 1 (wl (ql ?_)))))))
 obtain rfl := oi b2
 exact je (Hp.front (Hp.front c3 1 _ rfl) 1 _ rfl).kp
 refine wp 5 (wl (ql ?_))
 obtain rfl := oi b2
 exact je (Hp.front (Hp.front c3 1 _ rfl) 1 _ rfl).kp
 intro i0 G c4
 refine cb a3 (fun f9 a3 => ?_) (fun f9 a3 => ?_)
 refine sr (wp 3 (gi a3 fun g0 a3 => aae c0 (1 : Int) krf krf g0 (bi a3 fun i1 g1 a3 => wc ent40 c4 (ahx g1 (hG.hp0 c4)) fun i2 d1 => bi a3 fun b1 g2 a3 => wc ent100 d1 (K_L_ref02_value g2 (hG.hp0 d1)) fun i3 d2 => wp 7 ?_)))
 refine nq (cs (sr (wp 1 (afp b1.2.2 (0 : UInt8) krf krf (nq (cn a3 (fun g3 a3 => ?_) (fun g3 a3 => ?_)))))))
 refine sr (wp 5 (nq (ct (st (adg ?_)))))
 obtain rfl := oi a3
 refine bt_ (adg (bt_ (adg ?_)))
 obtain rfl := oi a1
 obtain rfl := oi hr
 refine aqp (Vs none 0 0) (Vi .i64 b1.2.1) (bt b1.2.2) rfl krf krf krf ?_
 exact ⟨none, none, 0, (by first | rfl | (simp; done) | (simp; omega)), (Hp.nilrw d2 aaa 65 3 none).kp⟩
 refine ck (qn (sr (wp 2 (aib d2 0 a9 1 (Zz24 a4) 65 (str b1.1) [blk a9 [(str a4), (str b1.1), (Vb false)] 65, rwt aaa 65 3 a8 a6 a7 a5] rfl (zaj (zad _) nbe) krf krf rfl krf rfl fun i4 g4 => nq (sr ?_)))))
 refine wp 1 (aib g4 0 a9 2 [(str a4), (str b1.1), (Vb false)] 65 (Vb true) [blk a9 (Zz39 a4 b1.1) 65, rwt aaa 65 3 a8 a6 a7 a5] rfl (zaj (zad _) nbe) krf krf rfl krf rfl fun i5 d3 => nq (cr (wp 2 (bi a3 fun g5 g6 a3 => wc ent40 d3 (ahx g6 (hG.hp0 d3)) fun i6 g7 => wp 1 (wl ?_)))))
 refine ql ?_
 obtain rfl := oi a3
 exact ⟨(g5, b1.1, true), _, rfl, by kernel_rfl, (Hp.front (Hp.front g7 1 _ rfl) 1 _ rfl).kp, rfl⟩
 refine ck (ql ?_)
 obtain rfl := oi a3
 exact ⟨(c0, ([] : Str), false), _, rfl, by kernel_rfl, (Hp.front (Hp.front c4 1 _ rfl) 1 _ rfl).kp, rfl⟩
 rintro a2 i7 G ⟨b7, rfl⟩
 refine sr (wp 2 (abs b7 0 a9 0 (Zz42 a4 a2.2.1 a2.2.2) 65 (str a4) rfl rfl krf krf (bi a1 fun d4 g8 a1 => wc ent101 b7 (aqs a6 a5.length a7 g8 (hG.hp0 b7) rfl (b7.rdrw 1 rfl) (b7.rwcap 1 rfl)) fun i9 c5 => wp 1 (nq (cs ?_)))))
 refine sr (wp 1 (afp d4 (0 : UInt8) krf krf (nq (cn a1 (fun g9 a1 => ?_) (fun g9 a1 => ?_)))))
 refine sr (wp 5 (nq (ct (st (bt_ (adg (bt_ ?_)))))))
 refine adg ?_
 obtain rfl := oi a1
 obtain rfl := oi hr
 refine aqp (Vs none 0 0) (Vi .i64 c1) (bt d4) rfl krf krf krf ?_
 exact ⟨none, none, 0, (by first | rfl | (simp; done) | (simp; omega)), (Hp.nilrw c5 aaa 65 3 none).kp⟩
 refine ck (qn (cr (wp 1 (ant c5 0 a9 0 3 (Zz42 a4 a2.2.1 a2.2.2) (Zz42 a4 a2.2.1 a2.2.2) 65 rfl rfl rfl krf krf krf (adr c5 (Zz42 a4 a2.2.1 a2.2.2) 65 (fun b => (Vs (some ⟨b, 0, none⟩) 1 1)) rfl rfl krf fun c6 j0 d5 => gi a1 fun h0 a1 => adm d5 2 a8 a6 (some ⟨c6, 0, none⟩) a7 1 65 3 40 a5 ([(a4, a2.2.1, a2.2.2)] : List PQ) aab rfl underlying22 (by unfold TI; kernel_rfl) (by decide) (by decide) krf (Eq.trans (b := (Vs (some ⟨c6, 0, none⟩) 1 1)) krf (aaj (by first | rfl | (simp; done) | omega | (simp; omega) | (rw [zah]; omega)))) (d5.rdblk 0 rfl) h0 fun d6 d7 d8 h1 c7 => ?_)))))
 replace c7 : Hp w [] [blk c6 (Zz42 a4 a2.2.1 a2.2.2) 65, blk a9 (Zz42 a4 a2.2.1 a2.2.2) 65, rwt aaa 65 3 d6 d7 d8 (a5 ++ ([(a4, a2.2.1, a2.2.2)] : List PQ))] h1 := c7
 refine wp 1 (wl (bn (ql ?_)))
 exact ⟨(b6, a5 ++ ([(a4, a2.2.1, a2.2.2)] : List PQ), a2.1, d6, d7, d8), _, rfl, by kernel_rfl, ⟨(Hp.front c7 2 _ rfl).kp, a1⟩, zad _⟩
 refine abq (abp (aby (abr (ql ?_))))
 obtain rfl := oi a1
 exact ⟨(a5, a8, a6, a7), _, rfl, by kernel_rfl, b9.kp, rfl⟩
 rintro ⟨b3, b8, b4, b5⟩ j1 G ⟨h2, rfl⟩
 refine sr (wp 4 (nq (ct ?_)))
 obtain rfl := oi hr
 refine aqp (Vs b4 b3.length b5) (Vi .i64 (0 : Int)) (bt (0 : UInt8)) rfl krf krf krf ?_
 exact ⟨b8, b4, b5, (by first | rfl | (simp; done) | (simp; omega)), h2.kp⟩
theorem K_L_ref02_Get {fu : Nat} {a0 : List PQ} {a6 : Str} (a1 : Option Addr) (a4 : Nat) (a2 : Nat) {w : World} {r : (Str × Bool)} (hr : aob fu a0 a6 = some r) (hG : Gl w) (a7 : a4 = a0.length) (a5 : Rd w a1 (zai aaa a0)) (a8 : a4 ≤ a2) : CR prog 46 [(Vs a1 a4 a2), (str a6)] w fun v w' => v = (zak #[(str r.1), (Vb r.2)]) ∧ Hp w [] [] w' := by
 subst a7
 have hH := Hp.refl w
 refine enter (k := 17) func46 rfl rfl nbe ?_
 unfold aob at hr
 refine sr (wp 2 (nq (sr (wp 2 (bi hr fun y1 a9 hr => wc ent102 hH (K_L_ref02_find a1 a0.length a2 a9 (hG.hp0 hH) rfl (a5.hp hH) a8) fun w3 a3 => ?_)))))
 refine wp 1 (nq (cs (sr (wp 2 (nq (cd hr (fun h6 hr => ?_) (fun h6 hr => ?_)))))))
 refine sr (wp 2 (nq (ct (st ?_))))
 obtain rfl := oi hr
 exact rv a3.kp
 refine ck (qn (sr (wp 2 (gi hr fun g7 hr => ahl a1 a0.length a2 65 3 .i64 y1 underlying22 krf krf krf a0 rfl g7 (a5.hp a3) aab (by decide) (w_fldE a1 ((y1).toNat * 3) 1 krf krf (gi hr fun g8 hr => w_ldF a1 aaa a0 3 y1 1 aab (a5.hp a3) (str ((el a0 y1).2.1)) g8 (by decide) krf krf krf ?_))))))
 refine wp 2 (nq (ct ?_))
 obtain rfl := oi hr
 exact rv a3.kp
theorem K_L_ref03_Via {fu : Nat} {d2 : Str} {w : World} {r : ((Str × Str × Int × Str × (List PQ)) × UInt8)} (hr : apt fu d2 = some r) (hG : Gl w) : CR prog 9 [(str d2)] w fun v w' => ∃ (o0 : Option Nat), ∃ (a0 : Option Addr), ∃ (cap0 : Nat), v = (zak #[(zan #[(str r.1.1), (str r.1.2.1), (Vi .i64 r.1.2.2.1), (str r.1.2.2.2.1), (Vs a0 r.1.2.2.2.2.length cap0)]), (bt r.2)]) ∧ Hp w [] [rwt aaa 65 3 o0 a0 cap0 r.1.2.2.2.2] w' := by
 have hH := Hp.refl w
 refine enter (k := 140) func9 rfl rfl nbe ?_
 unfold apt at hr
 refine sr (adr hH (Zz4) 24 (fun b => (Vp (some ⟨b, 0, none⟩))) rfl rfl krf fun b1 w2 d3 => wp 1 (nq (sr (wp 1 (bi hr fun y4 f3 hr => ?_)))))
 refine wc ent38 d3 (K_L_ref01_Trim f3 (hG.hp0 d3)) fun w6 d4 => wp 1 (nq (sr (wp 1 (bi hr fun y9 f4 hr => wc ent39 d4 (ali f4 (hG.hp0 d4)) fun k2 d5 => wp 1 ?_))))
 refine nq (sr (wp 2 (bi hr fun c7 f5 hr => wc ent40 d5 (ahx f5 (hG.hp0 d5)) fun k3 c2 => wp 1 (nq ?_))))
 refine cs (bi hr fun f6 a8 hr => age c2 [2, 3, 4, 5, 6, 44] [(44, (Vb f6))] ?_ ?_)
 refine cr (wp 3 (wd a8 (fun f7 a8 => ?_) (fun f7 a8 => ?_)))
 refine wp 14 (wl (ql ?_))
 obtain rfl := oi a8
 exact je c2.kp
 refine wp 1 (gy 30 (gi a8 fun f8 a8 => amw y4 .i64 (8 : Int) underlying9 krf krf f8 (gy 30 (bi a8 fun k4 f9 a8 => wc ent41 c2 (apz f9 (hG.hp0 c2)) fun k5 c8 => wp 2 (wn a8 (fun g0 a8 => ?_) (fun g0 a8 => ?_))))))
 refine wp 8 (wl (ql ?_))
 obtain rfl := oi a8
 exact je c8.kp
 refine wp 3 (wd a8 (fun g1 a8 => ?_) (fun g1 a8 => ?_))
 refine wp 4 (wl (ql ?_))
 obtain rfl := oi a8
 exact je c8.kp
 refine wp 4 (wl (ql ?_))
 obtain rfl := oi a8
 exact je c8.kp
 intro k6 G c9
 refine cb hr (fun g2 hr => ?_) (fun g2 hr => ?_)
 refine sr (wp 1 (ahq c9 0 b1 0 (Zz4) (Zz4) 24 [blk b1 (Zz4) 24] rfl nbe krf krf rfl krf rfl fun k7 d6 => wp 1 (nq (ct (st ?_)))))
 obtain rfl := oi hr
 refine aov _ [(zan #[(str ([] : Str)), (str ([] : Str)), (Vi .i64 (0 : Int)), (str ([] : Str)), (Vs none 0 0)]), (bt (5 : UInt8))] (zak #[(zan #[(str ([] : Str)), (str ([] : Str)), (Vi .i64 (0 : Int)), (str ([] : Str)), (Vs none 0 0)]), (bt (5 : UInt8))]) rfl rfl (abe (ahu d6 0 b1 24 (Zz4) rfl krf krf krf) (abe (afd krf) agr)) rfl ?_
 exact ⟨none, none, 0, (by first | rfl | (simp; done) | (simp; omega)), (Hp.nilrw d6 aaa 65 3 none).kp⟩
 refine ck (qn (sr (wp 2 (nq (bi hr fun b7 g3 hr => age c9 [2, 3, 4, 5, 6, 7] [(7, (Vi .i64 b7))] ?_ ?_)))))
 refine ce (lpS (fun d7 b6 => agu fu y4 d7 b6) c7 c9 g3 [2, 3, 4, 5, 6, 7] (fun b6 => [(7, (Vi .i64 b6))]) (fun _ => rfl) ?_)
 rintro d7 b6 k8 G c1 b4
 rw [agu.eq_2] at b4
 refine cs (bi b4 fun g4 a9 b4 => age c1 [2, 3, 4, 5, 6, 7, 63] [(63, (Vb g4))] ?_ ?_)
 refine cr (wp 4 (wd a9 (fun g5 a9 => ?_) (fun g5 a9 => ?_)))
 refine wp 2 (gy 51 (gi a9 fun g6 a9 => abi y4 .i64 b6 underlying9 krf krf g6 (gy 51 (afp (at_ y4 b6) (59 : UInt8) krf krf (wp 1 (wn a9 (fun g7 a9 => ?_) (fun g7 a9 => ?_)))))))
 refine wp 2 (gy 57 (gi a9 fun g8 a9 => abi y4 .i64 b6 underlying9 krf krf g8 (gy 57 (bi a9 fun k9 g9 a9 => wc ent42 c1 (aqa g9 (hG.hp0 c1)) fun l0 h0 => wp 2 (wl (ql ?_))))))
 obtain rfl := oi a9
 exact je h0.kp
 refine wp 6 (wl (ql ?_))
 obtain rfl := oi a9
 exact je c1.kp
 refine wp 12 (wl (ql ?_))
 obtain rfl := oi a9
 exact je c1.kp
 intro l1 G d8
 refine cb b4 (fun h1 b4 => ?_) (fun h1 b4 => ?_)
 refine ck (qn (ce (cr (wp 1 (gi b4 fun h2 b4 => aae b6 (1 : Int) krf krf h2 (wp 1 (wl (bn ?_))))))))
 exact ql (le' (b6 + (1 : Int)) d8.kp b4)
 refine abq (abp (aby (abr (ql ?_))))
 obtain rfl := oi b4
 exact je d8.kp
 intro l2 G d9
 refine sr (wp 2 (nq (bi hr fun c3 h3 hr => age d9 [2, 3, 4, 5, 6, 7, 8] [(8, (Vi .i64 c3))] ?_ ?_)))
 refine sr (wp 2 (nq (ce (lpS (fun e0 ⟨c4, b3⟩ => ahn fu y4 b7 e0 c4 b3) (b7, c7) d9 h3 [2, 3, 4, 5, 6, 7, 8, 9] (fun ⟨c4, b3⟩ => [(8, (Vi .i64 c4)), (9, (Vi .i64 b3))]) (fun _ => rfl) ?_))))
 rintro e0 ⟨c4, b3⟩ l3 G c5 a4
 dsimp only at a4
 rw [ahn.eq_2] at a4
 refine cs (sr (wp 3 (nq (cd a4 (fun h4 a4 => ?_) (fun h4 a4 => ?_)))))
 refine ck (qn (cs (ce (bi a4 fun e1 b8 a4 => age c5 [2, 3, 4, 5, 6, 7, 8, 9] [(8, (Vi .i64 e1))] ?_ ?_))))
 refine sr (wp 2 (gi b8 fun h5 b8 => abi y4 .i64 b3 underlying9 krf krf h5 (acx (at_ y4 b3) (58 : UInt8) krf krf (nq (cd b8 (fun h6 b8 => ?_) (fun h6 b8 => ?_))))))
 refine cr (wp 2 (wl (ql ?_)))
 obtain rfl := oi b8
 exact je c5.kp
 refine ck (ql ?_)
 obtain rfl := oi b8
 exact je c5.kp
 intro l4 G e2
 refine sr (wp 2 (gi a4 fun h7 a4 => abi y4 .i64 b3 underlying9 krf krf h7 (acx (at_ y4 b3) (93 : UInt8) krf krf (nq (cd a4 (fun h8 a4 => ?_) (fun h8 a4 => ?_))))))
 refine cr (wp 2 (wl (bn (qn (cr (wp 1 (gi a4 fun h9 a4 => aae b3 (1 : Int) krf krf h9 (wp 1 ?_))))))))
 exact wl (ql (le' (b7, b3 + (1 : Int)) e2.kp a4))
 exact ck (bn (qn (cr (wp 1 (gi a4 fun i0 a4 => aae b3 (1 : Int) krf krf i0 (wp 1 (wl (ql (le' (e1, b3 + (1 : Int)) e2.kp a4)))))))))
 refine abq (abp (aby (abr (ql ?_))))
 obtain rfl := oi a4
 exact je c5.kp
 intro l5 G e3
 refine sr (wp 3 (gi hr fun i1 hr => alo y4 .i64 .i64 c7 c3 underlying9 krf krf krf i1 (bi hr fun a1 i2 hr => wc ent43 e3 (aom i2 (hG.hp0 e3)) fun l6 d0 => wp 5 (nq ?_))))
 refine cs (sr (wp 2 (nq (cb hr (fun i3 hr => ?_) (fun i3 hr => ?_)))))
 refine sr (wp 1 (ahq d0 0 b1 0 (Zz4) (Zz4) 24 [blk b1 (Zz4) 24] rfl nbe krf krf rfl krf rfl fun l7 e4 => wp 1 (nq (ct (st ?_)))))
 obtain rfl := oi hr
 refine aov _ [(zan #[(str ([] : Str)), (str ([] : Str)), (Vi .i64 (0 : Int)), (str ([] : Str)), (Vs none 0 0)]), (bt (5 : UInt8))] (zak #[(zan #[(str ([] : Str)), (str ([] : Str)), (Vi .i64 (0 : Int)), (str ([] : Str)), (Vs none 0 0)]), (bt (5 : UInt8))]) rfl rfl (abe (ahu e4 0 b1 24 (Zz4) rfl krf krf krf) (abe (afd krf) agr)) rfl ?_
 exact ⟨none, none, 0, (by first | rfl | (simp; done) | (simp; omega)), (Hp.nilrw e4 aaa 65 3 none).kp⟩
 refine ck (qn (sr (wp 2 (gi hr fun i4 hr => alo y4 .i64 .i64 (8 : Int) y9 underlying9 krf krf krf i4 (bi hr fun a2 i5 hr => wc ent41 d0 (apz i5 (hG.hp0 d0)) fun l8 i6 => wp 2 ?_)))))
 refine adr i6 (Zz4) 24 (fun b => (Vp (some ⟨b, 0, none⟩))) rfl rfl krf fun b0 l9 i7 => ahq i7 0 b0 0 (Zz4) (Zz47 a2 a1.1) 24 [blk b0 (Zz47 a2 a1.1) 24, blk b1 (Zz4) 24] rfl nbe krf krf rfl krf rfl fun m0 d1 => nq (bi hr fun i9 b2 hr => cut (σ := Int) [2, 3, 4, 7, 12] (fun a5 => []) (fun a5 w' => Hp w [] (Zz99 b0 a2 a1.1 a5 b1) w' ∧ .inl a5 = i9) ?_ ?_)
 refine sr (wp 3 (nq (cd b2 (fun j0 b2 => ?_) (fun j0 b2 => ?_))))
 refine sr (wp 2 (gi b2 fun j1 b2 => aae c3 (1 : Int) krf krf j1 (wp 1 (gi b2 fun j2 b2 => alo y4 .i64 .i64 (c3 + (1 : Int)) b7 underlying9 krf krf krf j2 (bi b2 fun b9 j3 b2 => wc ent44 d1 (K_L_ref03_port j3 (hG.hp0 d1)) fun m1 e5 => ?_)))))
 refine wp 5 (nq (cs (sr (wp 1 (afp b9.2 (0 : UInt8) krf krf (nq (cn b2 (fun j4 b2 => ?_) (fun j4 b2 => ?_))))))))
 refine sr (wp 2 (ahq e5 1 b1 0 (Zz4) (Zz4) 24 [blk b0 (Zz47 a2 a1.1) 24, blk b1 (Zz4) 24] rfl nbe krf krf rfl krf rfl fun m2 e6 => wp 1 (nq (ct (st (adg ?_))))))
 obtain rfl := oi b2
 obtain rfl := oi hr
 refine aov _ [(zan #[(str ([] : Str)), (str ([] : Str)), (Vi .i64 (0 : Int)), (str ([] : Str)), (Vs none 0 0)]), (bt b9.2)] (zak #[(zan #[(str ([] : Str)), (str ([] : Str)), (Vi .i64 (0 : Int)), (str ([] : Str)), (Vs none 0 0)]), (bt b9.2)]) rfl rfl (abe (ahu e6 1 b1 24 (Zz4) rfl krf krf krf) (abe (afd krf) agr)) rfl ?_
 exact ⟨none, none, 0, (by first | rfl | (simp; done) | (simp; omega)), (Hp.nilrw e6 aaa 65 3 none).kp⟩
 refine ck (qn (cr (wp 2 (aib e5 0 b0 2 (Zz47 a2 a1.1) 24 (Vi .i64 b9.1) (Zz99 b0 a2 a1.1 b9.1 b1) rfl (zaj (zad _) nbe) krf krf rfl krf rfl fun m3 j5 => wl (ql ?_)))))
 obtain rfl := oi b2
 exact ⟨b9.1, _, rfl, by kernel_rfl, (Hp.front (Hp.front j5 1 _ rfl) 1 _ rfl).kp, rfl⟩
 refine ck (ql ?_)
 obtain rfl := oi b2
 exact ⟨(0 : Int), _, rfl, by kernel_rfl, (Hp.front (Hp.front d1 1 _ rfl) 1 _ rfl).kp, rfl⟩
 rintro a5 m4 G ⟨e7, rfl⟩
 refine sr (wp 2 (gi hr fun j6 hr => ahd y4 .i64 b7 underlying9 krf krf j6 (bi hr fun a3 j7 hr => aat 45 #[] [(str (zam (zac b7) y4))] _ ent45 krf krf (K_L_ref02_Params j7 (hG.hp0 e7)) ?_)))
 rintro _ j8 ⟨c0, a6, a7, rfl, e8⟩
 have e9 : Hp w [] [rwt aaa 65 3 c0 a6 a7 a3.1, blk b0 (Zz32 a2 a1.1 a5) 24, blk b1 (Zz4) 24] j8 := Hp.callK (L1 := []) (L2 := (Zz99 b0 a2 a1.1 a5 b1)) e7 e8; clear e8
 refine wp 7 (nq (cs (sr (wp 1 (afp a3.2.2 (0 : UInt8) krf krf (nq (cn hr (fun j9 hr => ?_) (fun j9 hr => ?_))))))))
 refine sr (wp 2 (ahq e9 2 b1 0 (Zz4) (Zz4) 24 [rwt aaa 65 3 c0 a6 a7 a3.1, blk b0 (Zz32 a2 a1.1 a5) 24, blk b1 (Zz4) 24] rfl nbe krf krf rfl krf rfl fun m5 f0 => wp 1 (nq (ct (st ?_)))))
 obtain rfl := oi hr
 refine aov _ [(zan #[(str ([] : Str)), (str ([] : Str)), (Vi .i64 (0 : Int)), (str ([] : Str)), (Vs none 0 0)]), (bt a3.2.2)] (zak #[(zan #[(str ([] : Str)), (str ([] : Str)), (Vi .i64 (0 : Int)), (str ([] : Str)), (Vs none 0 0)]), (bt a3.2.2)]) rfl rfl (abe (ahu f0 2 b1 24 (Zz4) rfl krf krf krf) (abe (afd krf) agr)) rfl ?_
 exact ⟨none, none, 0, (by first | rfl | (simp; done) | (simp; omega)), (Hp.nilrw f0 aaa 65 3 none).kp⟩
 refine ck (qn (sr (wp 2 (aib e9 1 b0 4 (Zz32 a2 a1.1 a5) 24 (Vs a6 a3.1.length a7) [rwt aaa 65 3 c0 a6 a7 a3.1, blk b0 (Zz87 a2 a1.1 a5 a6 a3.1.length a7) 24, blk b1 (Zz4) 24] rfl (zaj (zad _) nbe) krf krf rfl krf rfl fun m6 c6 => nq (sr ?_)))))
 refine wp 1 (bi hr fun b5 k0 hr => wc ent46 c6 (K_L_ref02_Get a6 a3.1.length a7 k0 (hG.hp0 c6) rfl (c6.rdrw 0 rfl) (c6.rwcap 0 rfl)) fun m7 k1 => wp 5 (nq (sr (wp 2 (aib k1 1 b0 3 (Zz87 a2 a1.1 a5 a6 a3.1.length a7) 24 (str b5.1) [rwt aaa 65 3 c0 a6 a7 a3.1, blk b0 (Zz7 a2 a1.1 a5 b5.1 a6 a3.1.length a7) 24, blk b1 (Zz4) 24] rfl (zaj (zad _) nbe) krf krf rfl krf rfl fun m8 f1 => ?_)))))
 refine nq (sr (ant f1 1 b0 0 5 (Zz7 a2 a1.1 a5 b5.1 a6 a3.1.length a7) (Zz7 a2 a1.1 a5 b5.1 a6 a3.1.length a7) 24 rfl rfl rfl krf krf krf (ahq f1 2 b1 0 (Zz4) (Zz7 a2 a1.1 a5 b5.1 a6 a3.1.length a7) 24 [rwt aaa 65 3 c0 a6 a7 a3.1, blk b0 (Zz7 a2 a1.1 a5 b5.1 a6 a3.1.length a7) 24, blk b1 (Zz7 a2 a1.1 a5 b5.1 a6 a3.1.length a7) 24] rfl nbe krf krf rfl krf rfl fun m9 f2 => wp 1 (nq (ct ?_)))))
 obtain rfl := oi hr
 refine aov _ [(zan #[(str a2), (str a1.1), (Vi .i64 a5), (str b5.1), (Vs a6 a3.1.length a7)]), (bt (0 : UInt8))] (zak #[(zan #[(str a2), (str a1.1), (Vi .i64 a5), (str b5.1), (Vs a6 a3.1.length a7)]), (bt (0 : UInt8))]) rfl rfl (abe (ahu f2 2 b1 24 (Zz7 a2 a1.1 a5 b5.1 a6 a3.1.length a7) rfl krf krf krf) (abe (afd krf) agr)) rfl ?_
 exact ⟨c0, a6, a7, (by first | rfl | (simp; done) | (simp; omega)), f2.kp⟩
theorem arw {fu : Nat} {s_0 : List PQ} (a0 : Option Addr) (a2 : Nat) (a1 : Nat) {w : World} {r : List PQ} (hr : ahm fu s_0 = some r) (hG : Gl w) (a3 : a2 = s_0.length) (a5 : Rd w a0 (zai aaa s_0)) (a6 : a2 ≤ a1) : CR prog 107 [(Vs a0 a2 a1)] w fun v w' => ∃ (b0 : Nat), v = (zap (.func 167) #[] #[(Vp (some ⟨b0, 0, none⟩))]) ∧ Hp w [] [blk b0 [(Vs a0 s_0.length a1)] 22] w' := by
 subst a3
 have hH := Hp.refl w
 refine enter (k := 4) func107 rfl rfl nbe ?_
 unfold ahm at hr
 refine sr (adr hH [(Vs a0 s_0.length a1)] 22 (fun b => (Vp (some ⟨b, 0, none⟩))) rfl rfl krf fun b1 w2 a4 => wp 1 (nq (sr (wp 2 (wl ?_)))))
 refine qn (ct ?_)
 obtain rfl := oi hr
 refine r_one (zap (.func 167) #[] #[(Vp (some ⟨b1, 0, none⟩))]) rfl krf ?_
 exact ⟨b1, (by first | rfl | (simp; done) | (simp; omega)), a4.kp⟩
theorem agp {fu : Nat} {a3 : List PQ} {a1 : List PQ} (a4 : Nat) (a8 : Loop) (a9 : Nat) (b6 : Option Nat) (a5 : Option Addr) (a6 : Nat) (b1 : Nat) (a7 : Option Addr) (d2 : Nat) (b0 : Nat) {w : World} {r : ((List PQ) × Nat)} (hr : abj fu a3 a1 = some r) (hG : Gl w) (e0 : d2 = a1.length) (d3 : Rd w a7 (zai aaa a1)) (f4 : d2 ≤ b0) (hM : Hp w (abh [ahc a4 0 a8, blk a9 [(Vs a5 a3.length a6)] 22, blk b1 [(Vs a7 a1.length b0)] 22, rwt aaa 65 3 b6 a5 a6 a3]) [ahc a4 0 a8, blk a9 [(Vs a5 a3.length a6)] 22, blk b1 [(Vs a7 a1.length b0)] 22, rwt aaa 65 3 b6 a5 a6 a3] w) (hS : ∀ b ∈ abh [ahc a4 0 a8, blk a9 [(Vs a5 a3.length a6)] 22, blk b1 [(Vs a7 a1.length b0)] 22, rwt aaa 65 3 b6 a5 a6 a3], 9 ≤ b) (d4 : zai aaa a1 ≠ [] → ∀ p, a7 = some p → p.block ∉ abh [ahc a4 0 a8, blk a9 [(Vs a5 a3.length a6)] 22, blk b1 [(Vs a7 a1.length b0)] 22, rwt aaa 65 3 b6 a5 a6 a3]) (e1 : ∀  (c4 : PQ) (c1 : List PQ) (d5 : Option Nat) (c5 : Option Addr) (c6 : Nat) (w_ : World), Hp w (abh [ahc a4 0 a8, blk a9 [(Vs a5 a3.length a6)] 22, blk b1 [(Vs a7 a1.length b0)] 22, rwt aaa 65 3 b6 a5 a6 a3]) [ahc a4 0 a8, blk a9 [(Vs c5 c1.length c6)] 22, rwt aaa 65 3 d5 c5 c6 c1] w_ → ∀ (yr : (Nat × (List PQ))), ada fu c4 c1 = some yr → YR prog a4 [(zan #[(str c4.1), (str c4.2.1), (Vb c4.2.2)])] w_ fun v e2 => ∃ (e3 : Option Nat), ∃ (d6 : Option Addr), ∃ (rcap0 : Nat), v = Vb (decide (yr.1 = 0)) ∧ Hp w_ (abh [ahc a4 0 a8, blk a9 [(Vs c5 c1.length c6)] 22, rwt aaa 65 3 d5 c5 c6 c1]) [ahc a4 yr.1 a8, blk a9 [(Vs d6 yr.2.length rcap0)] 22, rwt aaa 65 3 e3 d6 rcap0 yr.2] e2) : CR prog 167 [(zap (.yield a4) #[] #[]), (Vp (some ⟨b1, 0, none⟩))] w fun v w' => ∃ (o0 : Option Nat), ∃ (a0 : Option Addr), ∃ (cap0 : Nat), v = (zak #[]) ∧ Hp w (abh [ahc a4 0 a8, blk a9 [(Vs a5 a3.length a6)] 22, blk b1 [(Vs a7 a1.length b0)] 22, rwt aaa 65 3 b6 a5 a6 a3]) [blk a9 [(Vs a0 r.1.length cap0)] 22, blk b1 [(Vs a7 a1.length b0)] 22, rwt aaa 65 3 o0 a0 cap0 r.1, ahc a4 r.2 a8] w' := by
 subst e0
 have hH : Hp w (abh [ahc a4 0 a8, blk a9 [(Vs a5 a3.length a6)] 22, blk b1 [(Vs a7 a1.length b0)] 22, rwt aaa 65 3 b6 a5 a6 a3]) [ahc a4 0 a8, blk a9 [(Vs a5 a3.length a6)] 22, blk b1 [(Vs a7 a1.length b0)] 22, rwt aaa 65 3 b6 a5 a6 a3] w := hM
 refine enterF (k := 16) func167 rfl rfl nbe ?_
 unfold abj at hr
 refine sr (abs hH 2 b1 0 [(Vs a7 a1.length b0)] 22 (Vs a7 a1.length b0) rfl rfl krf krf (wp 2 (nq (ce (lpG (σ := Nat × Int × (List PQ) × (Option Nat) × (Option Addr) × Nat) [0, 5, 6, 7] (fun ⟨c0, a2, b2, b7, b3, b4⟩ => [(7, (Vi .i64 a2))]) (fun ⟨c0, a2, b2, b7, b3, b4⟩ w' => Hp w (abh [ahc a4 0 a8, blk a9 [(Vs a5 a3.length a6)] 22, blk b1 [(Vs a7 a1.length b0)] 22, rwt aaa 65 3 b6 a5 a6 a3]) [ahc a4 0 a8, blk a9 [(Vs b3 b2.length b4)] 22, blk b1 [(Vs a7 a1.length b0)] 22, rwt aaa 65 3 b7 b3 b4 b2] w' ∧ aah fu a1 c0 a2 b2 = some r) (fun ⟨c0, a2, b2, b7, b3, b4⟩ => c0) (fu, (0 : Int), a3, b6, a5, a6) (by exact ⟨(Hp.front (Hp.front (Hp.front (Hp.front hH 3 _ rfl) 3 _ rfl) 3 _ rfl) 3 _ rfl).kp, hr⟩) ?_)))))
 rintro ⟨_ | c0, a2, b2, b7, b3, b4⟩ f5 G ⟨c7, b5⟩
 · exact nzz b5
 rw [aah.eq_2] at b5
 refine sr (wp 1 (nq (cs (cd b5 (fun e4 b5 => ?_) (fun e4 b5 => ?_)))))
 refine ck (qn (cs (ce (sr (gi b5 fun e5 b5 => ahl a7 a1.length b0 65 3 .i64 a2 underlying22 krf krf krf a1 rfl e5 (d3.hpN c7 d4) aab (by decide) (gi b5 fun e6 b5 => ajh a7 aaa a1 3 a2 aab (d3.hpN c7 d4) (Zz0 a1 a2) e6 krf krf krf krf (by decide) ?_))))))
 refine adr c7 (Zz6) 65 (fun b => (Vp (some ⟨b, 0, none⟩))) rfl rfl krf fun b8 f6 e7 => ahq e7 0 b8 0 (Zz6) (Zz0 a1 a2) 65 [blk b8 (Zz0 a1 a2) 65, ahc a4 0 a8, blk a9 [(Vs b3 b2.length b4)] 22, blk b1 [(Vs a7 a1.length b0)] 22, rwt aaa 65 3 b7 b3 b4 b2] rfl nbe krf krf rfl krf rfl fun c2 d7 => nq (sr (wp 1 (ant d7 0 b8 0 3 (Zz0 a1 a2) (Zz0 a1 a2) 65 rfl rfl rfl krf krf krf (bi b5 fun b9 e8 b5 => ?_))))
 have e9 : Hp w (abh [ahc a4 0 a8, blk a9 [(Vs a5 a3.length a6)] 22, blk b1 [(Vs a7 a1.length b0)] 22, rwt aaa 65 3 b6 a5 a6 a3]) [rwt aaa 65 3 b7 b3 b4 b2, blk b8 (Zz0 a1 a2) 65, ahc a4 0 a8, blk a9 [(Vs b3 b2.length b4)] 22, blk b1 [(Vs a7 a1.length b0)] 22] c2 := d7.front 4 _ rfl
 have f0 : Hp w (abh [ahc a4 0 a8, blk a9 [(Vs a5 a3.length a6)] 22, blk b1 [(Vs a7 a1.length b0)] 22, rwt aaa 65 3 b6 a5 a6 a3]) [blk a9 [(Vs b3 b2.length b4)] 22, rwt aaa 65 3 b7 b3 b4 b2, blk b8 (Zz0 a1 a2) 65, ahc a4 0 a8, blk b1 [(Vs a7 a1.length b0)] 22] c2 := e9.front 3 _ rfl
 have d8 : Hp w (abh [ahc a4 0 a8, blk a9 [(Vs a5 a3.length a6)] 22, blk b1 [(Vs a7 a1.length b0)] 22, rwt aaa 65 3 b6 a5 a6 a3]) [ahc a4 0 a8, blk a9 [(Vs b3 b2.length b4)] 22, rwt aaa 65 3 b7 b3 b4 b2, blk b8 (Zz0 a1 a2) 65, blk b1 [(Vs a7 a1.length b0)] 22] c2 := f0.front 3 _ rfl
 have f1 : Hp w (abh [ahc a4 0 a8, blk a9 [(Vs a5 a3.length a6)] 22, blk b1 [(Vs a7 a1.length b0)] 22, rwt aaa 65 3 b6 a5 a6 a3]) [ahc a4 0 a8, blk a9 [(Vs b3 b2.length b4)] 22, rwt aaa 65 3 b7 b3 b4 b2] c2 := Hp.keep (L1 := [ahc a4 0 a8, blk a9 [(Vs b3 b2.length b4)] 22, rwt aaa 65 3 b7 b3 b4 b2]) (L2 := [blk b8 (Zz0 a1 a2) 65, blk b1 [(Vs a7 a1.length b0)] 22]) d8
 refine w_yield a4 [(zan #[(str ((el a1 a2).1)), (str ((el a1 a2).2.1)), (Vb ((el a1 a2).2.2))])] _ krf krf (e1 ((el a1 a2).1, (el a1 a2).2.1, ((el a1 a2).2.2)) b2 b7 b3 b4 c2 f1 b9 e8) ?_
 rintro _ f2 ⟨d0, c8, c9, rfl, d9⟩
 have d1 : Hp w (abh [ahc a4 0 a8, blk a9 [(Vs a5 a3.length a6)] 22, blk b1 [(Vs a7 a1.length b0)] 22, rwt aaa 65 3 b6 a5 a6 a3]) [ahc a4 b9.1 a8, blk a9 [(Vs c8 b9.2.length c9)] 22, rwt aaa 65 3 d0 c8 c9 b9.2, blk b8 (Zz0 a1 a2) 65, blk b1 [(Vs a7 a1.length b0)] 22] f2 := Hp.callK (L1 := [ahc a4 0 a8, blk a9 [(Vs b3 b2.length b4)] 22, rwt aaa 65 3 b7 b3 b4 b2]) (L2 := [blk b8 (Zz0 a1 a2) 65, blk b1 [(Vs a7 a1.length b0)] 22]) d8 d9; clear d9
 by_cases c3 : b9.1 = 0
 replace b5 := ift c3 b5
 rw [c3] at d1
 rw [show decide (b9.1 = 0) = true from (decide_eq_true c3)]
 refine wp 1 (nq (arp krf (ck (bn (qn (cr (gi b5 fun f3 b5 => aae a2 (1 : Int) krf krf f3 ?_)))))))
 refine wp 1 (wl (ql ?_))
 exact ⟨(c0, a2 + (1 : Int), b9.2, d0, c8, c9), _, rfl, by kernel_rfl, ⟨(Hp.front (Hp.front (Hp.front (Hp.front d1 2 _ rfl) 4 _ rfl) 3 _ rfl) 3 _ rfl).kp, b5⟩, zad _⟩
 replace b5 := ifn c3 b5
 rw [show decide (b9.1 = 0) = false from (decide_eq_false c3)]
 refine wp 1 (nq (c_true krf (ct (bt_ (st (adg (bt_ ?_)))))))
 obtain rfl := oi b5
 refine r_none  rfl  ?_
 exact ⟨d0, c8, c9, (by first | rfl | (simp; done) | (simp; omega)), (Hp.front (Hp.front (Hp.front d1 2 _ rfl) 4 _ rfl) 3 _ rfl).kp⟩
 refine abq (abp (aby (abr ?_)))
 obtain rfl := oi b5
 refine aju  rfl  ?_
 exact ⟨b7, b3, b4, (by first | rfl | (simp; done) | (simp; omega)), (Hp.front (Hp.front (Hp.front c7 3 _ rfl) 3 _ rfl) 3 _ rfl).kp⟩
theorem amd {fu : Nat} {s_0 : List PQ} {a4 : List PQ} (a9 : Option Nat) (a2 : Option Addr) (a3 : Nat) (a5 : Nat) (a6 : Option Addr) (d2 : Nat) (a7 : Nat) {w : World} {r : List PQ} (hr : aeg fu s_0 a4 = some r) (hG : Gl w) (e1 : d2 = a4.length) (d3 : Rd w a6 (zai aaa a4)) (e2 : d2 ≤ a7) (hM : Hp w (abh [blk a5 [(Vs a6 a4.length a7)] 22, rwt aaa 65 3 a9 a2 a3 s_0]) [blk a5 [(Vs a6 a4.length a7)] 22, rwt aaa 65 3 a9 a2 a3 s_0] w) (hS : ∀ b ∈ abh [blk a5 [(Vs a6 a4.length a7)] 22, rwt aaa 65 3 a9 a2 a3 s_0], 9 ≤ b) (d4 : zai aaa a4 ≠ [] → ∀ p, a6 = some p → p.block ∉ abh [blk a5 [(Vs a6 a4.length a7)] 22, rwt aaa 65 3 a9 a2 a3 s_0]) : CR prog 200 [(Vs a2 s_0.length a3), (zap (.func 167) #[] #[(Vp (some ⟨a5, 0, none⟩))])] w fun v w' => ∃ (o0 : Option Nat), ∃ (a0 : Option Addr), ∃ (cap0 : Nat), v = (Vs a0 r.length cap0) ∧ Hp w (abh [blk a5 [(Vs a6 a4.length a7)] 22, rwt aaa 65 3 a9 a2 a3 s_0]) [blk a5 [(Vs a6 a4.length a7)] 22, rwt aaa 65 3 o0 a0 cap0 r] w' := by
 subst e1
 have hH : Hp w (abh (Zz65 a5 a6 a4.length a7 a9 a2 a3 s_0)) (Zz65 a5 a6 a4.length a7 a9 a2 a3 s_0) w := hM
 refine enterM (k := 13) func200 rfl rfl nbe ?_
 unfold aeg at hr
 refine sr (adr hH [(Vs a2 s_0.length a3)] 22 (fun b => (Vp (some ⟨b, 0, none⟩))) rfl rfl krf fun b1 w2 e3 => wp 1 (nq (cs (sr (wp 1 ?_)))))
 refine nq (ce (c_rangeFunc e3 167 (Zz45 a5) krf ent167 fun b5 l4 b0 c0 e4 e5 e6 e7 e8 => bi hr fun b4 e9 hr => ?_))
 have f0 : Hp w (abh (Zz65 a5 a6 a4.length a7 a9 a2 a3 s_0)) [rwt aaa 65 3 a9 a2 a3 s_0, ahc l4 0 b0, dfr b5, blk b1 [(Vs a2 s_0.length a3)] 22, blk a5 [(Vs a6 a4.length a7)] 22] c0 := e8.front 4 _ rfl
 have f1 : Hp w (abh (Zz65 a5 a6 a4.length a7 a9 a2 a3 s_0)) [blk a5 [(Vs a6 a4.length a7)] 22, rwt aaa 65 3 a9 a2 a3 s_0, ahc l4 0 b0, dfr b5, blk b1 [(Vs a2 s_0.length a3)] 22] c0 := f0.front 4 _ rfl
 have f2 : Hp w (abh (Zz65 a5 a6 a4.length a7 a9 a2 a3 s_0)) [blk b1 [(Vs a2 s_0.length a3)] 22, blk a5 [(Vs a6 a4.length a7)] 22, rwt aaa 65 3 a9 a2 a3 s_0, ahc l4 0 b0, dfr b5] c0 := f1.front 4 _ rfl
 have b9 : Hp w (abh (Zz65 a5 a6 a4.length a7 a9 a2 a3 s_0)) [ahc l4 0 b0, blk b1 [(Vs a2 s_0.length a3)] 22, blk a5 [(Vs a6 a4.length a7)] 22, rwt aaa 65 3 a9 a2 a3 s_0, dfr b5] c0 := f2.front 3 _ rfl
 have HY6 : ∀  (a1 : PQ) (a8 : List PQ) (b8 : Option Nat) (b2 : Option Addr) (b3 : Nat) (w_ : World), Hp c0 (abh [ahc l4 0 b0, blk b1 [(Vs a2 s_0.length a3)] 22, blk a5 [(Vs a6 a4.length a7)] 22, rwt aaa 65 3 a9 a2 a3 s_0]) [ahc l4 0 b0, blk b1 [(Vs b2 a8.length b3)] 22, rwt aaa 65 3 b8 b2 b3 a8] w_ → ∀ (yr : (Nat × (List PQ))), ada fu a1 a8 = some yr → YR prog l4 [(zan #[(str a1.1), (str a1.2.1), (Vb a1.2.2)])] w_ fun v f3 => ∃ (f4 : Option Nat), ∃ (d5 : Option Addr), ∃ (rcap0 : Nat), v = Vb (decide (yr.1 = 0)) ∧ Hp w_ (abh [ahc l4 0 b0, blk b1 [(Vs b2 a8.length b3)] 22, rwt aaa 65 3 b8 b2 b3 a8]) [ahc l4 yr.1 b0, blk b1 [(Vs d5 yr.2.length rcap0)] 22, rwt aaa 65 3 f4 d5 rcap0 yr.2] f3 := by
  intro a1 a8 b8 b2 b3 c7 c4 yr hyr
  have hH0_ := Hp.callK (L1 := [ahc l4 0 b0, blk b1 [(Vs a2 s_0.length a3)] 22, blk a5 [(Vs a6 a4.length a7)] 22, rwt aaa 65 3 a9 a2 a3 s_0]) (L2 := [dfr b5]) b9 c4
  have hG0_ := hG; replace hG := hG.hp hH0_ hS
  have hS_ := Hp.highs hH0_ hG0_ hS 3 rfl
  unfold ada at hyr
  refine yr_intro (Hp.hand (L1 := [ahc l4 0 b0, blk b1 [(Vs b2 a8.length b3)] 22, rwt aaa 65 3 b8 b2 b3 a8]) (L2 := []) (by simpa using c4)) 0 rfl e4 e5 e6 e7 rfl ?_
  have hH : Hp c7 (abh [ahc l4 0 b0, blk b1 [(Vs b2 a8.length b3)] 22, rwt aaa 65 3 b8 b2 b3 a8]) [ahc l4 0 b0, blk b1 [(Vs b2 a8.length b3)] 22, rwt aaa 65 3 b8 b2 b3 a8] c7 := Hp.hand (L1 := [ahc l4 0 b0, blk b1 [(Vs b2 a8.length b3)] 22, rwt aaa 65 3 b8 b2 b3 a8]) (L2 := []) (by simpa using c4)
  clear hH0_ c4
  refine cr (adr hH (Zz6) 65 (fun b => (Vp (some ⟨b, 0, none⟩))) rfl rfl krf fun c1 g4 f5 => ahq f5 0 c1 0 (Zz6) (Zz42 a1.1 a1.2.1 a1.2.2) 65 [blk c1 (Zz42 a1.1 a1.2.1 a1.2.2) 65, ahc l4 0 b0, blk b1 [(Vs b2 a8.length b3)] 22, rwt aaa 65 3 b8 b2 b3 a8] rfl nbe krf krf rfl krf rfl fun g5 f6 => wl (asg_next f6 1 rfl fun g6 c8 => ce (cr (abs c8 2 b1 0 [(Vs b2 a8.length b3)] 22 (Vs b2 a8.length b3) rfl rfl krf krf (ant c8 0 c1 0 3 (Zz42 a1.1 a1.2.1 a1.2.2) (Zz42 a1.1 a1.2.1 a1.2.2) 65 rfl rfl rfl krf krf krf (adr c8 (Zz42 a1.1 a1.2.1 a1.2.2) 65 (fun b => (Vs (some ⟨b, 0, none⟩) 1 1)) rfl rfl krf fun c5 g7 d6 => ?_))))))
  refine gi hyr fun f7 hyr => adm d6 4 b8 b2 (some ⟨c5, 0, none⟩) b3 1 65 3 40 a8 ([a1] : List PQ) aab rfl underlying22 (by unfold TI; kernel_rfl) (by decide) (by decide) krf (Eq.trans (b := (Vs (some ⟨c5, 0, none⟩) 1 1)) krf (aaj (by first | rfl | (simp; done) | omega | (simp; omega) | (rw [zah]; omega)))) (d6.rdblk 0 rfl) f7 fun c9 c2 c3 f8 d0 => ?_
  replace d0 : Hp c7 (abh [ahc l4 0 b0, blk b1 [(Vs b2 a8.length b3)] 22, rwt aaa 65 3 b8 b2 b3 a8]) [blk c5 (Zz42 a1.1 a1.2.1 a1.2.2) 65, blk c1 (Zz42 a1.1 a1.2.1 a1.2.2) 65, lbusy l4 b0, blk b1 [(Vs b2 a8.length b3)] 22, rwt aaa 65 3 c9 c2 c3 (a8 ++ ([a1] : List PQ))] f8 := d0
  refine aib d0 3 b1 0 [(Vs b2 a8.length b3)] 22 (Vs c2 ((a8 ++ ([a1] : List PQ)).length) c3) [blk c5 (Zz42 a1.1 a1.2.1 a1.2.2) 65, blk c1 (Zz42 a1.1 a1.2.1 a1.2.2) 65, lbusy l4 b0, blk b1 [(Vs c2 ((a8 ++ ([a1] : List PQ)).length) c3)] 22, rwt aaa 65 3 c9 c2 c3 (a8 ++ ([a1] : List PQ))] rfl (zaj (zad _) nbe) krf krf rfl krf rfl fun g8 f9 => wl (bn ?_)
  obtain rfl := oi hyr
  refine rnd_normal f9 2 rfl fun g9 g0 => ?_
  exact ⟨c9, c2, c3, (by first | rfl | (simp; done) | (simp; omega)), (Hp.front (Hp.front (Hp.front g0 4 _ rfl) 4 _ rfl) 4 _ rfl).kp⟩
 refine CR.mono (agp l4 b0 b1 a9 a2 a3 a5 a6 a4.length a7 e9 (hG.hp b9 hS) rfl (d3.hpN b9 d4) e2 (b9.hand (L1 := [ahc l4 0 b0, blk b1 [(Vs a2 s_0.length a3)] 22, blk a5 [(Vs a6 a4.length a7)] 22, rwt aaa 65 3 a9 a2 a3 s_0]) (L2 := [dfr b5])) (b9.highs hG hS 4 rfl) (b9.apartRd 4 d3 d4 rfl) HY6) ?_
 rintro _ d7 ⟨c6, b6, b7, rfl, d8⟩
 have g1 : Hp w (abh (Zz65 a5 a6 a4.length a7 a9 a2 a3 s_0)) [blk b1 [(Vs b6 b4.1.length b7)] 22, blk a5 [(Vs a6 a4.length a7)] 22, rwt aaa 65 3 c6 b6 b7 b4.1, ahc l4 b4.2 b0, dfr b5] d7 := Hp.callK (L1 := [ahc l4 0 b0, blk b1 [(Vs a2 s_0.length a3)] 22, blk a5 [(Vs a6 a4.length a7)] 22, rwt aaa 65 3 a9 a2 a3 s_0]) (L2 := [dfr b5]) b9 d8; clear d8
 have g2 : Hp w (abh (Zz65 a5 a6 a4.length a7 a9 a2 a3 s_0)) [ahc l4 b4.2 b0, blk b1 [(Vs b6 b4.1.length b7)] 22, blk a5 [(Vs a6 a4.length a7)] 22, rwt aaa 65 3 c6 b6 b7 b4.1, dfr b5] d7 := g1.front 3 _ rfl
 refine ⟨b4.2, [blk b1 [(Vs b6 b4.1.length b7)] 22, blk a5 [(Vs a6 a4.length a7)] 22, rwt aaa 65 3 c6 b6 b7 b4.1, dfr b5], g2, ?_⟩
 intro h0 d9
 by_cases d1 : b4.2 = 0
 replace hr := ift d1 hr
 refine rg0 d1 (bn (qn (sr (abs d9 0 b1 0 [(Vs b6 b4.1.length b7)] 22 (Vs b6 b4.1.length b7) rfl rfl krf krf (wp 1 (nq (ct ?_)))))))
 obtain rfl := oi hr
 refine m_fin1 d9 3 b5 rfl _ [(Vs b6 b4.1.length b7)] (Vs b6 b4.1.length b7) rfl rfl (fun g3 e0 => (abe (afd krf) agr)) rfl fun g3 e0 => ?_
 exact ⟨c6, b6, b7, (by first | rfl | (simp; done) | (simp; omega)), (Hp.front (Hp.front e0 2 _ rfl) 2 _ rfl).kp⟩
 replace hr := ifn d1 hr
 exact nzz hr
open Go.IntKind renaming wrap → zaa
open List renaming flatMap → zai, length_take → zah, set → zal
theorem ent108 : Wk.Enters prog 108 := ⟨f108, _, func108, rfl, krf⟩
theorem ent200 : Wk.Enters prog 200 := ⟨f200, _, func200, rfl, krf⟩
theorem amp {fu : Nat} {a1 : List PQ} (a2 : Nat) (a3 : Option Addr) (a9 : Nat) (a4 : Nat) {w : World} {r : List PQ} (hr : adp fu a1 = some r) (hG : Gl w) (b3 : a9 = a1.length) (b0 : Rd w a3 (zai aaa a1)) (b4 : a9 ≤ a4) (hM : Hp w (abh [blk a2 [(Vs a3 a1.length a4)] 22]) [blk a2 [(Vs a3 a1.length a4)] 22] w) (hS : ∀ b ∈ abh [blk a2 [(Vs a3 a1.length a4)] 22], 9 ≤ b) (b1 : zai aaa a1 ≠ [] → ∀ p, a3 = some p → p.block ∉ abh [blk a2 [(Vs a3 a1.length a4)] 22]) : CR prog 166 [(zap (.func 167) #[] #[(Vp (some ⟨a2, 0, none⟩))])] w fun v w' => ∃ (o0 : Option Nat), ∃ (a0 : Option Addr), ∃ (cap0 : Nat), v = (Vs a0 r.length cap0) ∧ Hp w (abh [blk a2 [(Vs a3 a1.length a4)] 22]) [blk a2 [(Vs a3 a1.length a4)] 22, rwt aaa 65 3 o0 a0 cap0 r] w' := by
 subst b3
 have hH : Hp w (abh (Zz83 a2 a3 a1.length a4)) (Zz83 a2 a3 a1.length a4) w := hM
 refine enter (k := 5) func166 rfl rfl nbe ?_
 unfold adp at hr
 refine sr (wp 1 (nq (sr (wp 1 ?_))))
 have a6 := hH.nilrw aaa 65 3 none
 replace a6 : Hp w (abh (Zz83 a2 a3 a1.length a4)) [rwt aaa 65 3 none none 0 ([] : List PQ), blk a2 [(Vs a3 a1.length a4)] 22] w := a6
 refine bi hr fun y1 b5 hr => ?_
 have a5 : Hp w (abh (Zz83 a2 a3 a1.length a4)) [blk a2 [(Vs a3 a1.length a4)] 22, rwt aaa 65 3 none none 0 ([] : List PQ)] w := a6.front 1 _ rfl
 refine aat 200 #[] [(Vs none 0 0), (zap (.func 167) #[] #[(Vp (some ⟨a2, 0, none⟩))])] _ ent200 krf krf (amd (s_0 := ([] : List PQ)) none none 0 a2 a3 a1.length a4 b5 (hG.hp a5 hS) rfl (b0.hpN a5 b1) b4 (a5.hand (L1 := [blk a2 [(Vs a3 a1.length a4)] 22, rwt aaa 65 3 none none 0 ([] : List PQ)]) (L2 := [])) (a5.highs hG hS 2 rfl) (a5.apartRd 2 b0 b1 rfl)) ?_
 rintro _ w3 ⟨o9, a7, a8, rfl, b2⟩
 have b6 : Hp w (abh (Zz83 a2 a3 a1.length a4)) (Zz65 a2 a3 a1.length a4 o9 a7 a8 y1) w3 := Hp.callK (L1 := [blk a2 [(Vs a3 a1.length a4)] 22, rwt aaa 65 3 none none 0 ([] : List PQ)]) (L2 := []) a5 b2; clear b2
 refine wp 1 (nq (ct ?_))
 obtain rfl := oi hr
 refine r_one (Vs a7 y1.length a8) rfl krf ?_
 exact ⟨o9, a7, a8, (by first | rfl | (simp; done) | (simp; omega)), (Hp.front (Hp.front b6 1 _ rfl) 1 _ rfl).kp⟩
theorem akp {fu : Nat} {a0 : PQ} {a1 : PQ} {w : World} {r : Int} (hr : agl fu a0 a1 = some r) (hG : Gl w) : CR prog 108 [(zan #[(str a0.1), (str a0.2.1), (Vb a0.2.2)]), (zan #[(str a1.1), (str a1.2.1), (Vb a1.2.2)])] w fun v w' => v = (Vi .i64 r) ∧ Hp w [] [] w' := by
 have hH := Hp.refl w
 refine enter (k := 10) func108 rfl rfl nbe ?_
 unfold agl at hr
 refine sr (adr hH (Zz42 a0.1 a0.2.1 a0.2.2) 65 (fun b => (Vp (some ⟨b, 0, none⟩))) rfl rfl krf fun b1 w2 a3 => adr a3 (Zz42 a1.1 a1.2.1 a1.2.2) 65 (fun b => (Vp (some ⟨b, 0, none⟩))) rfl rfl krf fun b4 w5 a2 => wp 1 (nq (sr (wp 1 ?_))))
 refine abs a2 1 b1 0 (Zz42 a0.1 a0.2.1 a0.2.2) 65 (str a0.1) rfl rfl krf krf (wp 1 (abs a2 0 b4 0 (Zz42 a1.1 a1.2.1 a1.2.2) 65 (str a1.1) rfl rfl krf krf (bi hr fun y7 a4 hr => wc ent109 a2 (anv a4 (hG.hp0 a2)) fun w9 a5 => wp 1 (nq (ct ?_)))))
 obtain rfl := oi hr
 exact rv a5.kp
theorem afc {fu : Nat} {a6 : List PQ} {b0 : Int} {c0 : Int} (a5 : Option Nat) (a2 : Option Addr) (a3 : Nat) {w : World} {r : List PQ} (hr : aan fu a6 b0 c0 = some r) (hG : Gl w) (hM : Hp w (abh [rwt aaa 65 3 a5 a2 a3 a6]) [rwt aaa 65 3 a5 a2 a3 a6] w) (hS : ∀ b ∈ abh [rwt aaa 65 3 a5 a2 a3 a6], 9 ≤ b) : CR prog 219 [(Vs a2 a6.length a3), (Vi .i64 b0), (Vi .i64 c0), (zap (.func 108) #[] #[])] w fun v w' => v = (zak #[]) ∧ r.length = a6.length ∧ Hp w (abh [rwt aaa 65 3 a5 a2 a3 a6]) [rwt aaa 65 3 a5 a2 a3 r] w' := by
 have hH : Hp w (abh (Zz10 a5 a2 a3 a6)) (Zz10 a5 a2 a3 a6) w := hM
 refine enter (k := 53) func219 rfl rfl nbe ?_
 unfold aan at hr
 refine sr (wp 1 (gi hr fun g1 hr => aae b0 (1 : Int) krf krf g1 (wp 1 (nq (ce (lpG (σ := Nat × (List PQ) × Int) [0, 1, 2, 3, 8] (fun ⟨b5, a9, b2⟩ => [(0, (Vs a2 a9.length a3)), (8, (Vi .i64 b2))]) (fun ⟨b5, a9, b2⟩ w' => Hp w (abh (Zz10 a5 a2 a3 a6)) (Zz10 a5 a2 a3 a9) w' ∧ a9.length = a6.length ∧ aad fu b0 c0 b5 a9 b2 = some r) (fun ⟨b5, a9, b2⟩ => b5) (fu, a6, b0 + (1 : Int)) (by exact ⟨hH.kp, lsz, hr⟩) ?_))))))
 rintro ⟨_ | b5, a9, b2⟩ g0 G ⟨c6, g2, a8⟩
 · exact nzz a8
 rw [aad.eq_2] at a8
 refine cs (sr (wp 3 (nq (cd a8 (fun d4 a8 => ?_) (fun d4 a8 => ?_)))))
 refine ck (qn (bi a8 fun c7 d5 a8 => cut (σ := (List PQ)) [0, 1, 2, 3, 8] (fun b3 => [(0, (Vs a2 b3.length a3))]) (fun b3 w' => Hp w (abh (Zz10 a5 a2 a3 a6)) (Zz10 a5 a2 a3 b3) w' ∧ b3.length = a9.length ∧ b3 = c7) ?_ ?_))
 refine ce (sr (wp 2 (nq (ce (lpG (σ := Nat × (List PQ) × Int) [0, 1, 2, 3, 8, 9] (fun ⟨b4, a1, a0⟩ => [(0, (Vs a2 a1.length a3)), (9, (Vi .i64 a0))]) (fun ⟨b4, a1, a0⟩ w' => Hp w (abh (Zz10 a5 a2 a3 a6)) (Zz10 a5 a2 a3 a1) w' ∧ a1.length = a9.length ∧ aag fu b0 b4 a1 a0 = some c7) (fun ⟨b4, a1, a0⟩ => b4) (fu, a9, b2) (by exact ⟨c6.kp, lsz, d5⟩) ?_)))))
 rintro ⟨_ | b4, a1, a0⟩ g3 G ⟨c1, g4, a4⟩
 · exact nzz a4
 rw [aag.eq_2] at a4
 refine cs (bi a4 fun d6 a7 a4 => age c1 [0, 1, 2, 3, 8, 9, 34] [(34, (Vb d6))] ?_ ?_)
 by_cases b9 : b0 < a0
 replace a7 := ift b9 a7
 refine gi a7 fun d7 a7 => gi a7 fun d8 a7 => gi a7 fun d9 a7 => gi a7 fun e0 a7 => gi a7 fun e1 a7 => aeh 14 (fun j_ w_ w_' => aay [8, 14, 15, 16] (fun w' => Rd w' a2 (zai aaa a1)) j_ w_ w_' ∧ aay [14, 15, 16] (fun w' => Rd w' a2 (zai aaa a1)) j_ w_ w_' ∧ aay [13, 14, 15, 16] (fun w' => Rd w' a2 (zai aaa a1)) j_ w_ w_' ∧ True) (Zz37) (fun _ _ => ⟨aay.same, aay.same, aay.same, trivial⟩) krf krf c1 rfl (aam (ade (aam (aak (aak (aam (aam (aak adb)))))))) fun g5 b6 => rp 11 [0, 1, 2] (rt 3 (Vb true) rfl rfl (aba rfl (by intro w hS_; exact Eq.trans (b := Result.ok (Next.value (.bool (decide (b0 < a0)))) w) krf (congrArg (fun b => Result.ok (Next.value (.bool b)) w) (decide_eq_true b9)))) (rp 7 [4, 5, 6] (aal (Zz86) 7 25 (Vp (some (ea a2 (a0.toNat * 3)))) [8, 14, 15, 16] (fun _ _ _ h => h.1) _ rfl rfl krf krf krf krf krf rfl (aei 21 krf krf krf (by intro w hS_; exact (aqn a2 a1.length a3 65 3 .i64 a0 underlying22 krf krf krf a1 rfl d7 hS_ aab (by decide)))) (by exact (b6.rdrw 0 rfl)) ?_)))
 refine aal (Zz62) 8 26 (zan #[(str ((el a1 a0).1)), (str ((el a1 a0).2.1)), (Vb ((el a1 a0).2.2))]) [14, 15, 16] (fun _ _ _ h => h.2.1) _ rfl rfl krf krf krf krf krf rfl (aei 21 krf krf krf (by intro w hS_; exact (arf a2 aaa a1 3 a0 aab hS_ (Zz0 a1 a0) d8 krf krf krf krf (by decide)))) (by exact (b6.rdrw 0 rfl)) (rp 3 [9, 10] (rt 11 (Vi .i64 (a0 - (1 : Int))) rfl rfl (aei 21 krf krf krf (by intro w hS_; exact (amg a0 (1 : Int) krf krf d9))) (aal (Zz88) 12 30 (Vp (some (ea a2 ((a0 - (1 : Int)).toNat * 3)))) [13, 14, 15, 16] (fun _ _ _ h => h.2.2.1) _ rfl rfl krf krf krf krf krf rfl (aei 21 krf krf krf (by intro w hS_; exact (aqn a2 a1.length a3 65 3 .i64 (a0 - (1 : Int)) underlying22 krf krf krf a1 rfl e0 hS_ aab (by decide)))) (by exact (b6.rdrw 0 rfl)) (aal (Zz91) 13 31 (zan #[(str ((el a1 (a0 - (1 : Int))).1)), (str ((el a1 (a0 - (1 : Int))).2.1)), (Vb ((el a1 (a0 - (1 : Int))).2.2))]) [14, 15, 16] (fun _ _ _ h => h.2.1) _ rfl rfl krf krf krf krf krf rfl (aei 21 krf krf krf (by intro w hS_; exact (arf a2 aaa a1 3 (a0 - (1 : Int)) aab hS_ (Zz9 a1 a0) e1 krf krf krf krf (by decide)))) (by exact (b6.rdrw 0 rfl)) (adn krf (gy 21 (bi a7 fun g6 e2 a7 => wc ent108 b6 (akp e2 (hG.hp b6 hS)) fun g7 e3 => wp 2 ?_)))))))
 refine wl (ql ?_)
 obtain rfl := oi a7
 exact je e3.kp
 replace a7 := ifn b9 a7
 refine aeh 14 (fun j_ w_ w_' => aay [8, 14, 15, 16] (fun w' => Rd w' a2 (zai aaa a1)) j_ w_ w_' ∧ aay [14, 15, 16] (fun w' => Rd w' a2 (zai aaa a1)) j_ w_ w_' ∧ aay [13, 14, 15, 16] (fun w' => Rd w' a2 (zai aaa a1)) j_ w_ w_' ∧ True) (Zz37) (fun _ _ => ⟨aay.same, aay.same, aay.same, trivial⟩) krf krf c1 rfl (aam (ade (aam (aak (aak (aam (aam (aak adb)))))))) fun g8 e4 => rp 11 [0, 1, 2] (rt 3 (Vb false) rfl rfl (aba rfl (by intro w hS_; exact Eq.trans (b := Result.ok (Next.value (.bool (decide (b0 < a0)))) w) krf (congrArg (fun b => Result.ok (Next.value (.bool b)) w) (decide_eq_false b9)))) (rp 0 [4, 5, 6, 7, 8, 9, 10, 11, 12, 13] (adn krf (wp 3 (wl (ql ?_))))))
 obtain rfl := oi a7
 exact je e4.kp
 intro g9 G b8
 refine cb a4 (fun e5 a4 => ?_) (fun e5 a4 => ?_)
 refine ck (qn (cs (ce (gi a4 fun e6 a4 => gi a4 fun e7 a4 => gi a4 fun c8 a4 => ?_))))
 have e8 := ago (b8.rdrw 0 rfl) aab (by decide) c8
 refine gi a4 fun c9 a4 => gi a4 fun d0 a4 => ?_
 have e9 := ago (b8.rdrw 0 rfl) aab (by decide) d0
 refine gi a4 fun d1 a4 => gi a4 fun c2 a4 => ?_
 have d2 := ago (b8.rdrw 0 rfl) aab (by decide) c2
 refine gi a4 fun d3 a4 => cdr 16 b8 (aak (ade (aam (aak (aak (aam (aam (aak adb)))))))) fun h0 b7 => rp 12 [0, 1, 2, 3] (rt 4 (Vi .i64 (a0 - (1 : Int))) rfl rfl (aba rfl (by intro w hS_; exact (amg a0 (1 : Int) krf krf e6))) (rp 9 [5, 6] (rt 7 (Vi .i64 (a0 - (1 : Int))) rfl rfl (aba rfl (by intro w hS_; exact (amg a0 (1 : Int) krf krf e7))) (rt 8 (Vp (some (ea a2 ((a0 - (1 : Int)).toNat * 3)))) rfl rfl (aba rfl (by intro w hS_; exact (amh a2 a1.length a3 65 3 .i64 (a0 - (1 : Int)) underlying22 krf krf krf (afw (l := a1) rfl c8) e8))) (rp 5 [10, 11] (rt 12 (Vp (some (ea a2 (a0.toNat * 3)))) rfl rfl (aba rfl (by intro w hS_; exact (amh a2 a1.length a3 65 3 .i64 a0 underlying22 krf krf krf (afw (l := a1) rfl d0) e9))) (r_one2 (Zz29) (Zz34) 9 13 _ _ rfl rfl krf krf krf rfl rfl ?_ ?_)))))))
 refine ajh a2 aaa a1 3 (a0 - (1 : Int)) aab (b7.rdrw 0 rfl) (Zz9 a1 a0) c9 krf krf krf krf (by decide) (wl (abu (by exact trivial) (ro 13 rfl (ajh a2 aaa a1 3 a0 aab (b7.rdrw 0 rfl) (Zz0 a1 a0) d1 krf krf krf krf (by decide) (wl (abu (by exact trivial) (rt 14 (Vp (some (ea a2 (a0.toNat * 3)))) rfl rfl (aba rfl (by intro w hS_; exact (amh a2 a1.length a3 65 3 .i64 a0 underlying22 krf krf krf (afw (l := a1) rfl c2) d2))) (ro 15 rfl (ami b7 0 a5 a2 a3 65 3 a0 a1 ((el a1 (a0 - (1 : Int))).1, (el a1 (a0 - (1 : Int))).2.1, ((el a1 (a0 - (1 : Int))).2.2)) rfl aab (Zz9 a1 a0) d3 krf krf krf (by decide) krf fun c3 b1 => ?_)))))))))
 replace b1 : Hp w (abh (Zz10 a5 a2 a3 a6)) (Zz21 a5 a2 a3 a1 a0) c3 := b1
 refine wl (abu (by exact trivial) (adn krf (gi a4 fun f0 a4 => ahl a2 a1.length a3 65 3 .i64 (a0 - (1 : Int)) underlying22 krf krf krf (zal a1 (zac a0) ((el a1 (a0 - (1 : Int))).1, (el a1 (a0 - (1 : Int))).2.1, ((el a1 (a0 - (1 : Int))).2.2))) (by first | rfl | (simp; done) | omega | (simp; omega) | (rw [zah]; omega)) f0 (b1.rdrw 0 rfl) aab (by decide) (gi a4 fun f1 a4 => ami b1 0 a5 a2 a3 65 3 (a0 - (1 : Int)) (zal a1 (zac a0) ((el a1 (a0 - (1 : Int))).1, (el a1 (a0 - (1 : Int))).2.1, ((el a1 (a0 - (1 : Int))).2.2))) ((el a1 a0).1, (el a1 a0).2.1, ((el a1 a0).2.2)) rfl aab (Zz0 a1 a0) f1 krf krf krf (by decide) krf fun f2 c4 => ?_))))
 replace c4 : Hp w (abh (Zz10 a5 a2 a3 a6)) (Zz11 a5 a2 a3 a1 a0) f2 := c4
 refine wl (bn (qn (cr (wp 1 (gi a4 fun f3 a4 => adk a0 (1 : Int) krf krf f3 (wp 1 (wl (ql ?_))))))))
 exact ⟨(b4, zal (zal a1 (zac a0) ((el a1 (a0 - (1 : Int))).1, (el a1 (a0 - (1 : Int))).2.1, ((el a1 (a0 - (1 : Int))).2.2))) (zac (a0 - (1 : Int))) ((el a1 a0).1, (el a1 a0).2.1, ((el a1 a0).2.2)), a0 - (1 : Int)), _, rfl, (mc (Eq.trans (b := (Vs a2 a1.length a3)) krf (aaj lsy)) (mc krf (mc krf (mc krf (mc krf (mc krf rfl)))))), ⟨c4.kp, lsz, a4⟩, zad _⟩
 refine ajh a2 aaa a1 3 a0 aab (b7.rdrw 0 rfl) (Zz0 a1 a0) d1 krf krf krf krf (by decide) (wl (abu (by exact trivial) (ro 9 rfl (ajh a2 aaa a1 3 (a0 - (1 : Int)) aab (b7.rdrw 0 rfl) (Zz9 a1 a0) c9 krf krf krf krf (by decide) (wl (abu (by exact trivial) (rt 14 (Vp (some (ea a2 (a0.toNat * 3)))) rfl rfl (aba rfl (by intro w hS_; exact (amh a2 a1.length a3 65 3 .i64 a0 underlying22 krf krf krf (afw (l := a1) rfl c2) d2))) (ro 15 rfl (ami b7 0 a5 a2 a3 65 3 a0 a1 ((el a1 (a0 - (1 : Int))).1, (el a1 (a0 - (1 : Int))).2.1, ((el a1 (a0 - (1 : Int))).2.2)) rfl aab (Zz9 a1 a0) d3 krf krf krf (by decide) krf fun c3 b1 => ?_)))))))))
 replace b1 : Hp w (abh (Zz10 a5 a2 a3 a6)) (Zz21 a5 a2 a3 a1 a0) c3 := b1
 refine wl (abu (by exact trivial) (adn krf (gi a4 fun f4 a4 => ahl a2 a1.length a3 65 3 .i64 (a0 - (1 : Int)) underlying22 krf krf krf (zal a1 (zac a0) ((el a1 (a0 - (1 : Int))).1, (el a1 (a0 - (1 : Int))).2.1, ((el a1 (a0 - (1 : Int))).2.2))) (by first | rfl | (simp; done) | omega | (simp; omega) | (rw [zah]; omega)) f4 (b1.rdrw 0 rfl) aab (by decide) (gi a4 fun f5 a4 => ami b1 0 a5 a2 a3 65 3 (a0 - (1 : Int)) (zal a1 (zac a0) ((el a1 (a0 - (1 : Int))).1, (el a1 (a0 - (1 : Int))).2.1, ((el a1 (a0 - (1 : Int))).2.2))) ((el a1 a0).1, (el a1 a0).2.1, ((el a1 a0).2.2)) rfl aab (Zz0 a1 a0) f5 krf krf krf (by decide) krf fun f6 c5 => ?_))))
 replace c5 : Hp w (abh (Zz10 a5 a2 a3 a6)) (Zz11 a5 a2 a3 a1 a0) f6 := c5
 refine wl (bn (qn (cr (wp 1 (gi a4 fun f7 a4 => adk a0 (1 : Int) krf krf f7 (wp 1 (wl (ql ?_))))))))
 exact ⟨(b4, zal (zal a1 (zac a0) ((el a1 (a0 - (1 : Int))).1, (el a1 (a0 - (1 : Int))).2.1, ((el a1 (a0 - (1 : Int))).2.2))) (zac (a0 - (1 : Int))) ((el a1 a0).1, (el a1 a0).2.1, ((el a1 a0).2.2)), a0 - (1 : Int)), _, rfl, (mc (Eq.trans (b := (Vs a2 a1.length a3)) krf (aaj lsy)) (mc krf (mc krf (mc krf (mc krf (mc krf rfl)))))), ⟨c5.kp, lsz, a4⟩, zad _⟩
 refine abq (abp (aby (abr (bn (ql ?_)))))
 obtain rfl := oi a4
 exact ⟨a1, _, rfl, by kernel_rfl, b8.kp, lsz, rfl⟩
 rintro b3 h1 G ⟨f8, h2, rfl⟩
 refine cr (wp 1 (gi a8 fun f9 a8 => aae b2 (1 : Int) krf krf f9 (wp 1 (wl (ql ?_)))))
 exact ⟨(b5, b3, b2 + (1 : Int)), _, rfl, by kernel_rfl, ⟨f8.kp, lsz, a8⟩, zad _⟩
 refine abq (abp (aby (abr ?_)))
 obtain rfl := oi a8
 refine aju  rfl  ?_
 exact ⟨(by first | rfl | (simp; done) | (simp; omega)), lsz, c6.kp⟩
theorem ads {fu : Nat} {a8 : List PQ} {a3 : Int} {a2 : Int} {b3 : Int} (a7 : Option Nat) (a5 : Option Addr) (a6 : Nat) {w : World} {r : List PQ} (hr : abb fu a8 a3 a2 b3 = some r) (hG : Gl w) (hM : Hp w (abh [rwt aaa 65 3 a7 a5 a6 a8]) [rwt aaa 65 3 a7 a5 a6 a8] w) (hS : ∀ b ∈ abh [rwt aaa 65 3 a7 a5 a6 a8], 9 ≤ b) : CR prog 253 [(Vs a5 a8.length a6), (Vi .i64 a3), (Vi .i64 a2), (Vi .i64 b3), (zap (.func 108) #[] #[])] w fun v w' => v = (zak #[]) ∧ r.length = a8.length ∧ Hp w (abh [rwt aaa 65 3 a7 a5 a6 a8]) [rwt aaa 65 3 a7 a5 a6 r] w' := by
 have hH : Hp w (abh (Zz10 a7 a5 a6 a8)) (Zz10 a7 a5 a6 a8) w := hM
 refine enter (k := 38) func253 rfl rfl nbe ?_
 unfold abb at hr
 refine sr (wp 1 (nq (ce (lpG (σ := Nat × (List PQ) × Int) [0, 1, 2, 3, 10] (fun ⟨b0, a1, a0⟩ => [(0, (Vs a5 a1.length a6)), (10, (Vi .i64 a0))]) (fun ⟨b0, a1, a0⟩ w' => Hp w (abh (Zz10 a7 a5 a6 a8)) (Zz10 a7 a5 a6 a1) w' ∧ a1.length = a8.length ∧ aau fu a3 a2 b3 b0 a1 a0 = some r) (fun ⟨b0, a1, a0⟩ => b0) (fu, a8, (0 : Int)) (by exact ⟨hH.kp, lsz, hr⟩) ?_))))
 rintro ⟨_ | b0, a1, a0⟩ d9 G ⟨b2, e0, a4⟩
 · exact nzz a4
 rw [aau.eq_2] at a4
 refine cs (sr (wp 3 (nq (cd a4 (fun c4 a4 => ?_) (fun c4 a4 => ?_)))))
 refine ck (qn (cs (ce (gi a4 fun c5 a4 => gi a4 fun c6 a4 => gi a4 fun c7 a4 => gi a4 fun b8 a4 => ?_))))
 have c8 := ago (b2.rdrw 0 rfl) aab (by decide) b8
 refine gi a4 fun b9 a4 => gi a4 fun c9 a4 => gi a4 fun c0 a4 => ?_
 have d0 := ago (b2.rdrw 0 rfl) aab (by decide) c0
 refine gi a4 fun c1 a4 => gi a4 fun b4 a4 => ?_
 have c2 := ago (b2.rdrw 0 rfl) aab (by decide) b4
 refine gi a4 fun c3 a4 => cdr 22 b2 (aak (ade (aam (aak adb)))) fun e1 b1 => rp 19 [0, 1, 2] (rt 3 (Vi .i64 (a3 + a0)) rfl rfl (aba rfl (by intro w hS_; exact (aln a3 a0 krf krf c5))) (rp 15 [4, 5, 6] (rt 7 (Vi .i64 (a2 + a0)) rfl rfl (aba rfl (by intro w hS_; exact (aln a2 a0 krf krf c6))) (rp 11 [8, 9, 10] (rt 11 (Vi .i64 (a2 + a0)) rfl rfl (aba rfl (by intro w hS_; exact (aln a2 a0 krf krf c7))) (rt 12 (Vp (some (ea a5 ((a2 + a0).toNat * 3)))) rfl rfl (aba rfl (by intro w hS_; exact (amh a5 a1.length a6 65 3 .i64 (a2 + a0) underlying22 krf krf krf (afw (l := a1) rfl b8) c8))) (rp 6 [14, 15, 16] ?_)))))))
 refine rt 17 (Vi .i64 (a3 + a0)) rfl rfl (aba rfl (by intro w hS_; exact (aln a3 a0 krf krf c9))) (rt 18 (Vp (some (ea a5 ((a3 + a0).toNat * 3)))) rfl rfl (aba rfl (by intro w hS_; exact (amh a5 a1.length a6 65 3 .i64 (a3 + a0) underlying22 krf krf krf (afw (l := a1) rfl c0) d0))) (r_one2 (Zz74) (Zz75) 13 19 _ _ rfl rfl krf krf krf rfl rfl ?_ ?_))
 refine ajh a5 aaa a1 3 (a2 + a0) aab (b1.rdrw 0 rfl) (Zz15 a1 a2 a0) b9 krf krf krf krf (by decide) (wl (abu (by exact trivial) (ro 19 rfl (ajh a5 aaa a1 3 (a3 + a0) aab (b1.rdrw 0 rfl) (Zz15 a1 a3 a0) c1 krf krf krf krf (by decide) (wl (abu (by exact trivial) (rt 20 (Vp (some (ea a5 ((a3 + a0).toNat * 3)))) rfl rfl (aba rfl (by intro w hS_; exact (amh a5 a1.length a6 65 3 .i64 (a3 + a0) underlying22 krf krf krf (afw (l := a1) rfl b4) c2))) (ro 21 rfl (ami b1 0 a7 a5 a6 65 3 (a3 + a0) a1 ((el a1 (a2 + a0)).1, (el a1 (a2 + a0)).2.1, ((el a1 (a2 + a0)).2.2)) rfl aab (Zz15 a1 a2 a0) c3 krf krf krf (by decide) krf fun b5 a9 => ?_)))))))))
 replace a9 : Hp w (abh (Zz10 a7 a5 a6 a8)) (Zz53 a7 a5 a6 a1 a3 a0 a2) b5 := a9
 refine wl (abu (by exact trivial) (adn krf (gi a4 fun d1 a4 => ahl a5 a1.length a6 65 3 .i64 (a2 + a0) underlying22 krf krf krf (zal a1 (zac (a3 + a0)) ((el a1 (a2 + a0)).1, (el a1 (a2 + a0)).2.1, ((el a1 (a2 + a0)).2.2))) (by first | rfl | (simp; done) | omega | (simp; omega) | (rw [zah]; omega)) d1 (a9.rdrw 0 rfl) aab (by decide) (gi a4 fun d2 a4 => ami a9 0 a7 a5 a6 65 3 (a2 + a0) (zal a1 (zac (a3 + a0)) ((el a1 (a2 + a0)).1, (el a1 (a2 + a0)).2.1, ((el a1 (a2 + a0)).2.2))) ((el a1 (a3 + a0)).1, (el a1 (a3 + a0)).2.1, ((el a1 (a3 + a0)).2.2)) rfl aab (Zz15 a1 a3 a0) d2 krf krf krf (by decide) krf fun d3 b6 => ?_))))
 replace b6 : Hp w (abh (Zz10 a7 a5 a6 a8)) (Zz31 a7 a5 a6 a1 a3 a0 a2) d3 := b6
 refine wl (bn (qn (cr (wp 1 (gi a4 fun d4 a4 => aae a0 (1 : Int) krf krf d4 (wp 1 (wl (ql ?_))))))))
 exact ⟨(b0, zal (zal a1 (zac (a3 + a0)) ((el a1 (a2 + a0)).1, (el a1 (a2 + a0)).2.1, ((el a1 (a2 + a0)).2.2))) (zac (a2 + a0)) ((el a1 (a3 + a0)).1, (el a1 (a3 + a0)).2.1, ((el a1 (a3 + a0)).2.2)), a0 + (1 : Int)), _, rfl, (mc (Eq.trans (b := (Vs a5 a1.length a6)) krf (aaj lsy)) (mc krf (mc krf (mc krf (mc krf rfl))))), ⟨b6.kp, lsz, a4⟩, zad _⟩
 refine ajh a5 aaa a1 3 (a3 + a0) aab (b1.rdrw 0 rfl) (Zz15 a1 a3 a0) c1 krf krf krf krf (by decide) (wl (abu (by exact trivial) (ro 13 rfl (ajh a5 aaa a1 3 (a2 + a0) aab (b1.rdrw 0 rfl) (Zz15 a1 a2 a0) b9 krf krf krf krf (by decide) (wl (abu (by exact trivial) (rt 20 (Vp (some (ea a5 ((a3 + a0).toNat * 3)))) rfl rfl (aba rfl (by intro w hS_; exact (amh a5 a1.length a6 65 3 .i64 (a3 + a0) underlying22 krf krf krf (afw (l := a1) rfl b4) c2))) (ro 21 rfl (ami b1 0 a7 a5 a6 65 3 (a3 + a0) a1 ((el a1 (a2 + a0)).1, (el a1 (a2 + a0)).2.1, ((el a1 (a2 + a0)).2.2)) rfl aab (Zz15 a1 a2 a0) c3 krf krf krf (by decide) krf fun b5 a9 => ?_)))))))))
 replace a9 : Hp w (abh (Zz10 a7 a5 a6 a8)) (Zz53 a7 a5 a6 a1 a3 a0 a2) b5 := a9
 refine wl (abu (by exact trivial) (adn krf (gi a4 fun d5 a4 => ahl a5 a1.length a6 65 3 .i64 (a2 + a0) underlying22 krf krf krf (zal a1 (zac (a3 + a0)) ((el a1 (a2 + a0)).1, (el a1 (a2 + a0)).2.1, ((el a1 (a2 + a0)).2.2))) (by first | rfl | (simp; done) | omega | (simp; omega) | (rw [zah]; omega)) d5 (a9.rdrw 0 rfl) aab (by decide) (gi a4 fun d6 a4 => ami a9 0 a7 a5 a6 65 3 (a2 + a0) (zal a1 (zac (a3 + a0)) ((el a1 (a2 + a0)).1, (el a1 (a2 + a0)).2.1, ((el a1 (a2 + a0)).2.2))) ((el a1 (a3 + a0)).1, (el a1 (a3 + a0)).2.1, ((el a1 (a3 + a0)).2.2)) rfl aab (Zz15 a1 a3 a0) d6 krf krf krf (by decide) krf fun d7 b7 => ?_))))
 replace b7 : Hp w (abh (Zz10 a7 a5 a6 a8)) (Zz31 a7 a5 a6 a1 a3 a0 a2) d7 := b7
 refine wl (bn (qn (cr (wp 1 (gi a4 fun d8 a4 => aae a0 (1 : Int) krf krf d8 (wp 1 (wl (ql ?_))))))))
 exact ⟨(b0, zal (zal a1 (zac (a3 + a0)) ((el a1 (a2 + a0)).1, (el a1 (a2 + a0)).2.1, ((el a1 (a2 + a0)).2.2))) (zac (a2 + a0)) ((el a1 (a3 + a0)).1, (el a1 (a3 + a0)).2.1, ((el a1 (a3 + a0)).2.2)), a0 + (1 : Int)), _, rfl, (mc (Eq.trans (b := (Vs a5 a1.length a6)) krf (aaj lsy)) (mc krf (mc krf (mc krf (mc krf rfl))))), ⟨b7.kp, lsz, a4⟩, zad _⟩
 refine abq (abp (aby (abr ?_)))
 obtain rfl := oi a4
 refine aju  rfl  ?_
 exact ⟨(by first | rfl | (simp; done) | (simp; omega)), lsz, b2.kp⟩
theorem ajq {fu : Nat} {a6 : List PQ} {b2 : Int} {a4 : Int} {b3 : Int} (a3 : Option Nat) (a0 : Option Addr) (a1 : Nat) {w : World} {r : List PQ} (hr : abo fu a6 b2 a4 b3 = some r) (hG : Gl w) (hM : Hp w (abh [rwt aaa 65 3 a3 a0 a1 a6]) [rwt aaa 65 3 a3 a0 a1 a6] w) (hS : ∀ b ∈ abh [rwt aaa 65 3 a3 a0 a1 a6], 9 ≤ b) : CR prog 242 [(Vs a0 a6.length a1), (Vi .i64 b2), (Vi .i64 a4), (Vi .i64 b3), (zap (.func 108) #[] #[])] w fun v w' => v = (zak #[]) ∧ r.length = a6.length ∧ Hp w (abh [rwt aaa 65 3 a3 a0 a1 a6]) [rwt aaa 65 3 a3 a0 a1 r] w' := by
 have hH : Hp w (abh (Zz10 a3 a0 a1 a6)) (Zz10 a3 a0 a1 a6) w := hM
 refine enter (k := 58) func242 rfl rfl nbe ?_
 unfold abo at hr
 refine sr (wp 2 (gi hr fun g1 hr => adk a4 b2 krf krf g1 (wp 1 (nq (sr ?_)))))
 refine wp 2 (gi hr fun g2 hr => adk b3 a4 krf krf g2 (wp 1 (nq (bi hr fun b5 c1 hr => cut (σ := ((List PQ) × Int)) [0, 2, 4, 10] (fun a9 => [(0, (Vs a0 a9.1.length a1)), (10, (Vi .i64 a9.2))]) (fun a9 w' => Hp w (abh (Zz10 a3 a0 a1 a6)) (Zz10 a3 a0 a1 a9.1) w' ∧ a9.1.length = a6.length ∧ a9 = b5) ?_ ?_))))
 refine ce (lpG (σ := Nat × (List PQ) × Int × Int) [0, 2, 4, 10, 11] (fun ⟨b1, a7, a5, a8⟩ => [(0, (Vs a0 a7.length a1)), (10, (Vi .i64 a5)), (11, (Vi .i64 a8))]) (fun ⟨b1, a7, a5, a8⟩ w' => Hp w (abh (Zz10 a3 a0 a1 a6)) (Zz10 a3 a0 a1 a7) w' ∧ a7.length = a6.length ∧ aaz fu a4 b1 a7 a5 a8 = some b5) (fun ⟨b1, a7, a5, a8⟩ => b1) (fu, a6, a4 - b2, b3 - a4) (by exact ⟨hH.kp, lsz, c1⟩) ?_)
 rintro ⟨_ | b1, a7, a5, a8⟩ e1 G ⟨b0, e2, a2⟩
 · exact nzz a2
 rw [aaz.eq_2] at a2
 refine cs (sr (wp 3 (nq (cn a2 (fun c2 a2 => ?_) (fun c2 a2 => ?_)))))
 refine ck (qn (ce (sr (wp 3 (nq (cd a2 (fun c3 a2 => ?_) (fun c3 a2 => ?_)))))))
 refine sr (wp 3 (gi a2 fun c4 a2 => adk a4 a5 krf krf c4 (wp 3 (bi a2 fun b6 c5 a2 => aat 253 #[] [(Vs a0 a7.length a1), (Vi .i64 (a4 - a5)), (Vi .i64 a4), (Vi .i64 a8), (zap (.func 108) #[] #[])] _ ent253 krf krf (ads a3 a0 a1 c5 (hG.hp b0 hS) (b0.hand (L1 := (Zz10 a3 a0 a1 a7)) (L2 := [])) (b0.highs hG hS 1 rfl)) ?_))))
 rintro _ c6 ⟨rfl, e3, b7⟩
 have c7 : Hp w (abh (Zz10 a3 a0 a1 a6)) (Zz10 a3 a0 a1 b6) c6 := Hp.callK (L1 := (Zz10 a3 a0 a1 a7)) (L2 := []) b0 b7; clear b7
 refine nq (cr (wp 2 (gi a2 fun c8 a2 => adk a5 a8 krf krf c8 (wp 1 (wl (bn (ql ?_)))))))
 exact ⟨(b1, b6, a5 - a8, a8), _, rfl, (mc (Eq.trans (b := (Vs a0 a7.length a1)) krf (aaj lsy)) (mc krf (mc krf (mc krf (mc krf rfl))))), ⟨c7.kp, lsz, a2⟩, zad _⟩
 refine sr (wp 3 (gi a2 fun c9 a2 => adk a4 a5 krf krf c9 (wp 2 (gi a2 fun d0 a2 => aae a4 a8 krf krf d0 (wp 1 (gi a2 fun d1 a2 => ?_))))))
 refine adk (a4 + a8) a5 krf krf d1 (wp 2 (bi a2 fun b8 d2 a2 => aat 253 #[] [(Vs a0 a7.length a1), (Vi .i64 (a4 - a5)), (Vi .i64 ((a4 + a8) - a5)), (Vi .i64 a5), (zap (.func 108) #[] #[])] _ ent253 krf krf (ads a3 a0 a1 d2 (hG.hp b0 hS) (b0.hand (L1 := (Zz10 a3 a0 a1 a7)) (L2 := [])) (b0.highs hG hS 1 rfl)) ?_))
 rintro _ d3 ⟨rfl, e4, b9⟩
 have d4 : Hp w (abh (Zz10 a3 a0 a1 a6)) (Zz10 a3 a0 a1 b8) d3 := Hp.callK (L1 := (Zz10 a3 a0 a1 a7)) (L2 := []) b0 b9; clear b9
 refine nq (cr (wp 2 (gi a2 fun d5 a2 => adk a8 a5 krf krf d5 (wp 1 (wl (bn (ql ?_)))))))
 exact ⟨(b1, b8, a5, a8 - a5), _, rfl, (mc (Eq.trans (b := (Vs a0 a7.length a1)) krf (aaj lsy)) (mc krf (mc krf (mc krf (mc krf rfl))))), ⟨d4.kp, lsz, a2⟩, zad _⟩
 refine abq (abp (aby (abr (ql ?_))))
 obtain rfl := oi a2
 exact ⟨(a7, a5), _, rfl, by kernel_rfl, b0.kp, lsz, rfl⟩
 rintro a9 e5 G ⟨b4, e6, rfl⟩
 refine cr (wp 3 (gi hr fun d6 hr => adk a4 a9.2 krf krf d6 (wp 3 (bi hr fun d7 d8 hr => aat 253 #[] [(Vs a0 a9.1.length a1), (Vi .i64 (a4 - a9.2)), (Vi .i64 a4), (Vi .i64 a9.2), (zap (.func 108) #[] #[])] _ ent253 krf krf (ads a3 a0 a1 d8 (hG.hp b4 hS) (b4.hand (L1 := (Zz10 a3 a0 a1 a9.1)) (L2 := [])) (b4.highs hG hS 1 rfl)) ?_))))
 rintro _ d9 ⟨rfl, e7, c0⟩
 have e0 : Hp w (abh (Zz10 a3 a0 a1 a6)) (Zz10 a3 a0 a1 d7) d9 := Hp.callK (L1 := (Zz10 a3 a0 a1 a9.1)) (L2 := []) b4 c0; clear c0
 refine wl ?_
 obtain rfl := oi hr
 refine aju  rfl  ?_
 exact ⟨(by first | rfl | (simp; done) | (simp; omega)), lsz, e0.kp⟩
theorem afv : ∀ {fu : Nat} {a5 : List PQ} {a8 : Int} {a9 : Int} {b2 : Int} (a7 : Option Nat) (a0 : Option Addr) (a6 : Nat) {w : World} {r : List PQ} (hr : aao fu a5 a8 a9 b2 = some r) (hG : Gl w) (hM : Hp w (abh [rwt aaa 65 3 a7 a0 a6 a5]) [rwt aaa 65 3 a7 a0 a6 a5] w) (hS : ∀ b ∈ abh [rwt aaa 65 3 a7 a0 a6 a5], 9 ≤ b), CR prog 220 [(Vs a0 a5.length a6), (Vi .i64 a8), (Vi .i64 a9), (Vi .i64 b2), (zap (.func 108) #[] #[])] w fun v w' => v = (zak #[]) ∧ r.length = a5.length ∧ Hp w (abh [rwt aaa 65 3 a7 a0 a6 a5]) [rwt aaa 65 3 a7 a0 a6 r] w' := by
 intro fu
 induction fu with
 | zero =>
  intro a5 a8 a9 b2 a7 a0 a6 w r hr hG hM hS
  exact nzz hr
 | succ fu ih =>
 intro a5 a8 a9 b2 a7 a0 a6 w r hr hG hM hS
 have hH : Hp w (abh (Zz10 a7 a0 a6 a5)) (Zz10 a7 a0 a6 a5) w := hM
 refine enter (k := 220) func220 rfl rfl nbe ?_
 rw [aao.eq_2] at hr
 refine bi hr fun j5 c3 hr => cut1 hH j5 [0, 1, 2, 3, 4] (fun j6 => []) ?_ ?_
 refine sr (wp 2 (gi c3 fun j7 c3 => adk a9 a8 krf krf j7 (wp 1 (nq (cd c3 (fun j8 c3 => ?_) (fun j8 c3 => ?_))))))
 refine sr (wp 2 (nq (sr (wp 2 (nq ?_)))))
 refine bi c3 fun f1 j9 c3 => age hH [0, 1, 2, 3, 4, 10] [(10, (Vi .i64 f1))] ?_ ?_
 refine ce (lpS (fun g4 ⟨b8, b9⟩ => aar fu a5 a8 g4 b8 b9) (a9, b2) hH j9 [0, 1, 2, 3, 4, 10, 11] (fun ⟨b8, b9⟩ => [(10, (Vi .i64 b8)), (11, (Vi .i64 b9))]) (fun _ => rfl) ?_)
 rintro g4 ⟨b8, b9⟩ t4 G g5 b6
 dsimp only at b6
 rw [aar.eq_2] at b6
 refine cs (sr (wp 3 (nq (cd b6 (fun k0 b6 => ?_) (fun k0 b6 => ?_)))))
 refine ck (qn (ce (sr (wp 2 (gi b6 fun k1 b6 => aae b8 b9 krf krf k1 (apc .u64 .i64 (b8 + b9) underlying3 underlying154 krf (w_shr .u64 .u64 (zaa .u64 (b8 + b9)) (1 : Int) 2 krf krf (by decide) (by decide) (by decide) ?_)))))))
 refine apc .i64 .u64 ((zaa .u64 (b8 + b9)) / 2) underlying154 underlying3 krf (wp 1 (nq (cs (gi b6 fun k2 b6 => gi b6 fun k3 b6 => gi b6 fun k4 b6 => gi b6 fun k5 b6 => aeh 9 (fun j_ w_ w_' => aay [4, 9, 10] (fun w' => Rd w' a0 (zai aaa a5)) j_ w_ w_' ∧ aay [9, 10] (fun w' => Rd w' a0 (zai aaa a5)) j_ w_ w_' ∧ aay [8, 9, 10] (fun w' => Rd w' a0 (zai aaa a5)) j_ w_ w_' ∧ True) [false, false, false, false, false, false, false, false, false, false, false] (fun _ _ => ⟨aay.same, aay.same, aay.same, trivial⟩) krf krf g5 rfl (ade (aak (aam (aak (aam (aam adb)))))) fun t5 d3 => ?_))))
 refine rp 6 [0, 1, 2] (aal [true, true, true, true, false, false, false, false, false, false, false] 3 43 (Vp (some (ea a0 ((zaa .i64 ((zaa .u64 (b8 + b9)) / 2)).toNat * 3)))) [4, 9, 10] (fun _ _ _ h => h.1) _ rfl rfl krf krf krf krf krf rfl (aba rfl (by intro w hS_; exact (aqn a0 a5.length a6 65 3 .i64 (zaa .i64 ((zaa .u64 (b8 + b9)) / 2)) underlying22 krf krf krf a5 rfl k2 hS_ aab (by decide)))) (by exact (d3.rdrw 0 rfl)) (aal [true, true, true, true, true, false, false, false, false, false, false] 4 44 (zan #[(str ((el a5 (zaa .i64 ((zaa .u64 (b8 + b9)) / 2))).1)), (str ((el a5 (zaa .i64 ((zaa .u64 (b8 + b9)) / 2))).2.1)), (Vb ((el a5 (zaa .i64 ((zaa .u64 (b8 + b9)) / 2))).2.2))]) [9, 10] (fun _ _ _ h => h.2.1) _ rfl rfl krf krf krf krf krf rfl (aba rfl (by intro w hS_; exact (arf a0 aaa a5 3 (zaa .i64 ((zaa .u64 (b8 + b9)) / 2)) aab hS_ [(str ((el a5 (zaa .i64 ((zaa .u64 (b8 + b9)) / 2))).1)), (str ((el a5 (zaa .i64 ((zaa .u64 (b8 + b9)) / 2))).2.1)), (Vb ((el a5 (zaa .i64 ((zaa .u64 (b8 + b9)) / 2))).2.2))] k3 krf krf krf krf (by decide)))) (by exact (d3.rdrw 0 rfl)) (rp 2 [5, 6] (aal [true, true, true, true, true, true, true, true, false, false, false] 7 47 (Vp (some (ea a0 (a8.toNat * 3)))) [8, 9, 10] (fun _ _ _ h => h.2.2.1) _ rfl rfl krf krf krf krf krf rfl (aba rfl (by intro w hS_; exact (aqn a0 a5.length a6 65 3 .i64 a8 underlying22 krf krf krf a5 rfl k4 hS_ aab (by decide)))) (by exact (d3.rdrw 0 rfl)) (aal [true, true, true, true, true, true, true, true, true, false, false] 8 48 (zan #[(str ((el a5 a8).1)), (str ((el a5 a8).2.1)), (Vb ((el a5 a8).2.2))]) [9, 10] (fun _ _ _ h => h.2.1) _ rfl rfl krf krf krf krf krf rfl (aba rfl (by intro w hS_; exact (arf a0 aaa a5 3 a8 aab hS_ (Zz0 a5 a8) k5 krf krf krf krf (by decide)))) (by exact (d3.rdrw 0 rfl)) (adn krf (bi b6 fun t6 k6 b6 => wc ent108 d3 (akp k6 (hG.hp d3 hS)) fun t7 g6 => wp 1 ?_)))))))
 refine nq (cd b6 (fun k7 b6 => ?_) (fun k7 b6 => ?_))
 exact cr (wp 1 (gi b6 fun k8 b6 => aae (zaa .i64 ((zaa .u64 (b8 + b9)) / 2)) (1 : Int) krf krf k8 (wp 1 (wl (bn (ql (le' ((zaa .i64 ((zaa .u64 (b8 + b9)) / 2)) + (1 : Int), b9) g6.kp b6)))))))
 exact cr (wp 2 (wl (bn (ql (le' (b8, zaa .i64 ((zaa .u64 (b8 + b9)) / 2)) g6.kp b6)))))
 refine abq (abp (aby (abr (ql ?_))))
 obtain rfl := oi b6
 exact je g5.kp
 intro t8 G k9
 refine bi c3 fun g7 l0 c3 => cut (σ := (List PQ)) [0, 1, 2, 3, 4] (fun d4 => [(0, (Vs a0 d4.length a6))]) (fun d4 w' => Hp w (abh (Zz10 a7 a0 a6 a5)) (Zz10 a7 a0 a6 d4) w' ∧ d4.length = a5.length ∧ d4 = g7) ?_ ?_
 refine sr (wp 2 (nq (ce (lpG (σ := Nat × (List PQ) × Int) [0, 1, 2, 3, 4, 10, 13] (fun ⟨d0, a3, a1⟩ => [(0, (Vs a0 a3.length a6)), (13, (Vi .i64 a1))]) (fun ⟨d0, a3, a1⟩ w' => Hp w (abh (Zz10 a7 a0 a6 a5)) (Zz10 a7 a0 a6 a3) w' ∧ a3.length = a5.length ∧ aaw fu f1 d0 a3 a1 = some g7) (fun ⟨d0, a3, a1⟩ => d0) (fu, a5, a8) (by exact ⟨k9.kp, lsz, l0⟩) ?_))))
 rintro ⟨_ | d0, a3, a1⟩ t9 G ⟨e1, u0, b0⟩
 · exact nzz b0
 rw [aaw.eq_2] at b0
 refine cs (sr (wp 2 (gi b0 fun l1 b0 => adk f1 (1 : Int) krf krf l1 (wp 1 (nq (cd b0 (fun l2 b0 => ?_) (fun l2 b0 => ?_)))))))
 refine ck (qn (cs (ce (gi b0 fun l3 b0 => gi b0 fun l4 b0 => gi b0 fun g8 b0 => ?_))))
 have l5 := ago (e1.rdrw 0 rfl) aab (by decide) g8
 refine gi b0 fun g9 b0 => gi b0 fun h0 b0 => ?_
 have l6 := ago (e1.rdrw 0 rfl) aab (by decide) h0
 refine gi b0 fun h1 b0 => gi b0 fun f2 b0 => ?_
 have h2 := ago (e1.rdrw 0 rfl) aab (by decide) f2
 refine gi b0 fun h3 b0 => cdr 16 e1 (aak (ade (aam (aak (aam (aam adb)))))) fun u1 d5 => rp 12 [0, 1, 2, 3] (rt 4 (Vi .i64 (a1 + (1 : Int))) rfl rfl (aba rfl (by intro w hS_; exact (aln a1 (1 : Int) krf krf l3))) (rp 9 [5, 6] (rt 7 (Vi .i64 (a1 + (1 : Int))) rfl rfl (aba rfl (by intro w hS_; exact (aln a1 (1 : Int) krf krf l4))) (rt 8 (Vp (some (ea a0 ((a1 + (1 : Int)).toNat * 3)))) rfl rfl (aba rfl (by intro w hS_; exact (amh a0 a3.length a6 65 3 .i64 (a1 + (1 : Int)) underlying22 krf krf krf (afw (l := a3) rfl g8) l5))) (rp 5 [10, 11] (rt 12 (Vp (some (ea a0 (a1.toNat * 3)))) rfl rfl (aba rfl (by intro w hS_; exact (amh a0 a3.length a6 65 3 .i64 a1 underlying22 krf krf krf (afw (l := a3) rfl h0) l6))) (r_one2 (Zz29) (Zz34) 9 13 _ _ rfl rfl krf krf krf rfl rfl ?_ ?_)))))))
 refine ajh a0 aaa a3 3 (a1 + (1 : Int)) aab (d5.rdrw 0 rfl) (Zz27 a3 a1) g9 krf krf krf krf (by decide) (wl (abu (by exact trivial) (ro 13 rfl (ajh a0 aaa a3 3 a1 aab (d5.rdrw 0 rfl) (Zz0 a3 a1) h1 krf krf krf krf (by decide) (wl (abu (by exact trivial) (rt 14 (Vp (some (ea a0 (a1.toNat * 3)))) rfl rfl (aba rfl (by intro w hS_; exact (amh a0 a3.length a6 65 3 .i64 a1 underlying22 krf krf krf (afw (l := a3) rfl f2) h2))) (ro 15 rfl (ami d5 0 a7 a0 a6 65 3 a1 a3 ((el a3 (a1 + (1 : Int))).1, (el a3 (a1 + (1 : Int))).2.1, ((el a3 (a1 + (1 : Int))).2.2)) rfl aab (Zz27 a3 a1) h3 krf krf krf (by decide) krf fun f3 c5 => ?_)))))))))
 replace c5 : Hp w (abh (Zz10 a7 a0 a6 a5)) (Zz50 a7 a0 a6 a3 a1) f3 := c5
 refine wl (abu (by exact trivial) (adn krf (gi b0 fun l7 b0 => ahl a0 a3.length a6 65 3 .i64 (a1 + (1 : Int)) underlying22 krf krf krf (zal a3 (zac a1) ((el a3 (a1 + (1 : Int))).1, (el a3 (a1 + (1 : Int))).2.1, ((el a3 (a1 + (1 : Int))).2.2))) (by first | rfl | (simp; done) | omega | (simp; omega) | (rw [zah]; omega)) l7 (c5.rdrw 0 rfl) aab (by decide) (gi b0 fun l8 b0 => ami c5 0 a7 a0 a6 65 3 (a1 + (1 : Int)) (zal a3 (zac a1) ((el a3 (a1 + (1 : Int))).1, (el a3 (a1 + (1 : Int))).2.1, ((el a3 (a1 + (1 : Int))).2.2))) ((el a3 a1).1, (el a3 a1).2.1, ((el a3 a1).2.2)) rfl aab (Zz0 a3 a1) l8 krf krf krf (by decide) krf fun l9 f4 => ?_))))
 replace f4 : Hp w (abh (Zz10 a7 a0 a6 a5)) (Zz30 a7 a0 a6 a3 a1) l9 := f4
 refine wl (bn (qn (cr (wp 1 (gi b0 fun m0 b0 => aae a1 (1 : Int) krf krf m0 (wp 1 (wl (ql ?_))))))))
 exact ⟨(d0, zal (zal a3 (zac a1) ((el a3 (a1 + (1 : Int))).1, (el a3 (a1 + (1 : Int))).2.1, ((el a3 (a1 + (1 : Int))).2.2))) (zac (a1 + (1 : Int))) ((el a3 a1).1, (el a3 a1).2.1, ((el a3 a1).2.2)), a1 + (1 : Int)), _, rfl, (mc (Eq.trans (b := (Vs a0 a3.length a6)) krf (aaj lsy)) (mc krf (mc krf (mc krf (mc krf (mc krf (mc krf rfl))))))), ⟨f4.kp, lsz, b0⟩, zad _⟩
 refine ajh a0 aaa a3 3 a1 aab (d5.rdrw 0 rfl) (Zz0 a3 a1) h1 krf krf krf krf (by decide) (wl (abu (by exact trivial) (ro 9 rfl (ajh a0 aaa a3 3 (a1 + (1 : Int)) aab (d5.rdrw 0 rfl) (Zz27 a3 a1) g9 krf krf krf krf (by decide) (wl (abu (by exact trivial) (rt 14 (Vp (some (ea a0 (a1.toNat * 3)))) rfl rfl (aba rfl (by intro w hS_; exact (amh a0 a3.length a6 65 3 .i64 a1 underlying22 krf krf krf (afw (l := a3) rfl f2) h2))) (ro 15 rfl (ami d5 0 a7 a0 a6 65 3 a1 a3 ((el a3 (a1 + (1 : Int))).1, (el a3 (a1 + (1 : Int))).2.1, ((el a3 (a1 + (1 : Int))).2.2)) rfl aab (Zz27 a3 a1) h3 krf krf krf (by decide) krf fun f3 c5 => ?_)))))))))
 replace c5 : Hp w (abh (Zz10 a7 a0 a6 a5)) (Zz50 a7 a0 a6 a3 a1) f3 := c5
 refine wl (abu (by exact trivial) (adn krf (gi b0 fun m1 b0 => ahl a0 a3.length a6 65 3 .i64 (a1 + (1 : Int)) underlying22 krf krf krf (zal a3 (zac a1) ((el a3 (a1 + (1 : Int))).1, (el a3 (a1 + (1 : Int))).2.1, ((el a3 (a1 + (1 : Int))).2.2))) (by first | rfl | (simp; done) | omega | (simp; omega) | (rw [zah]; omega)) m1 (c5.rdrw 0 rfl) aab (by decide) (gi b0 fun m2 b0 => ami c5 0 a7 a0 a6 65 3 (a1 + (1 : Int)) (zal a3 (zac a1) ((el a3 (a1 + (1 : Int))).1, (el a3 (a1 + (1 : Int))).2.1, ((el a3 (a1 + (1 : Int))).2.2))) ((el a3 a1).1, (el a3 a1).2.1, ((el a3 a1).2.2)) rfl aab (Zz0 a3 a1) m2 krf krf krf (by decide) krf fun m3 f5 => ?_))))
 replace f5 : Hp w (abh (Zz10 a7 a0 a6 a5)) (Zz30 a7 a0 a6 a3 a1) m3 := f5
 refine wl (bn (qn (cr (wp 1 (gi b0 fun m4 b0 => aae a1 (1 : Int) krf krf m4 (wp 1 (wl (ql ?_))))))))
 exact ⟨(d0, zal (zal a3 (zac a1) ((el a3 (a1 + (1 : Int))).1, (el a3 (a1 + (1 : Int))).2.1, ((el a3 (a1 + (1 : Int))).2.2))) (zac (a1 + (1 : Int))) ((el a3 a1).1, (el a3 a1).2.1, ((el a3 a1).2.2)), a1 + (1 : Int)), _, rfl, (mc (Eq.trans (b := (Vs a0 a3.length a6)) krf (aaj lsy)) (mc krf (mc krf (mc krf (mc krf (mc krf (mc krf rfl))))))), ⟨f5.kp, lsz, b0⟩, zad _⟩
 refine abq (abp (aby (abr (ql ?_))))
 obtain rfl := oi b0
 exact ⟨a3, _, rfl, by kernel_rfl, e1.kp, lsz, rfl⟩
 rintro d4 u2 G ⟨m5, u3, rfl⟩
 refine ct (adg ?_)
 obtain rfl := oi c3
 obtain rfl := oi hr
 refine r_none  rfl  ?_
 exact ⟨(by first | rfl | (simp; done) | (simp; omega)), lsz, m5.kp⟩
 refine ck (ql ?_)
 obtain rfl := oi c3
 exact je1 rfl hH.kp
 rintro j6 u4 G e9 rfl
 refine bi hr fun m6 c4 hr => cut1 e9 m6 [0, 1, 2, 3, 4] (fun m7 => []) ?_ ?_
 refine sr (wp 2 (gi c4 fun m8 c4 => adk b2 a9 krf krf m8 (wp 1 (nq (cd c4 (fun m9 c4 => ?_) (fun m9 c4 => ?_))))))
 refine sr (wp 2 (nq (sr (wp 2 (nq ?_)))))
 refine bi c4 fun h4 n0 c4 => age e9 [0, 1, 2, 3, 4, 14] [(14, (Vi .i64 h4))] ?_ ?_
 refine ce (lpS (fun h5 ⟨c0, c1⟩ => aaq fu a5 a9 h5 c0 c1) (a8, a9) e9 n0 [0, 1, 2, 3, 4, 14, 15] (fun ⟨c0, c1⟩ => [(14, (Vi .i64 c0)), (15, (Vi .i64 c1))]) (fun _ => rfl) ?_)
 rintro h5 ⟨c0, c1⟩ u5 G h6 b7
 dsimp only at b7
 rw [aaq.eq_2] at b7
 refine cs (sr (wp 3 (nq (cd b7 (fun n1 b7 => ?_) (fun n1 b7 => ?_)))))
 refine ck (qn (ce (sr (wp 2 (gi b7 fun n2 b7 => aae c0 c1 krf krf n2 (apc .u64 .i64 (c0 + c1) underlying3 underlying154 krf (w_shr .u64 .u64 (zaa .u64 (c0 + c1)) (1 : Int) 2 krf krf (by decide) (by decide) (by decide) ?_)))))))
 refine apc .i64 .u64 ((zaa .u64 (c0 + c1)) / 2) underlying154 underlying3 krf (wp 1 (nq (cs (gi b7 fun n3 b7 => gi b7 fun n4 b7 => gi b7 fun n5 b7 => gi b7 fun n6 b7 => aeh 9 (fun j_ w_ w_' => aay [4, 9, 10, 11] (fun w' => Rd w' a0 (zai aaa a5)) j_ w_ w_' ∧ aay [9, 10, 11] (fun w' => Rd w' a0 (zai aaa a5)) j_ w_ w_' ∧ aay [8, 9, 10, 11] (fun w' => Rd w' a0 (zai aaa a5)) j_ w_ w_' ∧ True) (Zz51) (fun _ _ => ⟨aay.same, aay.same, aay.same, trivial⟩) krf krf h6 rfl (ade (aak (aam (aak (aam (aam adb)))))) fun u6 d6 => ?_))))
 refine rp 6 [0, 1, 2] (aal (Zz72) 3 95 (Vp (some (ea a0 (a9.toNat * 3)))) [4, 9, 10, 11] (fun _ _ _ h => h.1) _ rfl rfl krf krf krf krf krf rfl (aba rfl (by intro w hS_; exact (aqn a0 a5.length a6 65 3 .i64 a9 underlying22 krf krf krf a5 rfl n3 hS_ aab (by decide)))) (by exact (d6.rdrw 0 rfl)) (aal (Zz59) 4 96 (zan #[(str ((el a5 a9).1)), (str ((el a5 a9).2.1)), (Vb ((el a5 a9).2.2))]) [9, 10, 11] (fun _ _ _ h => h.2.1) _ rfl rfl krf krf krf krf krf rfl (aba rfl (by intro w hS_; exact (arf a0 aaa a5 3 a9 aab hS_ (Zz0 a5 a9) n4 krf krf krf krf (by decide)))) (by exact (d6.rdrw 0 rfl)) (rp 2 [5, 6] (aal [true, true, true, true, true, true, true, true, false, false, false, false] 7 99 (Vp (some (ea a0 ((zaa .i64 ((zaa .u64 (c0 + c1)) / 2)).toNat * 3)))) [8, 9, 10, 11] (fun _ _ _ h => h.2.2.1) _ rfl rfl krf krf krf krf krf rfl (aba rfl (by intro w hS_; exact (aqn a0 a5.length a6 65 3 .i64 (zaa .i64 ((zaa .u64 (c0 + c1)) / 2)) underlying22 krf krf krf a5 rfl n5 hS_ aab (by decide)))) (by exact (d6.rdrw 0 rfl)) (aal (Zz64) 8 100 (zan #[(str ((el a5 (zaa .i64 ((zaa .u64 (c0 + c1)) / 2))).1)), (str ((el a5 (zaa .i64 ((zaa .u64 (c0 + c1)) / 2))).2.1)), (Vb ((el a5 (zaa .i64 ((zaa .u64 (c0 + c1)) / 2))).2.2))]) [9, 10, 11] (fun _ _ _ h => h.2.1) _ rfl rfl krf krf krf krf krf rfl (aba rfl (by intro w hS_; exact (arf a0 aaa a5 3 (zaa .i64 ((zaa .u64 (c0 + c1)) / 2)) aab hS_ [(str ((el a5 (zaa .i64 ((zaa .u64 (c0 + c1)) / 2))).1)), (str ((el a5 (zaa .i64 ((zaa .u64 (c0 + c1)) / 2))).2.1)), (Vb ((el a5 (zaa .i64 ((zaa .u64 (c0 + c1)) / 2))).2.2))] n6 krf krf krf krf (by decide)))) (by exact (d6.rdrw 0 rfl)) (adn krf (bi b7 fun u7 n7 b7 => wc ent108 d6 (akp n7 (hG.hp d6 hS)) fun u9 h7 => wp 2 ?_)))))))
 refine nq (cn b7 (fun n8 b7 => ?_) (fun n8 b7 => ?_))
 exact cr (wp 1 (gi b7 fun n9 b7 => aae (zaa .i64 ((zaa .u64 (c0 + c1)) / 2)) (1 : Int) krf krf n9 (wp 1 (wl (bn (ql (le' ((zaa .i64 ((zaa .u64 (c0 + c1)) / 2)) + (1 : Int), c1) h7.kp b7)))))))
 exact cr (wp 2 (wl (bn (ql (le' (c0, zaa .i64 ((zaa .u64 (c0 + c1)) / 2)) h7.kp b7)))))
 refine abq (abp (aby (abr (ql ?_))))
 obtain rfl := oi b7
 exact je h6.kp
 intro v0 G o0
 refine bi c4 fun h8 o1 c4 => cut (σ := (List PQ)) [0, 1, 2, 3, 4] (fun d7 => [(0, (Vs a0 d7.length a6))]) (fun d7 w' => Hp w (abh (Zz10 a7 a0 a6 a5)) (Zz10 a7 a0 a6 d7) w' ∧ d7.length = a5.length ∧ d7 = h8) ?_ ?_
 refine sr (wp 2 (nq (ce (lpG (σ := Nat × (List PQ) × Int) [0, 1, 2, 3, 4, 14, 17] (fun ⟨d1, a4, a2⟩ => [(0, (Vs a0 a4.length a6)), (17, (Vi .i64 a2))]) (fun ⟨d1, a4, a2⟩ w' => Hp w (abh (Zz10 a7 a0 a6 a5)) (Zz10 a7 a0 a6 a4) w' ∧ a4.length = a5.length ∧ aav fu h4 d1 a4 a2 = some h8) (fun ⟨d1, a4, a2⟩ => d1) (fu, a5, a9) (by exact ⟨o0.kp, lsz, o1⟩) ?_))))
 rintro ⟨_ | d1, a4, a2⟩ v1 G ⟨e2, v2, b1⟩
 · exact nzz b1
 rw [aav.eq_2] at b1
 refine cs (sr (wp 3 (nq (cd b1 (fun o2 b1 => ?_) (fun o2 b1 => ?_)))))
 refine ck (qn (cs (ce (gi b1 fun o3 b1 => gi b1 fun o4 b1 => gi b1 fun h9 b1 => ?_))))
 have o5 := ago (e2.rdrw 0 rfl) aab (by decide) h9
 refine gi b1 fun i0 b1 => gi b1 fun i1 b1 => ?_
 have o6 := ago (e2.rdrw 0 rfl) aab (by decide) i1
 refine gi b1 fun i2 b1 => gi b1 fun f6 b1 => ?_
 have i3 := ago (e2.rdrw 0 rfl) aab (by decide) f6
 refine gi b1 fun i4 b1 => cdr 16 e2 (aak (ade (aam (aak (aam (aam adb)))))) fun v3 d8 => rp 12 [0, 1, 2, 3] (rt 4 (Vi .i64 (a2 - (1 : Int))) rfl rfl (aba rfl (by intro w hS_; exact (amg a2 (1 : Int) krf krf o3))) (rp 9 [5, 6] (rt 7 (Vi .i64 (a2 - (1 : Int))) rfl rfl (aba rfl (by intro w hS_; exact (amg a2 (1 : Int) krf krf o4))) (rt 8 (Vp (some (ea a0 ((a2 - (1 : Int)).toNat * 3)))) rfl rfl (aba rfl (by intro w hS_; exact (amh a0 a4.length a6 65 3 .i64 (a2 - (1 : Int)) underlying22 krf krf krf (afw (l := a4) rfl h9) o5))) (rp 5 [10, 11] (rt 12 (Vp (some (ea a0 (a2.toNat * 3)))) rfl rfl (aba rfl (by intro w hS_; exact (amh a0 a4.length a6 65 3 .i64 a2 underlying22 krf krf krf (afw (l := a4) rfl i1) o6))) (r_one2 (Zz29) (Zz34) 9 13 _ _ rfl rfl krf krf krf rfl rfl ?_ ?_)))))))
 refine ajh a0 aaa a4 3 (a2 - (1 : Int)) aab (d8.rdrw 0 rfl) (Zz9 a4 a2) i0 krf krf krf krf (by decide) (wl (abu (by exact trivial) (ro 13 rfl (ajh a0 aaa a4 3 a2 aab (d8.rdrw 0 rfl) (Zz0 a4 a2) i2 krf krf krf krf (by decide) (wl (abu (by exact trivial) (rt 14 (Vp (some (ea a0 (a2.toNat * 3)))) rfl rfl (aba rfl (by intro w hS_; exact (amh a0 a4.length a6 65 3 .i64 a2 underlying22 krf krf krf (afw (l := a4) rfl f6) i3))) (ro 15 rfl (ami d8 0 a7 a0 a6 65 3 a2 a4 ((el a4 (a2 - (1 : Int))).1, (el a4 (a2 - (1 : Int))).2.1, ((el a4 (a2 - (1 : Int))).2.2)) rfl aab (Zz9 a4 a2) i4 krf krf krf (by decide) krf fun f7 c6 => ?_)))))))))
 replace c6 : Hp w (abh (Zz10 a7 a0 a6 a5)) (Zz21 a7 a0 a6 a4 a2) f7 := c6
 refine wl (abu (by exact trivial) (adn krf (gi b1 fun o7 b1 => ahl a0 a4.length a6 65 3 .i64 (a2 - (1 : Int)) underlying22 krf krf krf (zal a4 (zac a2) ((el a4 (a2 - (1 : Int))).1, (el a4 (a2 - (1 : Int))).2.1, ((el a4 (a2 - (1 : Int))).2.2))) (by first | rfl | (simp; done) | omega | (simp; omega) | (rw [zah]; omega)) o7 (c6.rdrw 0 rfl) aab (by decide) (gi b1 fun o8 b1 => ami c6 0 a7 a0 a6 65 3 (a2 - (1 : Int)) (zal a4 (zac a2) ((el a4 (a2 - (1 : Int))).1, (el a4 (a2 - (1 : Int))).2.1, ((el a4 (a2 - (1 : Int))).2.2))) ((el a4 a2).1, (el a4 a2).2.1, ((el a4 a2).2.2)) rfl aab (Zz0 a4 a2) o8 krf krf krf (by decide) krf fun o9 f8 => ?_))))
 replace f8 : Hp w (abh (Zz10 a7 a0 a6 a5)) (Zz11 a7 a0 a6 a4 a2) o9 := f8
 refine wl (bn (qn (cr (wp 1 (gi b1 fun p0 b1 => adk a2 (1 : Int) krf krf p0 (wp 1 (wl (ql ?_))))))))
 exact ⟨(d1, zal (zal a4 (zac a2) ((el a4 (a2 - (1 : Int))).1, (el a4 (a2 - (1 : Int))).2.1, ((el a4 (a2 - (1 : Int))).2.2))) (zac (a2 - (1 : Int))) ((el a4 a2).1, (el a4 a2).2.1, ((el a4 a2).2.2)), a2 - (1 : Int)), _, rfl, (mc (Eq.trans (b := (Vs a0 a4.length a6)) krf (aaj lsy)) (mc krf (mc krf (mc krf (mc krf (mc krf (mc krf rfl))))))), ⟨f8.kp, lsz, b1⟩, zad _⟩
 refine ajh a0 aaa a4 3 a2 aab (d8.rdrw 0 rfl) (Zz0 a4 a2) i2 krf krf krf krf (by decide) (wl (abu (by exact trivial) (ro 9 rfl (ajh a0 aaa a4 3 (a2 - (1 : Int)) aab (d8.rdrw 0 rfl) (Zz9 a4 a2) i0 krf krf krf krf (by decide) (wl (abu (by exact trivial) (rt 14 (Vp (some (ea a0 (a2.toNat * 3)))) rfl rfl (aba rfl (by intro w hS_; exact (amh a0 a4.length a6 65 3 .i64 a2 underlying22 krf krf krf (afw (l := a4) rfl f6) i3))) (ro 15 rfl (ami d8 0 a7 a0 a6 65 3 a2 a4 ((el a4 (a2 - (1 : Int))).1, (el a4 (a2 - (1 : Int))).2.1, ((el a4 (a2 - (1 : Int))).2.2)) rfl aab (Zz9 a4 a2) i4 krf krf krf (by decide) krf fun f7 c6 => ?_)))))))))
 replace c6 : Hp w (abh (Zz10 a7 a0 a6 a5)) (Zz21 a7 a0 a6 a4 a2) f7 := c6
 refine wl (abu (by exact trivial) (adn krf (gi b1 fun p1 b1 => ahl a0 a4.length a6 65 3 .i64 (a2 - (1 : Int)) underlying22 krf krf krf (zal a4 (zac a2) ((el a4 (a2 - (1 : Int))).1, (el a4 (a2 - (1 : Int))).2.1, ((el a4 (a2 - (1 : Int))).2.2))) (by first | rfl | (simp; done) | omega | (simp; omega) | (rw [zah]; omega)) p1 (c6.rdrw 0 rfl) aab (by decide) (gi b1 fun p2 b1 => ami c6 0 a7 a0 a6 65 3 (a2 - (1 : Int)) (zal a4 (zac a2) ((el a4 (a2 - (1 : Int))).1, (el a4 (a2 - (1 : Int))).2.1, ((el a4 (a2 - (1 : Int))).2.2))) ((el a4 a2).1, (el a4 a2).2.1, ((el a4 a2).2.2)) rfl aab (Zz0 a4 a2) p2 krf krf krf (by decide) krf fun p3 f9 => ?_))))
 replace f9 : Hp w (abh (Zz10 a7 a0 a6 a5)) (Zz11 a7 a0 a6 a4 a2) p3 := f9
 refine wl (bn (qn (cr (wp 1 (gi b1 fun p4 b1 => adk a2 (1 : Int) krf krf p4 (wp 1 (wl (ql ?_))))))))
 exact ⟨(d1, zal (zal a4 (zac a2) ((el a4 (a2 - (1 : Int))).1, (el a4 (a2 - (1 : Int))).2.1, ((el a4 (a2 - (1 : Int))).2.2))) (zac (a2 - (1 : Int))) ((el a4 a2).1, (el a4 a2).2.1, ((el a4 a2).2.2)), a2 - (1 : Int)), _, rfl, (mc (Eq.trans (b := (Vs a0 a4.length a6)) krf (aaj lsy)) (mc krf (mc krf (mc krf (mc krf (mc krf (mc krf rfl))))))), ⟨f9.kp, lsz, b1⟩, zad _⟩
 refine abq (abp (aby (abr (ql ?_))))
 obtain rfl := oi b1
 exact ⟨a4, _, rfl, by kernel_rfl, e2.kp, lsz, rfl⟩
 rintro d7 v4 G ⟨p5, v5, rfl⟩
 refine ct (adg ?_)
 obtain rfl := oi c4
 obtain rfl := oi hr
 refine r_none  rfl  ?_
 exact ⟨(by first | rfl | (simp; done) | (simp; omega)), lsz, p5.kp⟩
 refine ck (ql ?_)
 obtain rfl := oi c4
 exact je1 rfl e9.kp
 rintro m7 v6 G g0 rfl
 refine sr (wp 2 (gi hr fun p6 hr => aae a8 b2 krf krf p6 (apc .u64 .i64 (a8 + b2) underlying3 underlying154 krf (w_shr .u64 .u64 (zaa .u64 (a8 + b2)) (1 : Int) 2 krf krf (by decide) (by decide) (by decide) (apc .i64 .u64 ((zaa .u64 (a8 + b2)) / 2) underlying154 underlying3 krf (wp 1 (wl ?_)))))))
 refine qn (sr (wp 2 (gi hr fun p7 hr => aae (zaa .i64 ((zaa .u64 (a8 + b2)) / 2)) a9 krf krf p7 (wp 1 (nq (cs ?_))))))
 refine cr (wp 2 (nq (bi hr fun f0 d2 hr => age g0 [0, 1, 2, 3, 4, 18, 19, 20, 21] [(20, (Vi .i64 f0.1)), (21, (Vi .i64 f0.2))] ?_ ?_)))
 refine sr (wp 3 (nq (cd d2 (fun p8 d2 => ?_) (fun p8 d2 => ?_))))
 refine sr (wp 2 (gi d2 fun p9 d2 => adk ((zaa .i64 ((zaa .u64 (a8 + b2)) / 2)) + a9) b2 krf krf p9 (wp 1 (nq (cr (wp 2 ?_))))))
 refine wl (ql ?_)
 obtain rfl := oi d2
 exact je g0.kp
 refine sr (wp 2 (nq (cr (wp 2 (wl (ql ?_))))))
 obtain rfl := oi d2
 exact je g0.kp
 intro v7 G i5
 refine sr (wp 1 (gi hr fun q0 hr => adk ((zaa .i64 ((zaa .u64 (a8 + b2)) / 2)) + a9) (1 : Int) krf krf q0 (wp 1 (nq (bi hr fun d9 q1 hr => age i5 [0, 1, 2, 3, 4, 18, 19, 20] [(20, (Vi .i64 d9))] ?_ ?_)))))
 refine ce (lpS (fun i6 ⟨b3, b4⟩ => aap fu a5 a8 a9 b2 i6 b3 b4) (f0.1, f0.2) i5 q1 [0, 1, 2, 3, 4, 18, 19, 20, 21, 22] (fun ⟨b3, b4⟩ => [(20, (Vi .i64 b3)), (21, (Vi .i64 b4))]) (fun _ => rfl) ?_)
 rintro i6 ⟨b3, b4⟩ v8 G i7 b5
 dsimp only at b5
 rw [aap.eq_2] at b5
 refine cs (sr (wp 3 (nq (cd b5 (fun q2 b5 => ?_) (fun q2 b5 => ?_)))))
 refine ck (qn (ce (sr (wp 2 (gi b5 fun q3 b5 => aae b3 b4 krf krf q3 (apc .u64 .i64 (b3 + b4) underlying3 underlying154 krf (w_shr .u64 .u64 (zaa .u64 (b3 + b4)) (1 : Int) 2 krf krf (by decide) (by decide) (by decide) ?_)))))))
 refine apc .i64 .u64 ((zaa .u64 (b3 + b4)) / 2) underlying154 underlying3 krf (wp 1 (nq (cs (gi b5 fun q4 b5 => gi b5 fun q5 b5 => gi b5 fun q6 b5 => gi b5 fun q7 b5 => gi b5 fun q8 b5 => ?_))))
 refine aeh 11 (fun j_ w_ w_' => aay [6, 11, 12, 13] (fun w' => Rd w' a0 (zai aaa a5)) j_ w_ w_' ∧ aay [11, 12, 13] (fun w' => Rd w' a0 (zai aaa a5)) j_ w_ w_' ∧ aay [10, 11, 12, 13] (fun w' => Rd w' a0 (zai aaa a5)) j_ w_ w_' ∧ True) (Zz66) (fun _ _ => ⟨aay.same, aay.same, aay.same, trivial⟩) krf krf i7 rfl (ade (aak (aam (aak (aam adb))))) fun v9 e0 => rp 7 [0, 1, 2, 3] (rt 4 (Vi .i64 ((((zaa .i64 ((zaa .u64 (a8 + b2)) / 2)) + a9) - (1 : Int)) - (zaa .i64 ((zaa .u64 (b3 + b4)) / 2)))) rfl rfl (aba rfl (by intro w hS_; exact (amg (((zaa .i64 ((zaa .u64 (a8 + b2)) / 2)) + a9) - (1 : Int)) (zaa .i64 ((zaa .u64 (b3 + b4)) / 2)) krf krf q4))) (aal (Zz70) 5 163 (Vp (some (ea a0 (((((zaa .i64 ((zaa .u64 (a8 + b2)) / 2)) + a9) - (1 : Int)) - (zaa .i64 ((zaa .u64 (b3 + b4)) / 2))).toNat * 3)))) [6, 11, 12, 13] (fun _ _ _ h => h.1) _ rfl rfl krf krf krf krf krf rfl (aba rfl (by intro w hS_; exact (aqn a0 a5.length a6 65 3 .i64 ((((zaa .i64 ((zaa .u64 (a8 + b2)) / 2)) + a9) - (1 : Int)) - (zaa .i64 ((zaa .u64 (b3 + b4)) / 2))) underlying22 krf krf krf a5 rfl q5 hS_ aab (by decide)))) (by exact (e0.rdrw 0 rfl)) (aal [true, true, true, true, true, true, true, false, false, false, false, false, false, false] 6 164 (zan #[(str ((el a5 ((((zaa .i64 ((zaa .u64 (a8 + b2)) / 2)) + a9) - (1 : Int)) - (zaa .i64 ((zaa .u64 (b3 + b4)) / 2)))).1)), (str ((el a5 ((((zaa .i64 ((zaa .u64 (a8 + b2)) / 2)) + a9) - (1 : Int)) - (zaa .i64 ((zaa .u64 (b3 + b4)) / 2)))).2.1)), (Vb ((el a5 ((((zaa .i64 ((zaa .u64 (a8 + b2)) / 2)) + a9) - (1 : Int)) - (zaa .i64 ((zaa .u64 (b3 + b4)) / 2)))).2.2))]) [11, 12, 13] (fun _ _ _ h => h.2.1) _ rfl rfl krf krf krf krf krf rfl (aba rfl (by intro w hS_; exact (arf a0 aaa a5 3 ((((zaa .i64 ((zaa .u64 (a8 + b2)) / 2)) + a9) - (1 : Int)) - (zaa .i64 ((zaa .u64 (b3 + b4)) / 2))) aab hS_ [(str ((el a5 ((((zaa .i64 ((zaa .u64 (a8 + b2)) / 2)) + a9) - (1 : Int)) - (zaa .i64 ((zaa .u64 (b3 + b4)) / 2)))).1)), (str ((el a5 ((((zaa .i64 ((zaa .u64 (a8 + b2)) / 2)) + a9) - (1 : Int)) - (zaa .i64 ((zaa .u64 (b3 + b4)) / 2)))).2.1)), (Vb ((el a5 ((((zaa .i64 ((zaa .u64 (a8 + b2)) / 2)) + a9) - (1 : Int)) - (zaa .i64 ((zaa .u64 (b3 + b4)) / 2)))).2.2))] q6 krf krf krf krf (by decide)))) (by exact (e0.rdrw 0 rfl)) (rp 2 [7, 8] (aal (Zz71) 9 167 (Vp (some (ea a0 ((zaa .i64 ((zaa .u64 (b3 + b4)) / 2)).toNat * 3)))) [10, 11, 12, 13] (fun _ _ _ h => h.2.2.1) _ rfl rfl krf krf krf krf krf rfl (aba rfl (by intro w hS_; exact (aqn a0 a5.length a6 65 3 .i64 (zaa .i64 ((zaa .u64 (b3 + b4)) / 2)) underlying22 krf krf krf a5 rfl q7 hS_ aab (by decide)))) (by exact (e0.rdrw 0 rfl)) (aal [true, true, true, true, true, true, true, true, true, true, true, false, false, false] 10 168 (zan #[(str ((el a5 (zaa .i64 ((zaa .u64 (b3 + b4)) / 2))).1)), (str ((el a5 (zaa .i64 ((zaa .u64 (b3 + b4)) / 2))).2.1)), (Vb ((el a5 (zaa .i64 ((zaa .u64 (b3 + b4)) / 2))).2.2))]) [11, 12, 13] (fun _ _ _ h => h.2.1) _ rfl rfl krf krf krf krf krf rfl (aba rfl (by intro w hS_; exact (arf a0 aaa a5 3 (zaa .i64 ((zaa .u64 (b3 + b4)) / 2)) aab hS_ [(str ((el a5 (zaa .i64 ((zaa .u64 (b3 + b4)) / 2))).1)), (str ((el a5 (zaa .i64 ((zaa .u64 (b3 + b4)) / 2))).2.1)), (Vb ((el a5 (zaa .i64 ((zaa .u64 (b3 + b4)) / 2))).2.2))] q8 krf krf krf krf (by decide)))) (by exact (e0.rdrw 0 rfl)) (adn krf (bi b5 fun w0 q9 b5 => ?_))))))))
 refine wc ent108 e0 (akp q9 (hG.hp e0 hS)) fun w1 i9 => wp 2 (nq (cn b5 (fun r0 b5 => ?_) (fun r0 b5 => ?_)))
 exact cr (wp 1 (gi b5 fun r1 b5 => aae (zaa .i64 ((zaa .u64 (b3 + b4)) / 2)) (1 : Int) krf krf r1 (wp 1 (wl (bn (ql (le' ((zaa .i64 ((zaa .u64 (b3 + b4)) / 2)) + (1 : Int), b4) i9.kp b5)))))))
 exact cr (wp 2 (wl (bn (ql (le' (b3, zaa .i64 ((zaa .u64 (b3 + b4)) / 2)) i9.kp b5)))))
 refine abq (abp (aby (abr (ql ?_))))
 obtain rfl := oi b5
 exact je i7.kp
 intro w2 G g1
 refine sr (wp 2 (gi hr fun r2 hr => adk ((zaa .i64 ((zaa .u64 (a8 + b2)) / 2)) + a9) d9 krf krf r2 (wp 1 (nq (bi hr fun r3 c7 hr => cut (σ := (List PQ)) [0, 1, 3, 4, 18, 20, 24] (fun c2 => [(0, (Vs a0 c2.length a6))]) (fun c2 w' => Hp w (abh (Zz10 a7 a0 a6 a5)) (Zz10 a7 a0 a6 c2) w' ∧ c2.length = a5.length ∧ c2 = r3) ?_ ?_)))))
 refine bi c7 fun r4 e3 c7 => age g1 [0, 1, 2, 3, 4, 18, 20, 24, 185] [(185, (Vb r4))] ?_ ?_
 refine cr (wp 3 (wd e3 (fun r5 e3 => ?_) (fun r5 e3 => ?_)))
 refine wp 4 (wl (ql ?_))
 obtain rfl := oi e3
 exact je g1.kp
 refine wp 4 (wl (ql ?_))
 obtain rfl := oi e3
 exact je g1.kp
 intro w3 G e4
 refine cb c7 (fun r6 c7 => ?_) (fun r6 c7 => ?_)
 refine cr (wp 5 (bi c7 fun j0 r7 c7 => aat 242 #[] [(Vs a0 a5.length a6), (Vi .i64 d9), (Vi .i64 a9), (Vi .i64 (((zaa .i64 ((zaa .u64 (a8 + b2)) / 2)) + a9) - d9)), (zap (.func 108) #[] #[])] _ ent242 krf krf (ajq a7 a0 a6 r7 (hG.hp e4 hS) (e4.hand (L1 := (Zz10 a7 a0 a6 a5)) (L2 := [])) (e4.highs hG hS 1 rfl)) ?_))
 rintro _ r8 ⟨rfl, w4, j1⟩
 have r9 : Hp w (abh (Zz10 a7 a0 a6 a5)) (Zz10 a7 a0 a6 j0) r8 := Hp.callK (L1 := (Zz10 a7 a0 a6 a5)) (L2 := []) e4 j1; clear j1
 refine wl (ql ?_)
 obtain rfl := oi c7
 exact ⟨j0, _, rfl, (mc (Eq.trans (b := (Vs a0 a5.length a6)) krf (aaj lsy)) (mc krf (mc krf (mc krf (mc krf (mc krf (mc krf rfl))))))), r9.kp, lsz, rfl⟩
 refine ck (ql ?_)
 obtain rfl := oi c7
 exact ⟨a5, _, rfl, by kernel_rfl, e4.kp, lsz, rfl⟩
 rintro c2 w5 G ⟨g2, w6, rfl⟩
 refine bi hr fun s0 c8 hr => cut (σ := (List PQ)) [0, 3, 4, 18, 24] (fun c9 => [(0, (Vs a0 c9.length a6))]) (fun c9 w' => Hp w (abh (Zz10 a7 a0 a6 a5)) (Zz10 a7 a0 a6 c9) w' ∧ c9.length = c2.length ∧ c9 = s0) ?_ ?_
 refine bi c8 fun s1 e5 c8 => age g2 [0, 1, 3, 4, 18, 20, 24, 199] [(199, (Vb s1))] ?_ ?_
 refine cr (wp 3 (wd e5 (fun s2 e5 => ?_) (fun s2 e5 => ?_)))
 refine wp 4 (wl (ql ?_))
 obtain rfl := oi e5
 exact je g2.kp
 refine wp 4 (wl (ql ?_))
 obtain rfl := oi e5
 exact je g2.kp
 intro w7 G e6
 refine cb c8 (fun s3 c8 => ?_) (fun s3 c8 => ?_)
 refine cr (wp 5 (bi c8 fun j2 s4 c8 => aat 220 #[] [(Vs a0 c2.length a6), (Vi .i64 a8), (Vi .i64 d9), (Vi .i64 (zaa .i64 ((zaa .u64 (a8 + b2)) / 2))), (zap (.func 108) #[] #[])] _ ent220 krf krf (ih a7 a0 a6 s4 (hG.hp e6 hS) (e6.hand (L1 := (Zz10 a7 a0 a6 c2)) (L2 := [])) (e6.highs hG hS 1 rfl)) ?_))
 rintro _ s5 ⟨rfl, w8, j3⟩
 have s6 : Hp w (abh (Zz10 a7 a0 a6 a5)) (Zz10 a7 a0 a6 j2) s5 := Hp.callK (L1 := (Zz10 a7 a0 a6 c2)) (L2 := []) e6 j3; clear j3
 refine wl (ql ?_)
 obtain rfl := oi c8
 exact ⟨j2, _, rfl, (mc (Eq.trans (b := (Vs a0 c2.length a6)) krf (aaj lsy)) (mc krf (mc krf (mc krf (mc krf rfl))))), s6.kp, lsz, rfl⟩
 refine ck (ql ?_)
 obtain rfl := oi c8
 exact ⟨c2, _, rfl, by kernel_rfl, e6.kp, lsz, rfl⟩
 rintro c9 w9 G ⟨g3, x0, rfl⟩
 refine bi hr fun s7 e7 hr => age g3 [0, 3, 4, 18, 24, 213] [(213, (Vb s7))] ?_ ?_
 refine cr (wp 3 (wd e7 (fun s8 e7 => ?_) (fun s8 e7 => ?_)))
 refine wp 4 (wl (ql ?_))
 obtain rfl := oi e7
 exact je g3.kp
 refine wp 4 (wl (ql ?_))
 obtain rfl := oi e7
 exact je g3.kp
 intro x2 G e8
 refine cb hr (fun s9 hr => ?_) (fun s9 hr => ?_)
 refine cr (wp 5 (bi hr fun t0 t1 hr => aat 220 #[] [(Vs a0 c9.length a6), (Vi .i64 (zaa .i64 ((zaa .u64 (a8 + b2)) / 2))), (Vi .i64 (((zaa .i64 ((zaa .u64 (a8 + b2)) / 2)) + a9) - d9)), (Vi .i64 b2), (zap (.func 108) #[] #[])] _ ent220 krf krf (ih a7 a0 a6 t1 (hG.hp e8 hS) (e8.hand (L1 := (Zz10 a7 a0 a6 c9)) (L2 := [])) (e8.highs hG hS 1 rfl)) ?_))
 rintro _ t2 ⟨rfl, x3, j4⟩
 have t3 : Hp w (abh (Zz10 a7 a0 a6 a5)) (Zz10 a7 a0 a6 t0) t2 := Hp.callK (L1 := (Zz10 a7 a0 a6 c9)) (L2 := []) e8 j4; clear j4
 refine wl ?_
 obtain rfl := oi hr
 refine aju  rfl  ?_
 exact ⟨(by first | rfl | (simp; done) | (simp; omega)), lsz, t3.kp⟩
 refine ck ?_
 obtain rfl := oi hr
 refine aju  rfl  ?_
 exact ⟨(by first | rfl | (simp; done) | (simp; omega)), lsz, e8.kp⟩
theorem ajp {fu : Nat} {a4 : List PQ} {b6 : Int} (a2 : Option Nat) (a0 : Option Addr) (a1 : Nat) {w : World} {r : List PQ} (hr : ack fu a4 b6 = some r) (hG : Gl w) (hM : Hp w (abh [rwt aaa 65 3 a2 a0 a1 a4]) [rwt aaa 65 3 a2 a0 a1 a4] w) (hS : ∀ b ∈ abh [rwt aaa 65 3 a2 a0 a1 a4], 9 ≤ b) : CR prog 183 [(Vs a0 a4.length a1), (Vi .i64 b6), (zap (.func 108) #[] #[])] w fun v w' => v = (zak #[]) ∧ r.length = a4.length ∧ Hp w (abh [rwt aaa 65 3 a2 a0 a1 a4]) [rwt aaa 65 3 a2 a0 a1 r] w' := by
 have hH : Hp w (abh (Zz10 a2 a0 a1 a4)) (Zz10 a2 a0 a1 a4) w := hM
 refine enter (k := 63) func183 rfl rfl nbe ?_
 unfold ack at hr
 refine sr (wp 1 (nq (sr (wp 3 (nq ?_)))))
 refine bi hr fun c6 d6 hr => cut (σ := ((List PQ) × Int)) [0, 1, 2, 6, 7] (fun a8 => [(0, (Vs a0 a8.1.length a1)), (7, (Vi .i64 a8.2))]) (fun a8 w' => Hp w (abh (Zz10 a2 a0 a1 a4)) (Zz10 a2 a0 a1 a8.1) w' ∧ a8.1.length = a4.length ∧ a8 = c6) ?_ ?_
 refine ce (lpG (σ := Nat × (List PQ) × Int × Int) [0, 1, 2, 6, 7, 8] (fun ⟨b9, a9, b7, b3⟩ => (Zz100 a0 a9.length a1 b7 b3)) (fun ⟨b9, a9, b7, b3⟩ w' => Hp w (abh (Zz10 a2 a0 a1 a4)) (Zz10 a2 a0 a1 a9) w' ∧ a9.length = a4.length ∧ aai fu b6 b9 a9 b7 b3 = some c6) (fun ⟨b9, a9, b7, b3⟩ => b9) (fu, a4, (0 : Int), (20 : Int)) (by exact ⟨hH.kp, lsz, d6⟩) ?_)
 rintro ⟨_ | b9, a9, b7, b3⟩ g2 G ⟨c1, g3, b1⟩
 · exact nzz b1
 rw [aai.eq_2] at b1
 refine cs (sr (wp 3 (nq (cd b1 (fun d7 b1 => ?_) (fun d7 b1 => ?_)))))
 refine ck (qn (ce (sr (wp 4 (bi b1 fun c7 d8 b1 => aat 219 #[] [(Vs a0 a9.length a1), (Vi .i64 b7), (Vi .i64 b3), (zap (.func 108) #[] #[])] _ ent219 krf krf (afc a2 a0 a1 d8 (hG.hp c1 hS) (c1.hand (L1 := (Zz10 a2 a0 a1 a9)) (L2 := [])) (c1.highs hG hS 1 rfl)) ?_)))))
 rintro _ d9 ⟨rfl, g4, c8⟩
 have e0 : Hp w (abh (Zz10 a2 a0 a1 a4)) (Zz10 a2 a0 a1 c7) d9 := Hp.callK (L1 := (Zz10 a2 a0 a1 a9)) (L2 := []) c1 c8; clear c8
 refine nq (sr (wp 2 (nq (cr (wp 2 (gi b1 fun e1 b1 => ?_))))))
 refine aae b3 (20 : Int) krf krf e1 (wp 1 (wl (bn (ql ?_))))
 exact ⟨(b9, c7, b3, b3 + (20 : Int)), _, rfl, (mc (Eq.trans (b := (Vs a0 a9.length a1)) krf (aaj lsy)) (mc krf (mc krf (mc krf (mc krf (mc krf rfl)))))), ⟨e0.kp, lsz, b1⟩, zad _⟩
 refine abq (abp (aby (abr (ql ?_))))
 obtain rfl := oi b1
 exact ⟨(a9, b7), _, rfl, by kernel_rfl, c1.kp, lsz, rfl⟩
 rintro a8 g5 G ⟨c4, g6, rfl⟩
 refine sr (wp 4 (bi hr fun c5 e2 hr => aat 219 #[] [(Vs a0 a8.1.length a1), (Vi .i64 a8.2), (Vi .i64 b6), (zap (.func 108) #[] #[])] _ ent219 krf krf (afc a2 a0 a1 e2 (hG.hp c4 hS) (c4.hand (L1 := (Zz10 a2 a0 a1 a8.1)) (L2 := [])) (c4.highs hG hS 1 rfl)) ?_))
 rintro _ e3 ⟨rfl, g7, c9⟩
 have e4 : Hp w (abh (Zz10 a2 a0 a1 a4)) (Zz10 a2 a0 a1 c5) e3 := Hp.callK (L1 := (Zz10 a2 a0 a1 a8.1)) (L2 := []) c4 c9; clear c9
 refine nq (ce (lpG (σ := Nat × (List PQ) × Int) [0, 1, 2, 6] (fun ⟨b8, b2, a5⟩ => [(0, (Vs a0 b2.length a1)), (6, (Vi .i64 a5))]) (fun ⟨b8, b2, a5⟩ w' => Hp w (abh (Zz10 a2 a0 a1 a4)) (Zz10 a2 a0 a1 b2) w' ∧ b2.length = c5.length ∧ aaf fu b6 b8 b2 a5 = some r) (fun ⟨b8, b2, a5⟩ => b8) (fu, c5, (20 : Int)) (by exact ⟨e4.kp, lsz, hr⟩) ?_ (mc (Eq.trans (b := (Vs a0 a8.1.length a1)) krf (aaj lsy)) (mc krf (mc krf (mc krf rfl))))))
 rintro ⟨_ | b8, b2, a5⟩ g8 G ⟨d0, g9, a3⟩
 · exact nzz a3
 rw [aaf.eq_2] at a3
 refine cs (sr (wp 3 (nq (cd a3 (fun e5 a3 => ?_) (fun e5 a3 => ?_)))))
 refine ck (qn (ce (sr (wp 1 (gi a3 fun e6 a3 => aou (2 : Int) a5 krf krf e6 (wp 2 (wl ?_)))))))
 refine qn (bi a3 fun d1 e7 a3 => cut (σ := ((List PQ) × Int)) [0, 1, 2, 6, 7] (fun a6 => [(0, (Vs a0 a6.1.length a1)), (7, (Vi .i64 a6.2))]) (fun a6 w' => Hp w (abh (Zz10 a2 a0 a1 a4)) (Zz10 a2 a0 a1 a6.1) w' ∧ a6.1.length = b2.length ∧ a6 = d1) ?_ ?_)
 refine ce (lpG (σ := Nat × (List PQ) × Int × Int) [0, 1, 2, 6, 7, 8] (fun ⟨c0, b0, b4, b5⟩ => (Zz100 a0 b0.length a1 b4 b5)) (fun ⟨c0, b0, b4, b5⟩ w' => Hp w (abh (Zz10 a2 a0 a1 a4)) (Zz10 a2 a0 a1 b0) w' ∧ b0.length = b2.length ∧ aas fu b6 a5 c0 b0 b4 b5 = some d1) (fun ⟨c0, b0, b4, b5⟩ => c0) (fu, b2, (0 : Int), (2 : Int) * a5) (by exact ⟨d0.kp, lsz, e7⟩) ?_)
 rintro ⟨_ | c0, b0, b4, b5⟩ h0 G ⟨c2, h1, a7⟩
 · exact nzz a7
 rw [aas.eq_2] at a7
 refine cs (sr (wp 3 (nq (cd a7 (fun e8 a7 => ?_) (fun e8 a7 => ?_)))))
 refine ck (qn (ce (sr (wp 4 (gi a7 fun e9 a7 => aae b4 a5 krf krf e9 (wp 2 (bi a7 fun d2 f0 a7 => ?_)))))))
 refine aat 220 #[] [(Vs a0 b0.length a1), (Vi .i64 b4), (Vi .i64 (b4 + a5)), (Vi .i64 b5), (zap (.func 108) #[] #[])] _ ent220 krf krf (afv a2 a0 a1 f0 (hG.hp c2 hS) (c2.hand (L1 := (Zz10 a2 a0 a1 b0)) (L2 := [])) (c2.highs hG hS 1 rfl)) ?_
 rintro _ f1 ⟨rfl, h2, d3⟩
 have f2 : Hp w (abh (Zz10 a2 a0 a1 a4)) (Zz10 a2 a0 a1 d2) f1 := Hp.callK (L1 := (Zz10 a2 a0 a1 b0)) (L2 := []) c2 d3; clear d3
 refine nq (sr (wp 2 (nq (cr (wp 2 (gi a7 fun f3 a7 => ?_))))))
 refine aou (2 : Int) a5 krf krf f3 (gi a7 fun f4 a7 => aae b5 ((2 : Int) * a5) krf krf f4 (wp 1 (wl (bn (ql ?_)))))
 exact ⟨(c0, d2, b5, b5 + ((2 : Int) * a5)), _, rfl, (mc (Eq.trans (b := (Vs a0 b0.length a1)) krf (aaj lsy)) (mc krf (mc krf (mc krf (mc krf (mc krf rfl)))))), ⟨f2.kp, lsz, a7⟩, zad _⟩
 refine abq (abp (aby (abr (ql ?_))))
 obtain rfl := oi a7
 exact ⟨(b0, b4), _, rfl, by kernel_rfl, c2.kp, lsz, rfl⟩
 rintro a6 h3 G ⟨c3, h4, rfl⟩
 refine cs (sr (wp 2 (gi a3 fun f5 a3 => aae a6.2 a5 krf krf f5 (wp 1 (nq (cs ?_))))))
 refine cr (wp 3 (nq (cd a3 (fun f6 a3 => ?_) (fun f6 a3 => ?_))))
 refine cr (wp 5 (bi a3 fun d4 f7 a3 => aat 220 #[] [(Vs a0 a6.1.length a1), (Vi .i64 a6.2), (Vi .i64 (a6.2 + a5)), (Vi .i64 b6), (zap (.func 108) #[] #[])] _ ent220 krf krf (afv a2 a0 a1 f7 (hG.hp c3 hS) (c3.hand (L1 := (Zz10 a2 a0 a1 a6.1)) (L2 := [])) (c3.highs hG hS 1 rfl)) ?_))
 rintro _ f8 ⟨rfl, h5, d5⟩
 have f9 : Hp w (abh (Zz10 a2 a0 a1 a4)) (Zz10 a2 a0 a1 d4) f8 := Hp.callK (L1 := (Zz10 a2 a0 a1 a6.1)) (L2 := []) c3 d5; clear d5
 refine nq (cr (wp 1 (gi a3 fun g0 a3 => aou a5 (2 : Int) krf krf g0 (wp 1 (wl (bn (ql ?_)))))))
 exact ⟨(b8, d4, a5 * (2 : Int)), _, rfl, (mc (Eq.trans (b := (Vs a0 a6.1.length a1)) krf (aaj lsy)) (mc krf (mc krf (mc krf rfl)))), ⟨f9.kp, lsz, a3⟩, zad _⟩
 refine ck (qn (cr (wp 1 (gi a3 fun g1 a3 => aou a5 (2 : Int) krf krf g1 (wp 1 (wl (bn (ql ?_))))))))
 exact ⟨(b8, a6.1, a5 * (2 : Int)), _, rfl, by kernel_rfl, ⟨c3.kp, lsz, a3⟩, zad _⟩
 refine abq (abp (aby (abr ?_)))
 obtain rfl := oi a3
 refine aju  rfl  ?_
 exact ⟨(by first | rfl | (simp; done) | (simp; omega)), lsz, d0.kp⟩
theorem ajm {fu : Nat} {a0 : List PQ} (a3 : Option Nat) (a1 : Option Addr) (a2 : Nat) {w : World} {r : List PQ} (hr : aci fu a0 = some r) (hG : Gl w) (hM : Hp w (abh [rwt aaa 65 3 a3 a1 a2 a0]) [rwt aaa 65 3 a3 a1 a2 a0] w) (hS : ∀ b ∈ abh [rwt aaa 65 3 a3 a1 a2 a0], 9 ≤ b) : CR prog 136 [(Vs a1 a0.length a2), (zap (.func 108) #[] #[])] w fun v w' => v = (zak #[]) ∧ r.length = a0.length ∧ Hp w (abh [rwt aaa 65 3 a3 a1 a2 a0]) [rwt aaa 65 3 a3 a1 a2 r] w' := by
 have hH : Hp w (abh (Zz10 a3 a1 a2 a0)) (Zz10 a3 a1 a2 a0) w := hM
 refine enter (k := 9) func136 rfl rfl nbe ?_
 unfold aci at hr
 refine cr (wp 4 (bi hr fun y1 a5 hr => aat 183 #[] [(Vs a1 a0.length a2), (Vi .i64 (a0.length : Int)), (zap (.func 108) #[] #[])] _ ent183 krf krf (ajp a3 a1 a2 a5 (hG.hp hH hS) (hH.hand (L1 := (Zz10 a3 a1 a2 a0)) (L2 := [])) (hH.highs hG hS 1 rfl)) ?_))
 rintro _ w3 ⟨rfl, a7, a4⟩
 have a6 : Hp w (abh (Zz10 a3 a1 a2 a0)) (Zz10 a3 a1 a2 y1) w3 := Hp.callK (L1 := (Zz10 a3 a1 a2 a0)) (L2 := []) hH a4; clear a4
 refine wl ?_
 obtain rfl := oi hr
 refine aju  rfl  ?_
 exact ⟨(by first | rfl | (simp; done) | (simp; omega)), lsz, a6.kp⟩
open List renaming drop → zam, flatMap → zai, length_take → zah, take → zaz
theorem ent49 : Wk.Enters prog 49 := ⟨f49, _, func49, rfl, krf⟩
theorem ent106 : Wk.Enters prog 106 := ⟨f106, _, func106, rfl, krf⟩
theorem ent107 : Wk.Enters prog 107 := ⟨f107, _, func107, rfl, krf⟩
theorem ent166 : Wk.Enters prog 166 := ⟨f166, _, func166, rfl, krf⟩
theorem ahh {fu : Nat} {a1 : List PQ} (a2 : Nat) (a3 : Option Addr) (a6 : Nat) (a4 : Nat) {w : World} {r : List PQ} (hr : abc fu a1 = some r) (hG : Gl w) (b2 : a6 = a1.length) (a8 : Rd w a3 (zai aaa a1)) (b3 : a6 ≤ a4) (hM : Hp w (abh [blk a2 [(Vs a3 a1.length a4)] 22]) [blk a2 [(Vs a3 a1.length a4)] 22] w) (hS : ∀ b ∈ abh [blk a2 [(Vs a3 a1.length a4)] 22], 9 ≤ b) (a9 : zai aaa a1 ≠ [] → ∀ p, a3 = some p → p.block ∉ abh [blk a2 [(Vs a3 a1.length a4)] 22]) : CR prog 106 [(zap (.func 167) #[] #[(Vp (some ⟨a2, 0, none⟩))]), (zap (.func 108) #[] #[])] w fun v w' => ∃ (o0 : Option Nat), ∃ (a0 : Option Addr), ∃ (cap0 : Nat), v = (Vs a0 r.length cap0) ∧ Hp w (abh [blk a2 [(Vs a3 a1.length a4)] 22]) [blk a2 [(Vs a3 a1.length a4)] 22, rwt aaa 65 3 o0 a0 cap0 r] w' := by
 subst b2
 have hH : Hp w (abh (Zz83 a2 a3 a1.length a4)) (Zz83 a2 a3 a1.length a4) w := hM
 refine enter (k := 12) func106 rfl rfl nbe ?_
 unfold abc at hr
 refine sr (wp 1 (nq (sr (wp 1 (bi hr fun y1 b4 hr => aat 166 #[] [(zap (.func 167) #[] #[(Vp (some ⟨a2, 0, none⟩))])] _ ent166 krf krf (amp a2 a3 a1.length a4 b4 (hG.hp hH hS) rfl (a8.hpN hH a9) b3 (hH.hand (L1 := (Zz83 a2 a3 a1.length a4)) (L2 := [])) (hH.highs hG hS 1 rfl) (hH.apartRd 1 a8 a9 rfl)) ?_)))))
 rintro _ w3 ⟨o6, a7, cap8, rfl, b0⟩
 have b5 : Hp w (abh (Zz83 a2 a3 a1.length a4)) (Zz65 a2 a3 a1.length a4 o6 a7 cap8 y1) w3 := Hp.callK (L1 := (Zz83 a2 a3 a1.length a4)) (L2 := []) hH b0; clear b0
 refine wp 1 (nq (sr (wp 2 (bi hr fun y9 b6 hr => ?_))))
 have a5 : Hp w (abh (Zz83 a2 a3 a1.length a4)) [rwt aaa 65 3 o6 a7 cap8 y1, blk a2 [(Vs a3 a1.length a4)] 22] w3 := b5.front 1 _ rfl
 refine aat 136 #[] [(Vs a7 y1.length cap8), (zap (.func 108) #[] #[])] _ ent136 krf krf (ajm o6 a7 cap8 b6 (hG.hp a5 hS) (a5.hand (L1 := (Zz10 o6 a7 cap8 y1)) (L2 := (Zz83 a2 a3 a1.length a4))) (a5.highs hG hS 1 rfl)) ?_
 rintro _ b7 ⟨rfl, b9, b1⟩
 have b8 : Hp w (abh (Zz83 a2 a3 a1.length a4)) [rwt aaa 65 3 o6 a7 cap8 y9, blk a2 [(Vs a3 a1.length a4)] 22] b7 := Hp.callK (L1 := (Zz10 o6 a7 cap8 y1)) (L2 := (Zz83 a2 a3 a1.length a4)) a5 b1; clear b1
 refine nq (sr (wp 2 (nq (ct ?_))))
 obtain rfl := oi hr
 refine r_one (Vs a7 y1.length cap8) rfl krf ?_
 exact ⟨o6, a7, cap8, (by first | rfl | (simp; done) | (simp; omega)), (Hp.front b8 1 _ rfl).kp⟩
theorem K_L_header_sorted {fu : Nat} {a1 : List PQ} (a2 : Option Addr) (a5 : Nat) (a3 : Nat) {w : World} {r : List PQ} (hr : aeq fu a1 = some r) (hG : Gl w) (b3 : a5 = a1.length) (a6 : Rd w a2 (zai aaa a1)) (a9 : a5 ≤ a3) : CR prog 49 [(Vs a2 a5 a3)] w fun v w' => ∃ (o0 : Option Nat), ∃ (a0 : Option Addr), ∃ (cap0 : Nat), v = (Vs a0 r.length cap0) ∧ Hp w [] [rwt aaa 65 3 o0 a0 cap0 r] w' := by
 subst b3
 have hH := Hp.refl w
 refine enter (k := 6) func49 rfl rfl nbe ?_
 unfold aeq at hr
 refine sr (wp 1 (nq (sr (wp 1 (bi hr fun y1 b4 hr => aat 107 #[] [(Vs a2 a1.length a3)] _ ent107 krf krf (arw a2 a1.length a3 b4 (hG.hp0 hH) rfl (a6.hp hH) a9) ?_)))))
 rintro _ w3 ⟨b6, rfl, b0⟩
 have a4 : Hp w [] (Zz83 b6 a2 a1.length a3) w3 := Hp.callK (L1 := []) (L2 := []) hH b0; clear b0
 refine bi hr fun y7 b5 hr => aat 106 #[] [(zap (.func 167) #[] #[(Vp (some ⟨b6, 0, none⟩))]), (zap (.func 108) #[] #[])] _ ent106 krf krf (ahh b6 a2 a1.length a3 b5 (hG.hp0 a4) rfl (a6.hp a4) a9 (a4.hand (L1 := (Zz83 b6 a2 a1.length a3)) (L2 := [])) (a4.highs hG (fun _ h => absurd h (by simp)) 1 rfl) (a4.apartRd 1 a6 (fun _ _ _ h => absurd h (by simp)) rfl)) ?_
 rintro _ w9 ⟨b1, a7, a8, rfl, b2⟩
 have b7 : Hp w [] (Zz65 b6 a2 a1.length a3 b1 a7 a8 y7) w9 := Hp.callK (L1 := (Zz83 b6 a2 a1.length a3)) (L2 := []) a4 b2; clear b2
 refine wp 1 (nq (ct ?_))
 obtain rfl := oi hr
 refine r_one (Vs a7 y7.length a8) rfl krf ?_
 exact ⟨b1, a7, a8, (by first | rfl | (simp; done) | (simp; omega)), (Hp.front b7 1 _ rfl).kp⟩
theorem K_L_header_PrintVia {fu : Nat} {a0 : (Str × Str × Int × Str × (List PQ))} (a2 : Option Addr) (d3 : Nat) (a3 : Nat) {w : World} {r : (Str × UInt8)} (hr : ajx fu a0 = some r) (hG : Gl w) (f7 : d3 = a0.2.2.2.2.length) (e1 : Rd w a2 (zai aaa a0.2.2.2.2)) (j8 : d3 ≤ a3) : CR prog 10 [(zan #[(str a0.1), (str a0.2.1), (Vi .i64 a0.2.2.1), (str a0.2.2.2.1), (Vs a2 d3 a3)])] w fun v w' => v = (zak #[(str r.1), (bt r.2)]) ∧ Hp w [] [] w' := by
 subst f7
 have hH := Hp.refl w
 refine enter (k := 85) func10 rfl rfl nbe ?_
 unfold ajx at hr
 refine sr (adr hH (Zz7 a0.1 a0.2.1 a0.2.2.1 a0.2.2.2.1 a2 a0.2.2.2.2.length a3) 24 (fun b => (Vp (some ⟨b, 0, none⟩))) rfl rfl krf fun b1 w2 d4 => wp 2 (nq (sr (wp 1 (abs d4 0 b1 1 (Zz7 a0.1 a0.2.1 a0.2.2.1 a0.2.2.2.1 a2 a0.2.2.2.2.length a3) 24 (str a0.2.1) rfl rfl krf krf ?_)))))
 refine bi hr fun y4 f8 hr => wc ent34 d4 (ahy f8 (hG.hp0 d4)) fun w6 c2 => wp 5 (nq (cs (bi hr fun f9 a5 hr => age c2 [1, 2, 3, 4, 34] [(34, (Vb f9))] ?_ ?_)))
 refine cr (wp 2 (wb a5 (fun g0 a5 => ?_) (fun g0 a5 => ?_)))
 refine wp 15 (wl (ql ?_))
 obtain rfl := oi a5
 exact je c2.kp
 refine wp 1 (gy 19 (abs c2 0 b1 0 (Zz7 a0.1 a0.2.1 a0.2.2.1 a0.2.2.2.1 a2 a0.2.2.2.2.length a3) 24 (str a0.1) rfl rfl krf krf (gy 19 (bi a5 fun j9 g1 a5 => wc ent47 c2 (aio g1 (hG.hp0 c2)) fun k0 c3 => wp 2 (wb a5 (fun g2 a5 => ?_) (fun g2 a5 => ?_))))))
 refine wp 9 (wl (ql ?_))
 obtain rfl := oi a5
 exact je c3.kp
 refine wp 1 (gy 25 (abs c3 0 b1 2 (Zz7 a0.1 a0.2.1 a0.2.2.1 a0.2.2.2.1 a2 a0.2.2.2.2.length a3) 24 (Vi .i64 a0.2.2.1) rfl rfl krf krf (wp 2 (wd a5 (fun g3 a5 => ?_) (fun g3 a5 => ?_)))))
 refine wp 4 (wl (ql ?_))
 obtain rfl := oi a5
 exact je c3.kp
 refine wp 1 (gy 30 (abs c3 0 b1 2 (Zz7 a0.1 a0.2.1 a0.2.2.1 a0.2.2.2.1 a2 a0.2.2.2.2.length a3) 24 (Vi .i64 a0.2.2.1) rfl rfl krf krf (wp 2 (wl (ql ?_)))))
 obtain rfl := oi a5
 exact je c3.kp
 intro k1 G d5
 refine cb hr (fun g4 hr => ?_) (fun g4 hr => ?_)
 refine sr (wp 2 (nq (ct (st ?_))))
 obtain rfl := oi hr
 exact rv d5.kp
 refine ck (qn (sr (wp 1 (nq (bi hr fun e2 g5 hr => cut (σ := (List PQ) × (Option Nat) × (Option Addr) × Nat) [1, 2, 3, 4, 6] (fun ⟨a8, c4, b8, b9⟩ => [(6, (Vs b8 a8.length b9))]) (fun ⟨a8, c4, b8, b9⟩ w' => Hp w [] (Zz95 b1 a0.1 a0.2.1 a0.2.2.1 a0.2.2.2.1 a2 a0.2.2.2.2.length a3 c4 b8 b9 a8) w' ∧ a8 = e2) ?_ ?_)))))
 refine sr (wp 1 (abs d5 0 b1 4 (Zz7 a0.1 a0.2.1 a0.2.2.1 a0.2.2.2.1 a2 a0.2.2.2.2.length a3) 24 (Vs a2 a0.2.2.2.2.length a3) rfl rfl krf krf (wp 2 (nq (ce (lpG (σ := Nat × (List PQ) × Int × (Option Nat) × (Option Addr) × Nat) [1, 2, 3, 4, 6, 36, 37, 38] (fun ⟨b6, a6, a1, b3, a9, b0⟩ => [(6, (Vs a9 a6.length b0)), (38, (Vi .i64 a1))]) (fun ⟨b6, a6, a1, b3, a9, b0⟩ w' => Hp w [] (Zz95 b1 a0.1 a0.2.1 a0.2.2.1 a0.2.2.2.1 a2 a0.2.2.2.2.length a3 b3 a9 b0 a6) w' ∧ adv fu a0 b6 a6 a1 = some e2) (fun ⟨b6, a6, a1, b3, a9, b0⟩ => b6) (fu, ([] : List PQ), (0 : Int), none, none, 0) (by exact ⟨(Hp.front (Hp.nilrw d5 aaa 65 3 none) 1 _ rfl).kp, g5⟩) ?_ (mc krf (mc krf (mc krf (mc krf (mc (Eq.trans (b := (Vs none 0 0)) krf (aaj lsy)) (mc krf (mc krf (mc krf rfl))))))))))))))
 rintro ⟨_ | b6, a6, a1, b3, a9, b0⟩ k2 G ⟨c7, a4⟩
 · exact nzz a4
 rw [adv.eq_2] at a4
 refine sr (wp 1 (nq (cs (cd a4 (fun g6 a4 => ?_) (fun g6 a4 => ?_)))))
 refine ck (qn (cs (ce (sr (gi a4 fun g7 a4 => ahl a2 a0.2.2.2.2.length a3 65 3 .i64 a1 underlying22 krf krf krf a0.2.2.2.2 rfl g7 (e1.hp c7) aab (by decide) (gi a4 fun g8 a4 => ajh a2 aaa a0.2.2.2.2 3 a1 aab (e1.hp c7) (Zz0 a0.2.2.2.2 a1) g8 krf krf krf krf (by decide) ?_))))))
 refine adr c7 (Zz6) 65 (fun b => (Vp (some ⟨b, 0, none⟩))) rfl rfl krf fun c5 k3 g9 => ahq g9 0 c5 0 (Zz6) (Zz0 a0.2.2.2.2 a1) 65 [blk c5 (Zz0 a0.2.2.2.2 a1) 65, blk b1 (Zz7 a0.1 a0.2.1 a0.2.2.1 a0.2.2.2.1 a2 a0.2.2.2.2.length a3) 24, rwt aaa 65 3 b3 a9 b0 a6] rfl nbe krf krf rfl krf rfl fun k4 c8 => nq (sr (wp 1 (abs c8 0 c5 0 (Zz0 a0.2.2.2.2 a1) 65 (str ((el a0.2.2.2.2 a1).1)) rfl rfl krf krf (wp 1 (wl ?_)))))
 refine qn (cn a4 (fun h0 a4 => ?_) (fun h0 a4 => ?_))
 refine cr (wp 1 (ant c8 0 c5 0 3 (Zz0 a0.2.2.2.2 a1) (Zz0 a0.2.2.2.2 a1) 65 rfl rfl rfl krf krf krf (adr c8 (Zz0 a0.2.2.2.2 a1) 65 (fun b => (Vs (some ⟨b, 0, none⟩) 1 1)) rfl rfl krf fun d6 k5 e3 => gi a4 fun h1 a4 => adm e3 3 b3 a9 (some ⟨d6, 0, none⟩) b0 1 65 3 40 a6 ([((el a0.2.2.2.2 a1).1, (el a0.2.2.2.2 a1).2.1, ((el a0.2.2.2.2 a1).2.2))] : List PQ) aab rfl underlying22 (by unfold TI; kernel_rfl) (by decide) (by decide) krf (Eq.trans (b := (Vs (some ⟨d6, 0, none⟩) 1 1)) krf (aaj (by first | rfl | (simp; done) | omega | (simp; omega) | (rw [zah]; omega)))) (e3.rdblk 0 rfl) h1 fun e4 e5 e6 h2 d7 => ?_)))
 replace d7 : Hp w [] [blk d6 (Zz0 a0.2.2.2.2 a1) 65, blk c5 (Zz0 a0.2.2.2.2 a1) 65, blk b1 (Zz7 a0.1 a0.2.1 a0.2.2.1 a0.2.2.2.1 a2 a0.2.2.2.2.length a3) 24, rwt aaa 65 3 e4 e5 e6 (a6 ++ ([((el a0.2.2.2.2 a1).1, (el a0.2.2.2.2 a1).2.1, ((el a0.2.2.2.2 a1).2.2))] : List PQ))] h2 := d7
 refine wp 1 (wl (bn (qn (cr (gi a4 fun h3 a4 => aae a1 (1 : Int) krf krf h3 (wp 1 (wl (ql ?_))))))))
 exact ⟨(b6, a6 ++ ([((el a0.2.2.2.2 a1).1, (el a0.2.2.2.2 a1).2.1, ((el a0.2.2.2.2 a1).2.2))] : List PQ), a1 + (1 : Int), e4, e5, e6), _, rfl, by kernel_rfl, ⟨(Hp.front (Hp.front d7 3 _ rfl) 3 _ rfl).kp, a4⟩, zad _⟩
 refine ck (bn (qn (cr (gi a4 fun h4 a4 => aae a1 (1 : Int) krf krf h4 (wp 1 (wl (ql ?_)))))))
 exact ⟨(b6, a6, a1 + (1 : Int), b3, a9, b0), _, rfl, by kernel_rfl, ⟨(Hp.front (Hp.front c8 2 _ rfl) 2 _ rfl).kp, a4⟩, zad _⟩
 refine abq (abp (aby (abr (ql ?_))))
 obtain rfl := oi a4
 exact ⟨(a6, b3, a9, b0), _, rfl, by kernel_rfl, (Hp.front (Hp.front c7 1 _ rfl) 1 _ rfl).kp, rfl⟩
 rintro ⟨a8, c4, b8, b9⟩ k6 G ⟨c9, rfl⟩
 refine bi hr fun h5 b7 hr => cut (σ := (List PQ) × (Option Nat) × (Option Addr) × Nat) [1, 2, 3, 4, 6] (fun ⟨b2, c6, b4, b5⟩ => [(6, (Vs b4 b2.length b5))]) (fun ⟨b2, c6, b4, b5⟩ w' => Hp w [] (Zz95 b1 a0.1 a0.2.1 a0.2.2.1 a0.2.2.2.1 a2 a0.2.2.2.2.length a3 c6 b4 b5 b2) w' ∧ b2 = h5) ?_ ?_
 refine sr (wp 1 (abs c9 0 b1 3 (Zz7 a0.1 a0.2.1 a0.2.2.1 a0.2.2.2.1 a2 a0.2.2.2.2.length a3) 24 (str a0.2.2.2.1) rfl rfl krf krf (wp 1 (nq (cn b7 (fun h6 b7 => ?_) (fun h6 b7 => ?_))))))
 refine cr (wp 2 (abs c9 0 b1 3 (Zz7 a0.1 a0.2.1 a0.2.2.1 a0.2.2.2.1 a2 a0.2.2.2.2.length a3) 24 (str a0.2.2.2.1) rfl rfl krf krf (wp 1 (adr c9 [(str ((Zz68) : Str)), (str a0.2.2.2.1), (Vb true)] 65 (fun b => (Vs (some ⟨b, 0, none⟩) 1 1)) rfl rfl krf fun d8 k7 e7 => gi b7 fun h7 b7 => adm e7 2 c4 b8 (some ⟨d8, 0, none⟩) b9 1 65 3 40 a8 ([(((Zz68) : Str), a0.2.2.2.1, true)] : List PQ) aab rfl underlying22 (by unfold TI; kernel_rfl) (by decide) (by decide) krf (Eq.trans (b := (Vs (some ⟨d8, 0, none⟩) 1 1)) krf (aaj (by first | rfl | (simp; done) | omega | (simp; omega) | (rw [zah]; omega)))) (e7.rdblk 0 rfl) h7 fun e8 e9 f0 h8 d9 => ?_))))
 replace d9 : Hp w [] [blk d8 [(str ((Zz68) : Str)), (str a0.2.2.2.1), (Vb true)] 65, blk b1 (Zz7 a0.1 a0.2.1 a0.2.2.1 a0.2.2.2.1 a2 a0.2.2.2.2.length a3) 24, rwt aaa 65 3 e8 e9 f0 (a8 ++ ([(((Zz68) : Str), a0.2.2.2.1, true)] : List PQ))] h8 := d9
 refine wp 1 (wl (ql ?_))
 obtain rfl := oi b7
 exact ⟨(a8 ++ ([(((Zz68) : Str), a0.2.2.2.1, true)] : List PQ), e8, e9, f0), _, rfl, by kernel_rfl, (Hp.front (Hp.front d9 2 _ rfl) 2 _ rfl).kp, rfl⟩
 refine ck (ql ?_)
 obtain rfl := oi b7
 exact ⟨(a8, c4, b8, b9), _, rfl, by kernel_rfl, (Hp.front (Hp.front c9 1 _ rfl) 1 _ rfl).kp, rfl⟩
 rintro ⟨b2, c6, b4, b5⟩ k8 G ⟨d0, rfl⟩
 refine sr (wp 1 (bi hr fun f1 h9 hr => aat 49 #[] [(Vs b4 b2.length b5)] _ ent49 krf krf (K_L_header_sorted b4 b2.length b5 h9 (hG.hp0 d0) rfl (d0.rdrw 1 rfl) (d0.rwcap 1 rfl)) ?_))
 rintro _ i0 ⟨i1, f2, f3, rfl, f4⟩
 have d1 : Hp w [] [rwt aaa 65 3 i1 f2 f3 f1, blk b1 (Zz7 a0.1 a0.2.1 a0.2.2.1 a0.2.2.2.1 a2 a0.2.2.2.2.length a3) 24, rwt aaa 65 3 c6 b4 b5 b2] i0 := Hp.callK (L1 := []) (L2 := (Zz95 b1 a0.1 a0.2.1 a0.2.2.1 a0.2.2.2.1 a2 a0.2.2.2.2.length a3 c6 b4 b5 b2)) d0 f4; clear f4
 refine bi hr fun f5 i2 hr => wc ent48 d1 (anr f2 f1.length f3 i2 (hG.hp0 d1) rfl (d1.rdrw 0 rfl) (d1.rwcap 0 rfl)) fun i3 c0 => wp 5 (nq (cs (sr (wp 1 (afp f5.2 (0 : UInt8) krf krf ?_)))))
 refine nq (cn hr (fun i4 hr => ?_) (fun i4 hr => ?_))
 refine sr (wp 2 (nq (ct (st ?_))))
 obtain rfl := oi hr
 exact rv c0.kp
 refine ck (qn (bi hr fun i5 a7 hr => cut (σ := Str) [1, 2, 3, 4, 9] (fun c1 => [(4, (str c1))]) (fun c1 w' => Hp w [] [blk b1 (Zz7 a0.1 a0.2.1 a0.2.2.1 a0.2.2.2.1 a2 a0.2.2.2.2.length a3) 24] w' ∧ c1 = i5) ?_ ?_))
 refine sr (wp 1 (abs c0 1 b1 2 (Zz7 a0.1 a0.2.1 a0.2.2.1 a0.2.2.2.1 a2 a0.2.2.2.2.length a3) 24 (Vi .i64 a0.2.2.1) rfl rfl krf krf (wp 1 (nq (cn a7 (fun i6 a7 => ?_) (fun i6 a7 => ?_))))))
 refine cr (wp 2 (abs c0 1 b1 2 (Zz7 a0.1 a0.2.1 a0.2.2.1 a0.2.2.2.1 a2 a0.2.2.2.2.length a3) 24 (Vi .i64 a0.2.2.1) rfl rfl krf krf (gi a7 fun i7 a7 => aat 50 #[] [(Vi .i64 a0.2.2.1)] _ ent50 krf krf (sh_Itoa a0.2.2.1 i3 i7 (hG.hp0 c0)) ?_)))
 rintro _ k9 ⟨rfl, f6⟩
 have i9 := c0.call f6; clear f6
 refine gi a7 fun j0 a7 => adf ([58] : Str) (Lib.itoa a0.2.2.1) krf krf j0 (gi a7 fun j1 a7 => adf y4.1 (([58] : Str) ++ (Lib.itoa a0.2.2.1)) krf krf j1 (wp 1 (wl (ql ?_))))
 obtain rfl := oi a7
 exact ⟨y4.1 ++ (([58] : Str) ++ (Lib.itoa a0.2.2.1)), _, rfl, by kernel_rfl, (Hp.front i9 1 _ rfl).kp, rfl⟩
 refine ck (ql ?_)
 obtain rfl := oi a7
 exact ⟨y4.1, _, rfl, by kernel_rfl, (Hp.front c0 1 _ rfl).kp, rfl⟩
 rintro c1 l0 G ⟨e0, rfl⟩
 refine sr (wp 1 (abs e0 0 b1 0 (Zz7 a0.1 a0.2.1 a0.2.2.1 a0.2.2.2.1 a2 a0.2.2.2.2.length a3) 24 (str a0.1) rfl rfl krf krf (bi hr fun d2 j2 hr => wc ent28 e0 (afz j2 (hG.hp0 e0)) fun l1 j3 => gi hr fun j4 hr => adf ((Zz56) : Str) d2 krf krf j4 (gi hr fun j5 hr => adf (((Zz56) : Str) ++ d2) ([32] : Str) krf krf j5 ?_))))
 refine wp 1 (gi hr fun j6 hr => adf ((((Zz56) : Str) ++ d2) ++ ([32] : Str)) c1 krf krf j6 (wp 1 (gi hr fun j7 hr => adf (((((Zz56) : Str) ++ d2) ++ ([32] : Str)) ++ c1) f5.1 krf krf j7 (wp 2 (nq (ct ?_))))))
 obtain rfl := oi hr
 exact rv j3.kp
theorem ahp {fu : Nat} {s_0 : Str} {w : World} {r : Bool} (hr : aja fu s_0 = some r) (hG : Gl w) : CR prog 51 [(str s_0)] w fun v w' => v = (Vb r) ∧ Hp w [] [] w' := by
 have hH := Hp.refl w
 refine enter (k := 12) func51 rfl rfl nbe ?_
 unfold aja at hr
 refine sr (wp 1 (nq (bi hr fun a1 a0 hr => age hH [2] [(2, (Vb a1))] ?_ ?_)))
 refine cr (wp 2 (wn a0 (fun a2 a0 => ?_) (fun a2 a0 => ?_)))
 refine wp 1 (gy 5 (bi a0 fun a6 a3 a0 => wc ent39 hH (ali a3 (hG.hp0 hH)) fun a7 a4 => wp 5 (wl (ql ?_))))
 obtain rfl := oi a0
 exact je a4.kp
 refine wp 7 (wl (ql ?_))
 obtain rfl := oi a0
 exact je hH.kp
 intro a8 G a5
 refine ct ?_
 obtain rfl := oi hr
 exact rv a5.kp
theorem K_L_ref02_Sorted {fu : Nat} {a1 : List PQ} (b0 : Option Addr) (d1 : Nat) (c4 : Nat) {w : World} {r : List PQ} (hr : amn fu a1 = some r) (hG : Gl w) (e9 : d1 = a1.length) (c5 : Rd w b0 (zai aaa a1)) (h7 : d1 ≤ c4) : CR prog 53 [(Vs b0 d1 c4)] w fun v w' => ∃ (o0 : Option Nat), ∃ (a0 : Option Addr), ∃ (cap0 : Nat), v = (Vs a0 r.length cap0) ∧ Hp w [] [rwt aaa 65 3 o0 a0 cap0 r] w' := by
 subst e9
 have hH := Hp.refl w
 refine enter (k := 51) func53 rfl rfl nbe ?_
 unfold amn at hr
 refine sr (wp 1 (nq (sr (wp 1 (nq ?_)))))
 refine bi hr fun d5 f0 hr => cut (σ := (List PQ) × (Option Nat) × (Option Addr) × Nat) [2, 3] (fun ⟨b4, c6, b5, b6⟩ => [(3, (Vs b5 b4.length b6))]) (fun ⟨b4, c6, b5, b6⟩ w' => Hp w [] (Zz10 c6 b5 b6 b4) w' ∧ b4 = d5) ?_ ?_
 refine sr (wp 1 (nq (ce (lpG (σ := Nat × (List PQ) × Int × (Option Nat) × (Option Addr) × Nat) [0, 2, 3, 4] (fun ⟨b7, a3, a2, b3, a4, a6⟩ => [(3, (Vs a4 a3.length a6)), (4, (Vi .i64 a2))]) (fun ⟨b7, a3, a2, b3, a4, a6⟩ w' => Hp w [] (Zz10 b3 a4 a6 a3) w' ∧ afr fu a1 b7 a3 a2 = some d5) (fun ⟨b7, a3, a2, b3, a4, a6⟩ => b7) (fu, ([] : List PQ), (0 : Int), none, none, 0) (by exact ⟨(Hp.nilrw hH aaa 65 3 none).kp, f0⟩) ?_ (mc krf (mc krf (mc (Eq.trans (b := (Vs none 0 0)) krf (aaj lsy)) (mc krf rfl))))))))
 rintro ⟨_ | b7, a3, a2, b3, a4, a6⟩ h8 G ⟨d2, b1⟩
 · exact nzz b1
 rw [afr.eq_2] at b1
 refine cs (sr (wp 4 (nq (cd b1 (fun f1 b1 => ?_) (fun f1 b1 => ?_)))))
 refine ck (qn (bi b1 fun f2 a8 b1 => cut (σ := (List PQ) × (Option Nat) × (Option Addr) × Nat) [0, 2, 3, 4] (fun ⟨b8, c7, b9, c0⟩ => [(3, (Vs b9 b8.length c0))]) (fun ⟨b8, c7, b9, c0⟩ w' => Hp w [] (Zz10 c7 b9 c0 b8) w' ∧ b8 = f2) ?_ ?_))
 refine ce (sr (wp 3 (nq (bi a8 fun a5 f3 a8 => age d2 [0, 2, 3, 4, 5] [(5, (Vi .i64 a5))] ?_ ?_))))
 refine ce (lpS (fun d6 a7 => agw fu a1 a3 a2 d6 a7) (a3.length : Int) d2 f3 [0, 2, 3, 4, 5] (fun a7 => [(5, (Vi .i64 a7))]) (fun _ => rfl) ?_)
 rintro d6 a7 h9 G d3 b2
 rw [agw.eq_2] at b2
 refine cs (bi b2 fun f4 a9 b2 => age d3 [0, 2, 3, 4, 5, 30] [(30, (Vb f4))] ?_ ?_)
 by_cases c8 : (0 : Int) < a7
 replace a9 := ift c8 a9
 refine gi a9 fun f5 a9 => gi a9 fun f6 a9 => gi a9 fun f7 a9 => gi a9 fun f8 a9 => gi a9 fun f9 a9 => aeh 14 (fun j_ w_ w_' => aay [7, 8, 14, 15] (fun w' => Rd w' a4 (zai aaa a3)) j_ w_ w_' ∧ aay [14, 15] (fun w' => Rd w' a4 (zai aaa a3)) j_ w_ w_' ∧ aay [12, 13, 14, 15] (fun w' => Rd w' b0 (zai aaa a1)) j_ w_ w_' ∧ aay [14, 15] (fun w' => Rd w' b0 (zai aaa a1)) j_ w_ w_' ∧ True) (Zz61) (fun _ _ => ⟨aay.same, aay.same, aay.same, aay.same, trivial⟩) krf krf d3 rfl (aam (ade (aam (aak (aam (aak (aam (aam (aak (aam adb)))))))))) fun i0 c1 => rp 12 [0, 1] (rt 2 (Vb true) rfl rfl (aba rfl (by intro w hS_; exact Eq.trans (b := Result.ok (Next.value (.bool (decide ((0 : Int) < a7)))) w) krf (congrArg (fun b => Result.ok (Next.value (.bool b)) w) (decide_eq_true c8)))) (rp 9 [3, 4] (rt 5 (Vi .i64 (a7 - (1 : Int))) rfl rfl (aei 17 krf krf krf (by intro w hS_; exact (amg a7 (1 : Int) krf krf f5))) ?_)))
 refine aal [true, true, true, true, true, true, true, false, false, false, false, false, false, false, false, false] 6 21 (Vp (some (ea a4 ((a7 - (1 : Int)).toNat * 3)))) [7, 8, 14, 15] (fun _ _ _ h => h.1) _ rfl rfl krf krf krf krf krf rfl (aei 17 krf krf krf (by intro w hS_; exact (aqn a4 a3.length a6 65 3 .i64 (a7 - (1 : Int)) underlying22 krf krf krf a3 rfl f6 hS_ aab (by decide)))) (by exact (c1.rdrw 0 rfl)) (rt 7 (Vp (some (ea a4 ((a7 - (1 : Int)).toNat * 3 + 0)))) rfl rfl (aei 17 krf krf krf (by intro w hS_; exact (x_fldE a4 ((a7 - (1 : Int)).toNat * 3) 0 krf krf))) (aal [true, true, true, true, true, true, true, true, true, false, false, false, false, false, false, false] 8 23 (str ((el a3 (a7 - (1 : Int))).1)) [14, 15] (fun _ _ _ h => h.2.1) _ rfl rfl krf krf krf krf krf rfl (aei 17 krf krf krf (by intro w hS_; exact (x_ldF a4 aaa a3 3 (a7 - (1 : Int)) 0 aab hS_ (str ((el a3 (a7 - (1 : Int))).1)) f7 (by decide) krf krf krf))) (by exact (c1.rdrw 0 rfl)) (rp 3 [9, 10] (aal [true, true, true, true, true, true, true, true, true, true, true, true, false, false, false, false] 11 26 (Vp (some (ea b0 (a2.toNat * 3)))) [12, 13, 14, 15] (fun _ _ _ h => h.2.2.1) _ rfl rfl krf krf krf krf krf rfl (aei 17 krf krf krf (by intro w hS_; exact (aqn b0 a1.length c4 65 3 .i64 a2 underlying22 krf krf krf a1 rfl f8 hS_ aab (by decide)))) (by exact (c5.hp c1)) (rt 12 (Vp (some (ea b0 (a2.toNat * 3 + 0)))) rfl rfl (aei 17 krf krf krf (by intro w hS_; exact (x_fldE b0 ((a2).toNat * 3) 0 krf krf))) (aal [true, true, true, true, true, true, true, true, true, true, true, true, true, true, false, false] 13 28 (str ((el a1 a2).1)) [14, 15] (fun _ _ _ h => h.2.2.2.1) _ rfl rfl krf krf krf krf krf rfl (aei 17 krf krf krf (by intro w hS_; exact (x_ldF b0 aaa a1 3 a2 0 aab hS_ (str ((el a1 a2).1)) f9 (by decide) krf krf krf))) (by exact (c5.hp c1)) (adn krf (wp 2 (wl ?_)))))))))
 refine ql ?_
 obtain rfl := oi a9
 exact je c1.kp
 replace a9 := ifn c8 a9
 refine aeh 14 (fun j_ w_ w_' => aay [7, 8, 14, 15] (fun w' => Rd w' a4 (zai aaa a3)) j_ w_ w_' ∧ aay [14, 15] (fun w' => Rd w' a4 (zai aaa a3)) j_ w_ w_' ∧ aay [12, 13, 14, 15] (fun w' => Rd w' b0 (zai aaa a1)) j_ w_ w_' ∧ aay [14, 15] (fun w' => Rd w' b0 (zai aaa a1)) j_ w_ w_' ∧ True) (Zz61) (fun _ _ => ⟨aay.same, aay.same, aay.same, aay.same, trivial⟩) krf krf d3 rfl (aam (ade (aam (aak (aam (aak (aam (aam (aak (aam adb)))))))))) fun i1 g0 => rp 12 [0, 1] (rt 2 (Vb false) rfl rfl (aba rfl (by intro w hS_; exact Eq.trans (b := Result.ok (Next.value (.bool (decide ((0 : Int) < a7)))) w) krf (congrArg (fun b => Result.ok (Next.value (.bool b)) w) (decide_eq_false c8)))) (rp 0 [3, 4, 5, 6, 7, 8, 9, 10, 11, 12, 13] (adn krf (wp 2 (wl (ql ?_))))))
 obtain rfl := oi a9
 exact je g0.kp
 intro i2 G d7
 refine cb b2 (fun g1 b2 => ?_) (fun g1 b2 => ?_)
 refine ck (qn (ce (cr (wp 1 (gi b2 fun g2 b2 => adk a7 (1 : Int) krf krf g2 (wp 1 (wl (bn ?_))))))))
 exact ql (le' (a7 - (1 : Int)) d7.kp b2)
 refine abq (abp (aby (abr (ql ?_))))
 obtain rfl := oi b2
 exact je d7.kp
 intro g3 G d8
 refine sr (wp 1 (nq (sr (wp 3 (gi a8 fun g4 a8 => w_slTo a4 a3.length a6 65 3 .i64 a5 underlying22 krf krf krf a3 rfl g4 (d8.rwcap 0 rfl) ?_)))))
 have c9 := d8.nilrw aaa 65 3 none
 replace c9 : Hp w [] [rwt aaa 65 3 none none 0 ([] : List PQ), rwt aaa 65 3 b3 a4 a6 a3] g3 := c9
 refine gi a8 fun g5 a8 => adm c9 0 none none a4 0 a6 65 3 40 ([] : List PQ) (zaz (zac a5) a3) aab rfl underlying22 (by unfold TI; kernel_rfl) (by decide) (by decide) (Eq.trans (b := (Vs none 0 0)) krf (aaj (by first | rfl | (simp; done) | omega | (simp; omega) | (rw [zah]; omega)))) (Eq.trans (b := (Vs a4 (zac a5) a6)) krf (aaj (by first | rfl | (simp; done) | omega | (simp; omega) | (rw [zah]; omega)))) (Rd.takeT aab (zac a5) (c9.rdrw 1 rfl)) g5 fun d9 e0 e1 g6 c2 => ?_
 replace c2 : Hp w [] [rwt aaa 65 3 d9 e0 e1 (([] : List PQ) ++ (zaz (zac a5) a3)), rwt aaa 65 3 b3 a4 a6 a3] g6 := c2
 refine wp 1 (nq (sr (wp 3 (gi a8 fun g7 a8 => ahl b0 a1.length c4 65 3 .i64 a2 underlying22 krf krf krf a1 rfl g7 (c5.hp c2) aab (by decide) (gi a8 fun g8 a8 => ajh b0 aaa a1 3 a2 aab (c5.hp c2) (Zz0 a1 a2) g8 krf krf krf krf (by decide) ?_)))))
 refine adr c2 (Zz0 a1 a2) 65 (fun b => (Vs (some ⟨b, 0, none⟩) 1 1)) rfl rfl krf fun d0 i3 e2 => gi a8 fun g9 a8 => adm e2 1 d9 e0 (some ⟨d0, 0, none⟩) e1 1 65 3 40 (([] : List PQ) ++ (zaz (zac a5) a3)) ([((el a1 a2).1, (el a1 a2).2.1, ((el a1 a2).2.2))] : List PQ) aab rfl underlying22 (by unfold TI; kernel_rfl) (by decide) (by decide) krf (Eq.trans (b := (Vs (some ⟨d0, 0, none⟩) 1 1)) krf (aaj (by first | rfl | (simp; done) | omega | (simp; omega) | (rw [zah]; omega)))) (e2.rdblk 0 rfl) g9 fun e3 e4 e5 h0 c3 => ?_
 replace c3 : Hp w [] [blk d0 (Zz0 a1 a2) 65, rwt aaa 65 3 e3 e4 e5 ((([] : List PQ) ++ (zaz (zac a5) a3)) ++ ([((el a1 a2).1, (el a1 a2).2.1, ((el a1 a2).2.2))] : List PQ)), rwt aaa 65 3 b3 a4 a6 a3] h0 := c3
 refine wp 1 (nq (cr (wp 3 (gi a8 fun h1 a8 => w_slFrom a4 a3.length a6 65 3 .i64 a5 underlying22 krf krf krf a3 rfl h1 (gi a8 fun h2 a8 => adm c3 1 e3 e4 (slF a4 a6 (zac a5) 3) e5 (a6 - (zac a5)) 65 3 40 ((([] : List PQ) ++ (zaz (zac a5) a3)) ++ ([((el a1 a2).1, (el a1 a2).2.1, ((el a1 a2).2.2))] : List PQ)) (zam (zac a5) a3) aab rfl underlying22 (by unfold TI; kernel_rfl) (by decide) (by decide) krf (Eq.trans (b := (Vs (slF a4 a6 (zac a5) 3) (a3.length - (zac a5)) (a6 - (zac a5)))) krf (aaj (by first | rfl | (simp; done) | omega | (simp; omega) | (rw [zah]; omega)))) (Rd.dropT aab a6 (zac a5) (Nat.le_trans (Nat.le_of_eq rfl) (c3.rwcap 2 rfl)) (c3.rdrw 2 rfl)) h2 fun e6 e7 e8 h3 d4 => ?_)))))
 replace d4 : Hp w [] [blk d0 (Zz0 a1 a2) 65, rwt aaa 65 3 e6 e7 e8 (((([] : List PQ) ++ (zaz (zac a5) a3)) ++ ([((el a1 a2).1, (el a1 a2).2.1, ((el a1 a2).2.2))] : List PQ)) ++ (zam (zac a5) a3)), rwt aaa 65 3 b3 a4 a6 a3] h3 := d4
 refine wp 1 (wl (bn (ql ?_)))
 obtain rfl := oi a8
 exact ⟨(((([] : List PQ) ++ (zaz (zac a5) a3)) ++ ([((el a1 a2).1, (el a1 a2).2.1, ((el a1 a2).2.2))] : List PQ)) ++ (zam (zac a5) a3), e6, e7, e8), _, rfl, by kernel_rfl, (Hp.front d4 1 _ rfl).kp, rfl⟩
 rintro ⟨b8, c7, b9, c0⟩ i4 G ⟨h4, rfl⟩
 refine cr (wp 1 (gi b1 fun h5 b1 => aae a2 (1 : Int) krf krf h5 (wp 1 (wl (ql ?_)))))
 exact ⟨(b7, b8, a2 + (1 : Int), c7, b9, c0), _, rfl, by kernel_rfl, ⟨h4.kp, b1⟩, zad _⟩
 refine abq (abp (aby (abr (ql ?_))))
 obtain rfl := oi b1
 exact ⟨(a3, b3, a4, a6), _, rfl, by kernel_rfl, d2.kp, rfl⟩
 rintro ⟨b4, c6, b5, b6⟩ i5 G ⟨h6, rfl⟩
 refine sr (wp 2 (nq (ct ?_)))
 obtain rfl := oi hr
 refine r_one (Vs b5 b4.length b6) rfl krf ?_
 exact ⟨c6, b5, b6, (by first | rfl | (simp; done) | (simp; omega)), h6.kp⟩
theorem ann {fu : Nat} {s_0 : Str} {w : World} {r : Bool} (hr : alw fu s_0 = some r) (hG : Gl w) : CR prog 111 [(str s_0)] w fun v w' => v = (Vb r) ∧ Hp w [] [] w' := by
 have hH := Hp.refl w
 refine enter (k := 14) func111 rfl rfl nbe ?_
 unfold alw at hr
 refine sr (wp 1 (nq (bi hr fun a5 a6 hr => cut1 hH a5 [2] (fun a7 => []) ?_ ?_)))
 refine sr (wp 1 (nq (ce (lpS (fun a3 a1 => agi fu s_0 a3 a1) (0 : Int) hH a6 [0, 2, 3] (fun a1 => [(3, (Vi .i64 a1))]) (fun _ => rfl) ?_))))
 rintro a3 a1 b4 G a2 a0
 rw [agi.eq_2] at a0
 refine cs (sr (wp 4 (nq (cd a0 (fun a8 a0 => ?_) (fun a8 a0 => ?_)))))
 refine ck (qn (cs (ce (sr (wp 2 (gi a0 fun a9 a0 => abi s_0 .i64 a1 underlying9 krf krf a9 (bi a0 fun b5 b0 a0 => ?_)))))))
 refine wc ent170 a2 (aof b0 (hG.hp0 a2)) fun b6 a4 => nq (cb a0 (fun b1 a0 => ?_) (fun b1 a0 => ?_))
 refine sr (wp 1 (nq (ct (bt_ (st (adg (bt_ ?_)))))))
 refine adg ?_
 obtain rfl := oi a0
 obtain rfl := oi hr
 exact rv a4.kp
 exact ck (bn (qn (cr (wp 1 (gi a0 fun b2 a0 => aae a1 (1 : Int) krf krf b2 (wp 1 (wl (ql (le' (a1 + (1 : Int)) a4.kp a0)))))))))
 refine abq (abp (aby (abr (ql ?_))))
 obtain rfl := oi a0
 exact je1 rfl a2.kp
 rintro a7 b7 G b3 rfl
 refine sr (wp 1 (nq (ct ?_)))
 obtain rfl := oi hr
 exact rv b3.kp
theorem K_L_ref02_Bracketed {fu : Nat} {s_0 : Str} {w : World} {r : Bool} (hr : aij fu s_0 = some r) (hG : Gl w) : CR prog 112 [(str s_0)] w fun v w' => v = (Vb r) ∧ Hp w [] [] w' := by
 have hH := Hp.refl w
 refine enter (k := 21) func112 rfl rfl nbe ?_
 unfold aij at hr
 refine sr (wp 1 (nq (sr (wp 1 (bi hr fun y1 a2 hr => wc ent43 hH (aom a2 (hG.hp0 hH)) fun w3 a1 => ?_)))))
 refine wp 5 (nq (bi hr fun a3 a0 hr => age a1 [2] [(2, (Vb a3))] ?_ ?_))
 refine cr (wp 1 (wb a0 (fun a4 a0 => ?_) (fun a4 a0 => ?_)))
 refine wp 4 (wd a0 (fun a5 a0 => ?_) (fun a5 a0 => ?_))
 refine wp 1 (gy 16 (gi a0 fun a6 a0 => abi s_0 .i64 (0 : Int) underlying9 krf krf a6 (gy 16 (acx (at_ s_0 (0 : Int)) (91 : UInt8) krf krf (wp 2 (wl (ql ?_)))))))
 obtain rfl := oi a0
 exact je a1.kp
 refine wp 5 (wl (ql ?_))
 obtain rfl := oi a0
 exact je a1.kp
 refine wp 10 (wl (ql ?_))
 obtain rfl := oi a0
 exact je a1.kp
 intro a8 G a7
 refine ct ?_
 obtain rfl := oi hr
 exact rv a7.kp
theorem K_L_ref01_Quote {fu : Nat} {s_0 : Str} {w : World} {r : (Str × UInt8)} (hr : anj fu s_0 = some r) (hG : Gl w) : CR prog 113 [(str s_0)] w fun v w' => v = (zak #[(str r.1), (bt r.2)]) ∧ Hp w [] [] w' := by
 have hH := Hp.refl w
 refine enter (k := 40) func113 rfl rfl nbe ?_
 unfold anj at hr
 refine sr (wp 2 (nq (sr (adr hH [(bt (34 : UInt8))] 5 (fun b => (Vs (some ⟨b, 0, none⟩) 1 1)) rfl rfl krf fun b1 w2 e0 => wp 1 (wl ?_)))))
 refine qn (bi hr fun c6 e1 hr => cut (σ := (List UInt8) × (Option Nat) × (Option Addr) × Nat) [2, 3, 4] (fun ⟨a3, b6, b2, b3⟩ => [(4, (Vs b2 a3.length b3))]) (fun ⟨a3, b6, b2, b3⟩ w' => Hp w [] [rwt eB 5 1 b6 b2 b3 a3] w' ∧ .inl a3 = c6) ?_ ?_)
 refine sr (wp 1 (nq (ce (lpG (σ := Nat × (List UInt8) × Int × (Option Nat) × (Option Addr) × Nat) [0, 2, 3, 4, 5] (fun ⟨b0, a2, a1, a9, a6, a7⟩ => [(4, (Vs a6 a2.length a7)), (5, (Vi .i64 a1))]) (fun ⟨b0, a2, a1, a9, a6, a7⟩ w' => Hp w [] [rwt eB 5 1 a9 a6 a7 a2] w' ∧ afk fu s_0 b0 a2 a1 = some c6) (fun ⟨b0, a2, a1, a9, a6, a7⟩ => b0) (fu, ([(34 : UInt8)] : List UInt8), (0 : Int), (some b1), (some ⟨b1, 0, none⟩), 1) (by exact ⟨(Hp.blkrw e0 0 1 1 ([(34 : UInt8)] : List UInt8) rfl akh rfl rfl (by decide)).kp, e1⟩) ?_ (mc krf (mc krf (mc krf (mc (Eq.trans (b := (Vs (some ⟨b1, 0, none⟩) 1 1)) krf (aaj lsy)) (mc krf rfl)))))))))
 rintro ⟨_ | b0, a2, a1, a9, a6, a7⟩ g2 G ⟨c0, a0⟩
 · exact nzz a0
 rw [afk.eq_2] at a0
 refine cs (sr (wp 4 (nq (cd a0 (fun e2 a0 => ?_) (fun e2 a0 => ?_)))))
 refine ck (qn (cs (ce (cs (sr (wp 2 (gi a0 fun e3 a0 => abi s_0 .i64 a1 underlying9 krf krf e3 ?_)))))))
 refine bi a0 fun g3 e4 a0 => wc ent170 c0 (aof e4 (hG.hp0 c0)) fun g4 b7 => nq (cb a0 (fun e5 a0 => ?_) (fun e5 a0 => ?_))
 refine sr (wp 2 (nq (ct (st (bt_ (st (adg ?_)))))))
 refine bt_ (adg ?_)
 obtain rfl := oi a0
 obtain rfl := oi hr
 exact rv b7.kp
 refine ck (qn (bi a0 fun e6 a4 a0 => cut (σ := (List UInt8) × (Option Nat) × (Option Addr) × Nat) [0, 2, 3, 4, 5] (fun ⟨a8, b8, b4, b5⟩ => [(4, (Vs b4 a8.length b5))]) (fun ⟨a8, b8, b4, b5⟩ w' => Hp w [] [rwt eB 5 1 b8 b4 b5 a8] w' ∧ a8 = e6) ?_ ?_))
 refine bi a4 fun e7 a5 a4 => age b7 [0, 2, 3, 4, 5, 26] [(26, (Vb e7))] ?_ ?_
 refine cr (wp 2 (gi a5 fun e8 a5 => abi s_0 .i64 a1 underlying9 krf krf e8 (acx (at_ s_0 a1) (34 : UInt8) krf krf (wd a5 (fun e9 a5 => ?_) (fun e9 a5 => ?_)))))
 refine wp 5 (wl (ql ?_))
 obtain rfl := oi a5
 exact je b7.kp
 refine wp 2 (gy 21 (gi a5 fun f0 a5 => abi s_0 .i64 a1 underlying9 krf krf f0 (gy 21 (acx (at_ s_0 a1) (92 : UInt8) krf krf (wp 1 (wl (ql ?_)))))))
 obtain rfl := oi a5
 exact je b7.kp
 intro g5 G c7
 refine cb a4 (fun f1 a4 => ?_) (fun f1 a4 => ?_)
 refine cr (wp 1 (adr c7 [(bt (92 : UInt8))] 5 (fun b => (Vs (some ⟨b, 0, none⟩) 1 1)) rfl rfl krf fun c1 g6 c8 => gi a4 fun f2 a4 => adm c8 1 a9 a6 (some ⟨c1, 0, none⟩) a7 1 5 1 1 a2 ([(92 : UInt8)] : List UInt8) akh rfl underlying85 (by unfold TI; kernel_rfl) (by decide) (by decide) krf (Eq.trans (b := (Vs (some ⟨c1, 0, none⟩) 1 1)) krf (aaj (by first | rfl | (simp; done) | omega | (simp; omega) | (rw [zah]; omega)))) (c8.rdblk 0 rfl) f2 fun c9 d0 d1 f3 c2 => ?_))
 replace c2 : Hp w [] [blk c1 [(bt (92 : UInt8))] 5, rwt eB 5 1 c9 d0 d1 (a2 ++ ([(92 : UInt8)] : List UInt8))] f3 := c2
 refine wp 1 (wl (ql ?_))
 obtain rfl := oi a4
 exact ⟨(a2 ++ ([(92 : UInt8)] : List UInt8), c9, d0, d1), _, rfl, by kernel_rfl, (Hp.front c2 1 _ rfl).kp, rfl⟩
 refine ck (ql ?_)
 obtain rfl := oi a4
 exact ⟨(a2, a9, a6, a7), _, rfl, by kernel_rfl, c7.kp, rfl⟩
 rintro ⟨a8, b8, b4, b5⟩ g7 G ⟨f4, rfl⟩
 refine cr (wp 3 (gi a0 fun f5 a0 => abi s_0 .i64 a1 underlying9 krf krf f5 (adr f4 [(bt (at_ s_0 a1))] 5 (fun b => (Vs (some ⟨b, 0, none⟩) 1 1)) rfl rfl krf fun c3 g8 d2 => gi a0 fun f6 a0 => adm d2 1 b8 b4 (some ⟨c3, 0, none⟩) b5 1 5 1 1 a8 ([at_ s_0 a1] : List UInt8) akh rfl underlying85 (by unfold TI; kernel_rfl) (by decide) (by decide) krf (Eq.trans (b := (Vs (some ⟨c3, 0, none⟩) 1 1)) krf (aaj (by first | rfl | (simp; done) | omega | (simp; omega) | (rw [zah]; omega)))) (d2.rdblk 0 rfl) f6 fun d3 d4 d5 f7 c4 => ?_)))
 replace c4 : Hp w [] [blk c3 [(bt (at_ s_0 a1))] 5, rwt eB 5 1 d3 d4 d5 (a8 ++ ([at_ s_0 a1] : List UInt8))] f7 := c4
 refine wp 1 (wl (bn (qn (cr (wp 1 (gi a0 fun f8 a0 => aae a1 (1 : Int) krf krf f8 (wp 1 (wl ?_))))))))
 refine ql ?_
 exact ⟨(b0, a8 ++ ([at_ s_0 a1] : List UInt8), a1 + (1 : Int), d3, d4, d5), _, rfl, by kernel_rfl, ⟨(Hp.front c4 1 _ rfl).kp, a0⟩, zad _⟩
 refine abq (abp (aby (abr (ql ?_))))
 obtain rfl := oi a0
 exact ⟨(a2, a9, a6, a7), _, rfl, by kernel_rfl, c0.kp, rfl⟩
 rintro ⟨a3, b6, b2, b3⟩ g9 G ⟨f9, rfl⟩
 refine sr (wp 1 (adr f9 [(bt (34 : UInt8))] 5 (fun b => (Vs (some ⟨b, 0, none⟩) 1 1)) rfl rfl krf fun c5 h0 d6 => gi hr fun g0 hr => adm d6 1 b6 b2 (some ⟨c5, 0, none⟩) b3 1 5 1 1 a3 ([(34 : UInt8)] : List UInt8) akh rfl underlying85 (by unfold TI; kernel_rfl) (by decide) (by decide) krf (Eq.trans (b := (Vs (some ⟨c5, 0, none⟩) 1 1)) krf (aaj (by first | rfl | (simp; done) | omega | (simp; omega) | (rw [zah]; omega)))) (d6.rdblk 0 rfl) g0 fun g1 d7 d8 d9 b9 => ?_))
 replace b9 : Hp w [] [blk c5 [(bt (34 : UInt8))] 5, rwt eB 5 1 g1 d7 d8 (a3 ++ ([(34 : UInt8)] : List UInt8))] d9 := b9
 refine aes (v := (str (a3 ++ ([(34 : UInt8)] : List UInt8)))) (w' := d9) rfl rfl (apn (a3 ++ ([(34 : UInt8)] : List UInt8)) d7 ((a3 ++ ([(34 : UInt8)] : List UInt8)).length) d8 5 (Rd.bytes (b9.rdrw 1 rfl)) (by first | rfl | (simp; done) | omega | (simp; omega) | (rw [zah]; omega)) underlying85 underlying9 underlying5 krf) (wp 2 (nq (ct ?_)))
 obtain rfl := oi hr
 exact rv b9.kp
end Go.Proofs
