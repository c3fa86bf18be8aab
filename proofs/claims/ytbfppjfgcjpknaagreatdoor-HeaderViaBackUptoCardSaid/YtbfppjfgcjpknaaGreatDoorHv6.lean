/-
  The law HeaderViaBack holds, second form: for every Via of at most 1048576 values and letters the call returns true; no condition beyond the statement's own (part 6 of 7).
-/
import Derived.Test.YtbfppjfgcjpknaaGreatDoorHv5
import Derived.Test.YtbfppjfgcjpknaaGreatDoorProg
set_option linter.unusedVariables false
set_option linter.unusedSimpArgs false
set_option maxRecDepth 20000
set_option maxHeartbeats 1000000
namespace Go.Proofs
open Go.Wk Go.Px
open Go.Value renaming slice → Vs, int → Vi, bool → Vb, pointer → Vp
open Go.Lib renaming indexAny → zat
open Go.Value renaming agg → zan, func → zao, tuple → zal
open Int renaming toNat → zac
open List renaming drop → zam, flatMap → zak
open Nat renaming lt_of_lt_of_le → zaf, lt_succ_self → zad
open Tryz
theorem ent15 : Wk.Enters prog 15 := ⟨f15, _, func15, rfl, krf⟩
theorem ent25 : Wk.Enters prog 25 := ⟨f25, _, func25, rfl, krf⟩
theorem ent28 : Wk.Enters prog 28 := ⟨f28, _, func28, rfl, krf⟩
theorem ent32 : Wk.Enters prog 32 := ⟨f32, _, func32, rfl, krf⟩
theorem ent57 : Wk.Enters prog 57 := ⟨f57, _, func57, rfl, krf⟩
theorem ent58 : Wk.Enters prog 58 := ⟨f58, _, func58, rfl, krf⟩
theorem ent86 : Wk.Enters prog 86 := ⟨f86, _, func86, rfl, krf⟩
theorem ent109 : Wk.Enters prog 109 := ⟨f109, _, func109, rfl, krf⟩
theorem K_L_header_cutPort {fu : Nat} {s_0 : Str} {w : World} {r : PQ} (hr : aiu fu s_0 = some r) (hG : Gl w) : CR prog 57 [(str s_0)] w fun v w' => v = (zal #[(str r.1), (str r.2.1), (Vb r.2.2)]) ∧ Hp w [] [] w' := by
 have hH := Hp.refl w
 refine enter (k := 30) func57 rfl rfl nbe ?_
 unfold aiu at hr
 refine sr (wp 3 (nq (sr (wp 1 (gi hr fun g4 hr => aar 109 #[] [(str s_0), (bt (58 : UInt8))] _ ent109 krf krf (sh_LastIndexByte s_0 (58 : UInt8) w g4) ?_)))))
 rintro _ w1 ⟨rfl, a3⟩
 have a1 := hH.call a3; clear a3
 refine wp 1 (nq (cs (bi hr fun a7 a0 hr => ait a1 [0, 2, 3, 4, 5, 21] [(21, (Vb a7))] ?_ ?_)))
 refine cr (wp 2 (wd a0 (fun a8 a0 => ?_) (fun a8 a0 => ?_)))
 refine wp 11 (wl (ql ?_))
 obtain rfl := oi a0
 exact je a1.kp
 refine wp 2 (gy 10 (gi a0 fun a9 a0 => ano s_0 .i64 (akl (· == (58 : UInt8)) s_0) underlying9 krf krf a9 (gy 10 (gi a0 fun b0 a0 => aar 110 #[] [(str (List.take (zac (akl (· == (58 : UInt8)) s_0)) s_0)), (str ([91] : Str))] _ ent110 krf krf (sh_Contains (List.take (zac (akl (· == (58 : UInt8)) s_0)) s_0) ([91] : Str) w1 b0 (hG.hp0 a1)) ?_))))
 rintro _ b1 ⟨rfl, a4⟩
 have a2 := a1.call a4; clear a4
 refine gy 10 (wb a0 (fun b2 a0 => ?_) (fun b2 a0 => ?_))
 refine wp 2 (gy 15 (gi a0 fun b3 a0 => ajl s_0 .i64 (akl (· == (58 : UInt8)) s_0) underlying9 krf krf b3 (gy 15 (gi a0 fun b4 a0 => aar 110 #[] [(str (zam (zac (akl (· == (58 : UInt8)) s_0)) s_0)), (str ([93] : Str))] _ ent110 krf krf (sh_Contains (zam (zac (akl (· == (58 : UInt8)) s_0)) s_0) ([93] : Str) b1 b4 (hG.hp0 a2)) ?_))))
 rintro _ c1 ⟨rfl, a5⟩
 have b5 := a2.call a5; clear a5
 refine wp 2 (wl (ql ?_))
 obtain rfl := oi a0
 exact je b5.kp
 refine wp 6 (wl (ql ?_))
 obtain rfl := oi a0
 exact je a2.kp
 intro c2 G a6
 refine cb hr (fun b6 hr => ?_) (fun b6 hr => ?_)
 refine sr (wp 4 (nq (ct (st ?_))))
 obtain rfl := oi hr
 exact rv a6.kp
 refine ck (qn (cs (gi hr fun b7 hr => gi hr fun b8 hr => gi hr fun b9 hr => cdr 8 a6 (adg acu) fun c3 c0 => rp 6 [0, 1] (rt 2 (str (List.take (zac (akl (· == (58 : UInt8)) s_0)) s_0)) rfl rfl (aaz rfl (by intro w hS_; exact (x_slice_to s_0 .i64 (akl (· == (58 : UInt8)) s_0) underlying9 krf krf b7))) (rp 3 [3, 4] ?_)))))
 refine rt 5 (Vi .i64 ((akl (· == (58 : UInt8)) s_0) + (1 : Int))) rfl rfl (aaz rfl (by intro w hS_; exact (akb (akl (· == (58 : UInt8)) s_0) (1 : Int) krf krf b8))) (rt 6 (str (zam (zac ((akl (· == (58 : UInt8)) s_0) + (1 : Int))) s_0)) rfl rfl (aaz rfl (by intro w hS_; exact (alu s_0 .i64 ((akl (· == (58 : UInt8)) s_0) + (1 : Int)) underlying9 krf krf b9))) (rp 0 [7] (adl krf (wp 2 (nq (ct ?_))))))
 obtain rfl := oi hr
 exact rv c0.kp
theorem K_L_lexis_Number {fu : Nat} {s_0 : Str} {w : World} {r : (Int × UInt8)} (hr : aix fu s_0 = some r) (hG : Gl w) : CR prog 58 [(str s_0)] w fun v w' => v = (zal #[(Vi .i64 r.1), (bt r.2)]) ∧ Hp w [] [] w' := by
 have hH := Hp.refl w
 refine enter (k := 41) func58 rfl rfl nbe ?_
 unfold aix at hr
 refine sr (wp 2 (nq (cs (bi hr fun v5 a4 hr => ait hH [0, 2, 3, 13] [(13, (Vb v5))] ?_ ?_))))
 refine cr (wp 3 (wd a4 (fun h6 a4 => ?_) (fun h6 a4 => ?_)))
 refine wp 4 (wl (ql ?_))
 obtain rfl := oi a4
 exact je hH.kp
 refine wp 4 (wl (ql ?_))
 obtain rfl := oi a4
 exact je hH.kp
 intro w7 G a6
 refine cb hr (fun h9 hr => ?_) (fun h9 hr => ?_)
 refine sr (wp 2 (nq (ct (st ?_))))
 obtain rfl := oi hr
 exact rv a6.kp
 refine ck (qn (sr (wp 1 (nq (bi hr fun b1 b2 hr => cut1 a6 b1 [2, 3, 4] (fun a7 => [(4, (Vi .i64 a7))]) ?_ ?_)))))
 refine sr (wp 3 (nq (ce (lpS (fun a8 ⟨a3, a1⟩ => aeq fu s_0 a8 a3 a1) ((0 : Int), (0 : Int)) a6 b2 [0, 2, 3, 4, 15, 16] (fun ⟨a3, a1⟩ => [(4, (Vi .i64 a3)), (16, (Vi .i64 a1))]) (fun _ => rfl) ?_))))
 rintro a8 ⟨a3, a1⟩ c4 G a5 a0
 dsimp only at a0
 rw [aeq.eq_2] at a0
 refine sr (wp 1 (nq (cs (cd a0 (fun b3 a0 => ?_) (fun b3 a0 => ?_)))))
 refine ck (qn (cs (ce (sr (wp 2 (nq (cs ?_)))))))
 refine bi a0 fun b4 a2 a0 => ait a5 [0, 2, 3, 4, 5, 15, 16, 28] [(28, (Vb b4))] ?_ ?_
 refine cr (wp 2 (gi a2 fun b5 a2 => afp s_0 .i64 a1 underlying9 krf krf b5 (w8_lss (at_ s_0 a1) (48 : UInt8) krf krf (wd a2 (fun b6 a2 => ?_) (fun b6 a2 => ?_)))))
 refine wp 5 (wl (ql ?_))
 obtain rfl := oi a2
 exact je a5.kp
 refine wp 2 (gy 23 (gi a2 fun b7 a2 => afp s_0 .i64 a1 underlying9 krf krf b7 (gy 23 (w8_gtr (at_ s_0 a1) (57 : UInt8) krf krf (wp 1 (wl (ql ?_)))))))
 obtain rfl := oi a2
 exact je a5.kp
 intro c5 G a9
 refine cb a0 (fun b8 a0 => ?_) (fun b8 a0 => ?_)
 refine sr (wp 2 (nq (ct (st (bt_ (st (afg ?_)))))))
 refine bt_ (afg ?_)
 obtain rfl := oi a0
 obtain rfl := oi hr
 exact rv a9.kp
 refine ck (qn (cr (wp 1 (gi a0 fun b9 a0 => ank (10 : Int) a3 krf krf b9 (wp 2 (gi a0 fun c0 a0 => afp s_0 .i64 a1 underlying9 krf krf c0 (w8_sub (at_ s_0 a1) (48 : UInt8) krf krf ?_)))))))
 refine w_convx .i64 .u8 (((at_ s_0 a1) - (48 : UInt8)).toNat : Int) underlying5 underlying2 krf (wrap_u8_i64 _) (gi a0 fun c1 a0 => aak ((10 : Int) * a3) (((at_ s_0 a1) - (48 : UInt8)).toNat : Int) krf krf c1 (wp 1 (wl (bn (qn (cr (gi a0 fun c2 a0 => aak a1 (1 : Int) krf krf c2 ?_)))))))
 exact wp 1 (wl (ql (le' (((10 : Int) * a3) + (((at_ s_0 a1) - (48 : UInt8)).toNat : Int), a1 + (1 : Int)) a9.kp a0)))
 refine acw (acv (adf (acx (ql ?_))))
 obtain rfl := oi a0
 exact je1 rfl a5.kp
 rintro a7 c6 G b0 rfl
 refine cs (sr (wp 2 (nq (cd hr (fun c3 hr => ?_) (fun c3 hr => ?_)))))
 refine sr (wp 2 (nq (ct (st ?_))))
 obtain rfl := oi hr
 exact rv b0.kp
 refine ck (qn (sr (wp 3 (nq (ct ?_)))))
 obtain rfl := oi hr
 exact rv b0.kp
theorem K_L_address_Get {fu : Nat} {a1 : List PQ} {b0 : Str} (a3 : Option Addr) (a6 : Nat) (a7 : Nat) {w : World} {r : (Str × Bool)} (hr : aio fu a1 b0 = some r) (hG : Gl w) (b4 : a6 = a1.length) (b1 : Rd w a3 (zak aaa a1)) (c7 : a6 ≤ a7) : CR prog 28 [(Vs a3 a6 a7), (str b0)] w fun v w' => v = (zal #[(str r.1), (Vb r.2)]) ∧ Hp w [] [] w' := by
 subst b4
 have hH := Hp.refl w
 refine enter (k := 24) func28 rfl rfl nbe ?_
 unfold aio at hr
 refine sr (wp 2 (nq (sr (wp 1 (bi hr fun y1 b5 hr => wc ent84 hH (adm b5 (hG.hp0 hH)) fun w3 b2 => ?_)))))
 refine wp 1 (nq (bi hr fun b6 b7 hr => cut1 b2 b6 [4, 5] (fun b8 => []) ?_ ?_))
 refine sr (wp 3 (nq (ce (lpS (fun b3 a0 => afm fu a1 y1 b3 a0) (0 : Int) b2 b7 [1, 4, 5, 10, 11, 12] (fun a0 => [(12, (Vi .i64 a0))]) (fun _ => rfl) ?_))))
 rintro b3 a0 c8 G a4 a2
 rw [afm.eq_2] at a2
 refine sr (wp 1 (nq (cs (cd a2 (fun b9 a2 => ?_) (fun b9 a2 => ?_)))))
 refine ck (qn (cs (ce (sr (gi a2 fun c0 a2 => ahq a3 a1.length a7 46 3 .i64 a0 underlying22 krf krf krf a1 rfl c0 (b1.hp a4) aab (by decide) (gi a2 fun c1 a2 => aif a3 aaa a1 3 a0 aab (b1.hp a4) (Zz3 a1 a0) c1 krf krf krf krf (by decide) ?_))))))
 refine aes a4 (Zz6) 46 (fun b => (Vp (some ⟨b, 0, none⟩))) rfl rfl krf fun a5 c9 c2 => ahm c2 0 a5 0 (Zz6) (Zz3 a1 a0) 46 [blk a5 (Zz3 a1 a0) 46] rfl nbe krf krf rfl krf rfl fun d0 a8 => nq (sr (wp 1 (acm a8 0 a5 0 (Zz3 a1 a0) 46 (str ((el a1 a0).1)) rfl rfl krf krf (bi a2 fun d1 c3 a2 => wc ent84 a8 (adm c3 (hG.hp0 a8)) fun d2 a9 => ?_))))
 refine wp 2 (nq (cd a2 (fun c4 a2 => ?_) (fun c4 a2 => ?_)))
 refine sr (wp 1 (acm a9 0 a5 1 (Zz3 a1 a0) 46 (str ((el a1 a0).2.1)) rfl rfl krf krf (wp 2 (nq (ct (bt_ (st ?_)))))))
 refine afg (bt_ (afg ?_))
 obtain rfl := oi a2
 obtain rfl := oi hr
 exact rv a9.kp
 exact ck (bn (qn (cr (gi a2 fun c5 a2 => aak a0 (1 : Int) krf krf c5 (wp 1 (wl (ql (le' (a0 + (1 : Int)) a9.kp a2))))))))
 refine acw (acv (adf (acx (ql ?_))))
 obtain rfl := oi a2
 exact je1 rfl a4.kp
 rintro b8 d3 G c6 rfl
 refine sr (wp 2 (nq (ct ?_)))
 obtain rfl := oi hr
 exact rv c6.kp
theorem K_L_header_Via {fu : Nat} {c9 : Str} {w : World} {r : ((Str × Str × Int × Str × (List PQ)) × UInt8)} (hr : akq fu c9 = some r) (hG : Gl w) : CR prog 15 [(str c9)] w fun v w' => ∃ (o0 : Option Nat), ∃ (a0 : Option Addr), ∃ (cap0 : Nat), v = (zal #[(zan #[(str r.1.1), (str r.1.2.1), (Vi .i64 r.1.2.2.1), (str r.1.2.2.2.1), (Vs a0 r.1.2.2.2.2.length cap0)]), (bt r.2)]) ∧ Hp w [] [rwt aaa 46 3 o0 a0 cap0 r.1.2.2.2.2] w' := by
 have hH := Hp.refl w
 refine enter (k := 120) func15 rfl rfl nbe ?_
 unfold akq at hr
 refine sr (aes hH (Zz7) 24 (fun b => (Vp (some ⟨b, 0, none⟩))) rfl rfl krf fun b1 w2 d0 => wp 1 (nq (sr (wp 1 (bi hr fun y4 e9 hr => ?_)))))
 refine wc ent51 d0 (alb e9 (hG.hp0 d0)) fun w6 b9 => wp 1 (nq (cs (bi hr fun f0 b3 hr => ait b9 [0, 2, 3, 30] [(30, (Vb f0))] ?_ ?_)))
 refine cr (wp 3 (wd b3 (fun f1 b3 => ?_) (fun f1 b3 => ?_)))
 refine wp 5 (wl (ql ?_))
 obtain rfl := oi b3
 exact je b9.kp
 refine wp 1 (gy 25 (gi b3 fun f2 b3 => ano y4 .i64 (8 : Int) underlying9 krf krf f2 (gy 25 (bi b3 fun j1 f3 b3 => wc ent52 b9 (aff f3 (hG.hp0 b9)) fun j2 f4 => wp 2 (wl (ql ?_))))))
 obtain rfl := oi b3
 exact je f4.kp
 intro j3 G c3
 refine cb hr (fun f5 hr => ?_) (fun f5 hr => ?_)
 refine sr (wp 1 (ahm c3 0 b1 0 (Zz7) (Zz7) 24 [blk b1 (Zz7) 24] rfl nbe krf krf rfl krf rfl fun j4 d1 => wp 1 (nq (ct (st ?_)))))
 obtain rfl := oi hr
 refine anp _ [(zan #[(str ([] : Str)), (str ([] : Str)), (Vi .i64 (0 : Int)), (str ([] : Str)), (Vs none 0 0)]), (bt (5 : UInt8))] (zal #[(zan #[(str ([] : Str)), (str ([] : Str)), (Vi .i64 (0 : Int)), (str ([] : Str)), (Vs none 0 0)]), (bt (5 : UInt8))]) rfl rfl (abq (ahy d1 0 b1 24 (Zz7) rfl krf krf krf) (abq (afi krf) ago)) rfl ?_
 exact ⟨none, none, 0, (by first | rfl | (simp; done) | (simp; omega)), (Hp.nilrw d1 aaa 46 3 none).kp⟩
 refine ck (qn (sr (wp 1 (bi hr fun f6 f7 hr => wc ent54 c3 (ala f7 (hG.hp0 c3)) fun j5 d2 => wp 1 (nq ?_)))))
 refine sr (wp 2 (bi hr fun a9 f8 hr => wc ent55 d2 (akj f8 (hG.hp0 d2)) fun j6 c4 => wp 1 (nq (cs (bi hr fun f9 b7 hr => ait c4 [0, 2, 3, 4, 5, 43] [(43, (Vb f9))] ?_ ?_)))))
 refine cr (wp 2 (wd b7 (fun g0 b7 => ?_) (fun g0 b7 => ?_)))
 refine wp 4 (wl (ql ?_))
 obtain rfl := oi b7
 exact je c4.kp
 refine wp 4 (wl (ql ?_))
 obtain rfl := oi b7
 exact je c4.kp
 intro j7 G c5
 refine cb hr (fun g1 hr => ?_) (fun g1 hr => ?_)
 refine sr (wp 1 (ahm c5 0 b1 0 (Zz7) (Zz7) 24 [blk b1 (Zz7) 24] rfl nbe krf krf rfl krf rfl fun j8 d3 => wp 1 (nq (ct (st ?_)))))
 obtain rfl := oi hr
 refine anp _ [(zan #[(str ([] : Str)), (str ([] : Str)), (Vi .i64 (0 : Int)), (str ([] : Str)), (Vs none 0 0)]), (bt (5 : UInt8))] (zal #[(zan #[(str ([] : Str)), (str ([] : Str)), (Vi .i64 (0 : Int)), (str ([] : Str)), (Vs none 0 0)]), (bt (5 : UInt8))]) rfl rfl (abq (ahy d3 0 b1 24 (Zz7) rfl krf krf krf) (abq (afi krf) ago)) rfl ?_
 exact ⟨none, none, 0, (by first | rfl | (simp; done) | (simp; omega)), (Hp.nilrw d3 aaa 46 3 none).kp⟩
 refine ck (qn (sr (wp 2 (gi hr fun g2 hr => w_slice y4 .i64 .i64 (8 : Int) f6 underlying9 krf krf krf g2 (bi hr fun a1 g3 hr => wc ent52 c5 (aff g3 (hG.hp0 c5)) fun j9 g4 => wp 1 ?_)))))
 refine aes g4 (Zz7) 24 (fun b => (Vp (some ⟨b, 0, none⟩))) rfl rfl krf fun a7 k0 g5 => ahm g5 0 a7 0 (Zz7) (Zz56 a1) 24 [blk a7 (Zz56 a1) 24, blk b1 (Zz7) 24] rfl nbe krf krf rfl krf rfl fun g6 c6 => nq (sr (wp 2 (gi hr fun g7 hr => ajl y4 .i64 a9 underlying9 krf krf g7 (wp 2 ?_))))
 refine nq (bi hr fun c7 b0 hr => ait c6 [2, 3, 6, 7, 8] [(7, (str c7.1)), (8, (str c7.2))] ?_ ?_)
 refine sr (wp 1 (gi b0 fun g8 b0 => aar 56 #[] [(str (zam (zac a9) y4)), (str ([59, 32, 9] : Str))] _ ent56 krf krf (sh_IndexAnyW (zam (zac a9) y4) ([59, 32, 9] : Str) g6 g8 (hG.hp0 c6)) ?_))
 rintro _ k1 ⟨rfl, d4⟩
 have d5 := c6.call d4; clear d4
 refine wp 1 (nq (sr (wp 2 (nq (cd b0 (fun g9 b0 => ?_) (fun g9 b0 => ?_))))))
 refine gi b0 fun h0 b0 => gi b0 fun h1 b0 => cdr 7 d5 (aba acu) fun k2 h2 => rp 5 [0, 1] (rt 2 (str (List.take (zac (zat (zam (zac a9) y4) ([59, 32, 9] : Str))) (zam (zac a9) y4))) rfl rfl (aaz rfl (by intro w hS_; exact (x_slice_to (zam (zac a9) y4) .i64 (zat (zam (zac a9) y4) ([59, 32, 9] : Str)) underlying9 krf krf h0))) (rp 2 [3, 4] (rt 5 (str (zam (zac (zat (zam (zac a9) y4) ([59, 32, 9] : Str))) (zam (zac a9) y4))) rfl rfl (aaz rfl (by intro w hS_; exact (alu (zam (zac a9) y4) .i64 (zat (zam (zac a9) y4) ([59, 32, 9] : Str)) underlying9 krf krf h1))) (rp 0 [6] (adl krf (wp 1 ?_))))))
 refine wl (ql ?_)
 obtain rfl := oi b0
 exact je (Hp.front (Hp.front h2 1 _ rfl) 1 _ rfl).kp
 refine ck (ql ?_)
 obtain rfl := oi b0
 exact je (Hp.front (Hp.front d5 1 _ rfl) 1 _ rfl).kp
 intro k3 G d6
 refine sr (wp 1 (bi hr fun k4 h3 hr => wc ent57 d6 (K_L_header_cutPort h3 (hG.hp0 d6)) fun k5 d7 => wp 7 (nq (sr ?_))))
 refine wp 1 (bi hr fun a2 h4 hr => wc ent26 d7 (aga h4 (hG.hp0 d7)) fun k6 d8 => wp 5 (nq (cs (sr (wp 2 ?_)))))
 refine nq (cb hr (fun h5 hr => ?_) (fun h5 hr => ?_))
 refine sr (wp 1 (ahm d8 1 b1 0 (Zz7) (Zz7) 24 [blk a7 (Zz56 a1) 24, blk b1 (Zz7) 24] rfl nbe krf krf rfl krf rfl fun k7 d9 => wp 1 (nq (ct (st ?_)))))
 obtain rfl := oi hr
 refine anp _ [(zan #[(str ([] : Str)), (str ([] : Str)), (Vi .i64 (0 : Int)), (str ([] : Str)), (Vs none 0 0)]), (bt (5 : UInt8))] (zal #[(zan #[(str ([] : Str)), (str ([] : Str)), (Vi .i64 (0 : Int)), (str ([] : Str)), (Vs none 0 0)]), (bt (5 : UInt8))]) rfl rfl (abq (ahy d9 1 b1 24 (Zz7) rfl krf krf krf) (abq (afi krf) ago)) rfl ?_
 exact ⟨none, none, 0, (by first | rfl | (simp; done) | (simp; omega)), (Hp.nilrw d9 aaa 46 3 none).kp⟩
 refine ck (qn (sr (wp 2 (ahe d8 0 a7 1 (Zz56 a1) 24 (str a2.1) [blk a7 (Zz74 a1 a2.1) 24, blk b1 (Zz7) 24] rfl (zaf (zad _) nbe) krf krf rfl krf rfl fun k8 c8 => nq (bi hr fun h6 a8 hr => cut (σ := Int) [2, 3, 6, 8] (fun a4 => []) (fun a4 w' => Hp w [] [blk a7 (Zz52 a1 a2.1 a4) 24, blk b1 (Zz7) 24] w' ∧ .inl a4 = h6) ?_ ?_)))))
 refine sr (wp 1 (nq (cb a8 (fun h7 a8 => ?_) (fun h7 a8 => ?_))))
 refine sr (wp 1 (bi a8 fun c0 h8 a8 => wc ent58 c8 (K_L_lexis_Number h8 (hG.hp0 c8)) fun k9 b8 => wp 5 (nq (bi a8 fun c1 b5 a8 => ait b8 [2, 3, 6, 8, 15, 16] [(16, (bt c1))] ?_ ?_))))
 refine bi b5 fun h9 b4 b5 => ait b8 [2, 3, 6, 8, 15, 16, 94] [(94, (Vb h9))] ?_ ?_
 refine cr (wp 1 (aee c0.2 (0 : UInt8) krf krf (wd b4 (fun i0 b4 => ?_) (fun i0 b4 => ?_))))
 refine wp 2 (gy 87 (wd b4 (fun i1 b4 => ?_) (fun i1 b4 => ?_)))
 refine wp 4 (wl (ql ?_))
 obtain rfl := oi b4
 exact je (Hp.front (Hp.front b8 1 _ rfl) 1 _ rfl).kp
 refine wp 4 (wl (ql ?_))
 obtain rfl := oi b4
 exact je (Hp.front (Hp.front b8 1 _ rfl) 1 _ rfl).kp
 refine wp 7 (wl (ql ?_))
 obtain rfl := oi b4
 exact je (Hp.front (Hp.front b8 1 _ rfl) 1 _ rfl).kp
 intro l0 G e0
 refine cb b5 (fun i2 b5 => ?_) (fun i2 b5 => ?_)
 refine cr (wp 1 (wl (ql ?_)))
 obtain rfl := oi b5
 exact je (Hp.front (Hp.front e0 1 _ rfl) 1 _ rfl).kp
 refine ck (ql ?_)
 obtain rfl := oi b5
 exact je (Hp.front (Hp.front e0 1 _ rfl) 1 _ rfl).kp
 intro l1 G e1
 refine cs (sr (wp 1 (ahx c1 (0 : UInt8) krf krf (nq (cn a8 (fun i3 a8 => ?_) (fun i3 a8 => ?_))))))
 refine sr (wp 2 (ahm e1 1 b1 0 (Zz7) (Zz7) 24 [blk a7 (Zz74 a1 a2.1) 24, blk b1 (Zz7) 24] rfl nbe krf krf rfl krf rfl fun l2 e2 => wp 1 (nq (ct (st (afg ?_))))))
 obtain rfl := oi a8
 obtain rfl := oi hr
 refine anp _ [(zan #[(str ([] : Str)), (str ([] : Str)), (Vi .i64 (0 : Int)), (str ([] : Str)), (Vs none 0 0)]), (bt c1)] (zal #[(zan #[(str ([] : Str)), (str ([] : Str)), (Vi .i64 (0 : Int)), (str ([] : Str)), (Vs none 0 0)]), (bt c1)]) rfl rfl (abq (ahy e2 1 b1 24 (Zz7) rfl krf krf krf) (abq (afi krf) ago)) rfl ?_
 exact ⟨none, none, 0, (by first | rfl | (simp; done) | (simp; omega)), (Hp.nilrw e2 aaa 46 3 none).kp⟩
 refine ck (qn (cr (wp 2 (ahe e1 0 a7 2 (Zz74 a1 a2.1) 24 (Vi .i64 c0.1) [blk a7 (Zz52 a1 a2.1 c0.1) 24, blk b1 (Zz7) 24] rfl (zaf (zad _) nbe) krf krf rfl krf rfl fun l3 i4 => wl (ql ?_)))))
 obtain rfl := oi a8
 exact ⟨c0.1, _, rfl, by kernel_rfl, (Hp.front (Hp.front i4 1 _ rfl) 1 _ rfl).kp, rfl⟩
 refine ck (ql ?_)
 obtain rfl := oi a8
 exact ⟨(0 : Int), _, rfl, by kernel_rfl, (Hp.front (Hp.front c8 1 _ rfl) 1 _ rfl).kp, rfl⟩
 rintro a4 l4 G ⟨e3, rfl⟩
 refine sr (wp 1 (bi hr fun a3 i5 hr => aar 59 #[] [(str c7.2)] _ ent59 krf krf (ani i5 (hG.hp0 e3)) ?_))
 rintro _ i6 ⟨b6, a5, a6, rfl, e4⟩
 have e5 : Hp w [] [rwt aaa 46 3 b6 a5 a6 a3.1, blk a7 (Zz52 a1 a2.1 a4) 24, blk b1 (Zz7) 24] i6 := Hp.callK (L1 := []) (L2 := [blk a7 (Zz52 a1 a2.1 a4) 24, blk b1 (Zz7) 24]) e3 e4; clear e4
 refine wp 7 (nq (cs (sr (wp 1 (ahx a3.2.2 (0 : UInt8) krf krf (nq (cn hr (fun i7 hr => ?_) (fun i7 hr => ?_))))))))
 refine sr (wp 2 (ahm e5 2 b1 0 (Zz7) (Zz7) 24 [rwt aaa 46 3 b6 a5 a6 a3.1, blk a7 (Zz52 a1 a2.1 a4) 24, blk b1 (Zz7) 24] rfl nbe krf krf rfl krf rfl fun l5 e6 => wp 1 (nq (ct (st ?_)))))
 obtain rfl := oi hr
 refine anp _ [(zan #[(str ([] : Str)), (str ([] : Str)), (Vi .i64 (0 : Int)), (str ([] : Str)), (Vs none 0 0)]), (bt a3.2.2)] (zal #[(zan #[(str ([] : Str)), (str ([] : Str)), (Vi .i64 (0 : Int)), (str ([] : Str)), (Vs none 0 0)]), (bt a3.2.2)]) rfl rfl (abq (ahy e6 2 b1 24 (Zz7) rfl krf krf krf) (abq (afi krf) ago)) rfl ?_
 exact ⟨none, none, 0, (by first | rfl | (simp; done) | (simp; omega)), (Hp.nilrw e6 aaa 46 3 none).kp⟩
 refine ck (qn (sr (wp 2 (ahe e5 1 a7 4 (Zz52 a1 a2.1 a4) 24 (Vs a5 a3.1.length a6) [rwt aaa 46 3 b6 a5 a6 a3.1, blk a7 [(str a1), (str a2.1), (Vi .i64 a4), (str ([] : Str)), (Vs a5 a3.1.length a6)] 24, blk b1 (Zz7) 24] rfl (zaf (zad _) nbe) krf krf rfl krf rfl fun l6 c2 => nq (sr ?_)))))
 refine wp 1 (bi hr fun b2 i9 hr => wc ent28 c2 (K_L_address_Get a5 a3.1.length a6 i9 (hG.hp0 c2) rfl (c2.rdrw 0 rfl) (c2.rwcap 0 rfl)) fun l7 j0 => wp 4 (ahe j0 1 a7 3 [(str a1), (str a2.1), (Vi .i64 a4), (str ([] : Str)), (Vs a5 a3.1.length a6)] 24 (str b2.1) [rwt aaa 46 3 b6 a5 a6 a3.1, blk a7 (Zz5 a1 a2.1 a4 b2.1 a5 a3.1.length a6) 24, blk b1 (Zz7) 24] rfl (zaf (zad _) nbe) krf krf rfl krf rfl fun l8 e7 => nq (sr (amh e7 1 a7 0 5 (Zz5 a1 a2.1 a4 b2.1 a5 a3.1.length a6) (Zz5 a1 a2.1 a4 b2.1 a5 a3.1.length a6) 24 rfl rfl rfl krf krf krf ?_))))
 refine ahm e7 2 b1 0 (Zz7) (Zz5 a1 a2.1 a4 b2.1 a5 a3.1.length a6) 24 [rwt aaa 46 3 b6 a5 a6 a3.1, blk a7 (Zz5 a1 a2.1 a4 b2.1 a5 a3.1.length a6) 24, blk b1 (Zz5 a1 a2.1 a4 b2.1 a5 a3.1.length a6) 24] rfl nbe krf krf rfl krf rfl fun l9 e8 => wp 1 (nq (ct ?_))
 obtain rfl := oi hr
 refine anp _ [(zan #[(str a1), (str a2.1), (Vi .i64 a4), (str b2.1), (Vs a5 a3.1.length a6)]), (bt (0 : UInt8))] (zal #[(zan #[(str a1), (str a2.1), (Vi .i64 a4), (str b2.1), (Vs a5 a3.1.length a6)]), (bt (0 : UInt8))]) rfl rfl (abq (ahy e8 2 b1 24 (Zz5 a1 a2.1 a4 b2.1 a5 a3.1.length a6) rfl krf krf krf) (abq (afi krf) ago)) rfl ?_
 exact ⟨b6, a5, a6, (by first | rfl | (simp; done) | (simp; omega)), e8.kp⟩
theorem K_L_header_numbered {fu : Nat} {s_0 : Str} {w : World} {r : (Int × Str × UInt8)} (hr : alm fu s_0 = some r) (hG : Gl w) : CR prog 86 [(str s_0)] w fun v w' => v = (zal #[(Vi .i64 r.1), (str r.2.1), (bt r.2.2)]) ∧ Hp w [] [] w' := by
 have hH := Hp.refl w
 refine enter (k := 28) func86 rfl rfl nbe ?_
 unfold alm at hr
 refine sr (wp 3 (nq (sr (wp 1 (gi hr fun g4 hr => aar 56 #[] [(str s_0), (str ([32, 9] : Str))] _ ent56 krf krf (sh_IndexAnyW s_0 ([32, 9] : Str) w g4 (hG.hp0 hH)) ?_)))))
 rintro _ w1 ⟨rfl, a0⟩
 have a1 := hH.call a0; clear a0
 refine wp 1 (nq (cs (sr (wp 2 (nq (cd hr (fun h6 hr => ?_) (fun h6 hr => ?_)))))))
 exact nzz hr
 refine ck (qn (sr (wp 2 (gi hr fun g7 hr => ano s_0 .i64 (zat s_0 ([32, 9] : Str)) underlying9 krf krf g7 (bi hr fun y8 a4 hr => wc ent58 a1 (K_L_lexis_Number a4 (hG.hp0 a1)) fun a9 a5 => wp 5 ?_)))))
 refine nq (cs (bi hr fun a2 a6 hr => gi hr fun a7 hr => cdr 9 a5 (adg acu) fun b0 a3 => rp 4 [0, 1, 2, 3, 6] (ro 4 rfl (wc ent55 a3 (akj a6 (hG.hp0 a3)) fun b1 a8 => wl ?_))))
 refine acg (by exact trivial) (rt 5 (str (zam (zac a2) s_0)) rfl rfl (aaz rfl (by intro w hS_; exact (alu s_0 .i64 a2 underlying9 krf krf a7))) (rp 0 [7, 8] (adl krf (wp 1 (nq (ct ?_))))))
 obtain rfl := oi hr
 exact rv a8.kp
theorem K_L_header_CSeq {fu : Nat} {a0 : Str} {w : World} {r : (Int × Str × UInt8)} (hr : aon fu a0 = some r) (hG : Gl w) : CR prog 32 [(str a0)] w fun v w' => v = (zal #[(Vi .i64 r.1), (str r.2.1), (bt r.2.2)]) ∧ Hp w [] [] w' := by
 have hH := Hp.refl w
 refine enter (k := 23) func32 rfl rfl nbe ?_
 unfold aon at hr
 refine sr (wp 3 (nq (sr (wp 1 (bi hr fun y1 a3 hr => wc ent51 hH (alb a3 (hG.hp0 hH)) fun w3 a1 => ?_)))))
 refine bi hr fun y6 a4 hr => wc ent86 a1 (K_L_header_numbered a4 (hG.hp0 a1)) fun w8 a2 => wp 7 (nq (cs (sr (wp 1 (ahx y6.2.2 (0 : UInt8) krf krf ?_)))))
 refine nq (cn hr (fun a5 hr => ?_) (fun a5 hr => ?_))
 exact nzz hr
 refine ck (qn (cs (sr (wp 1 (bi hr fun a9 a6 hr => wc ent69 a2 (agx a6 (hG.hp0 a2)) fun b0 a7 => wp 1 (wl ?_))))))
 refine qn (cb hr (fun a8 hr => ?_) (fun a8 hr => ?_))
 exact nzz hr
 refine ck (qn (sr (wp 5 (nq (ct ?_)))))
 obtain rfl := oi hr
 exact rv a7.kp
theorem amt {fu : Nat} {w : World} {r : Bool} (hr : ajs fu = some r) (hG : Gl w) : CR prog 14 [] w fun v w' => v = (Vb r) ∧ Hp w [] [] w' := by
 have hH := Hp.refl w
 refine enter (k := 77) func14 rfl rfl nbe ?_
 unfold ajs at hr
 refine sr (wp 1 (nq (sr (bi hr fun y1 b3 hr => wc ent34 hH (K_L_header_Canon b3 (hG.hp0 hH)) fun w3 a7 => wp 5 ?_))))
 refine nq (sr (bi hr fun y6 b4 hr => wc ent25 a7 (K_L_header_Tidy b4 (hG.hp0 a7)) fun w8 a8 => wp 5 (nq (cs ?_))))
 refine cr (bi hr fun a1 b5 hr => aar 15 #[] [(str ([115, 105, 112, 47, 50, 46, 48, 47, 117, 100, 112, 32, 104, 58, 53, 48, 54, 48, 59, 98, 114, 97, 110, 99, 104, 61, 122, 57] : Str))] _ ent15 krf krf (K_L_header_Via b5 (hG.hp0 a8)) ?_)
 rintro _ b6 ⟨a9, a2, a3, rfl, b0⟩
 have b7 : Hp w [] (Zz10 a9 a2 a3 a1.1.2.2.2.2) b6 := Hp.callK (L1 := []) (L2 := []) a8 b0; clear b0
 refine wp 3 (aes b7 (Zz7) 24 (fun b => (Vp (some ⟨b, 0, none⟩))) rfl rfl krf fun a4 d3 b8 => ahm b8 0 a4 0 (Zz7) (Zz5 a1.1.1 a1.1.2.1 a1.1.2.2.1 a1.1.2.2.2.1 a2 a1.1.2.2.2.2.length a3) 24 [blk a4 (Zz5 a1.1.1 a1.1.2.1 a1.1.2.2.1 a1.1.2.2.2.1 a2 a1.1.2.2.2.2.length a3) 24, rwt aaa 46 3 a9 a2 a3 a1.1.2.2.2.2] rfl nbe krf krf rfl krf rfl fun d4 b1 => wp 1 (nq (sr (bi hr fun b2 b9 hr => wc ent32 b1 (K_L_header_CSeq b9 (hG.hp0 b1)) fun d5 a5 => ?_))))
 refine wp 7 (nq (bi hr fun c0 a0 hr => cut (σ := Unit) [0] (fun a6 => [(0, (Vb (decide (b2.2.2 = (0 : UInt8)))))]) (fun a6 w' => Hp w [] [] w' ∧ a6 = c0) ?_ ?_))
 refine cr (wp 1 (aee y1.2 (0 : UInt8) krf krf (wd a0 (fun c1 a0 => ?_) (fun c1 a0 => ?_))))
 refine wp 3 (wd a0 (fun c2 a0 => ?_) (fun c2 a0 => ?_))
 refine wp 1 (gy 33 (aee y6.2 (0 : UInt8) krf krf (wp 1 (wd a0 (fun c3 a0 => ?_) (fun c3 a0 => ?_)))))
 refine wp 3 (wd a0 (fun c4 a0 => ?_) (fun c4 a0 => ?_))
 refine wp 1 (gy 41 (aee a1.2 (0 : UInt8) krf krf (wp 1 (wd a0 (fun c5 a0 => ?_) (fun c5 a0 => ?_)))))
 refine wp 1 (gy 45 (acm a5 0 a4 0 (Zz5 a1.1.1 a1.1.2.1 a1.1.2.2.1 a1.1.2.2.2.1 a2 a1.1.2.2.2.2.length a3) 24 (str a1.1.1) rfl rfl krf krf (wp 2 (wd a0 (fun c6 a0 => ?_) (fun c6 a0 => ?_)))))
 refine wp 1 (gy 50 (acm a5 0 a4 1 (Zz5 a1.1.1 a1.1.2.1 a1.1.2.2.1 a1.1.2.2.2.1 a2 a1.1.2.2.2.2.length a3) 24 (str a1.1.2.1) rfl rfl krf krf (wp 2 (wd a0 (fun c7 a0 => ?_) (fun c7 a0 => ?_)))))
 refine wp 1 (gy 55 (acm a5 0 a4 2 (Zz5 a1.1.1 a1.1.2.1 a1.1.2.2.1 a1.1.2.2.2.1 a2 a1.1.2.2.2.2.length a3) 24 (Vi .i64 a1.1.2.2.1) rfl rfl krf krf (wp 2 (wd a0 (fun c8 a0 => ?_) (fun c8 a0 => ?_)))))
 refine wp 1 (gy 60 (acm a5 0 a4 3 (Zz5 a1.1.1 a1.1.2.1 a1.1.2.2.1 a1.1.2.2.2.1 a2 a1.1.2.2.2.2.length a3) 24 (str a1.1.2.2.2.1) rfl rfl krf krf (wp 2 (wd a0 (fun c9 a0 => ?_) (fun c9 a0 => ?_)))))
 refine wp 3 (wd a0 (fun d0 a0 => ?_) (fun d0 a0 => ?_))
 refine wp 3 (wd a0 (fun d1 a0 => ?_) (fun d1 a0 => ?_))
 refine wp 1 (gy 73 (aee b2.2.2 (0 : UInt8) krf krf (wp 2 (wl (ql ?_)))))
 obtain rfl := oi a0
 exact ⟨(), _, rfl, by kernel_rfl, a5.kp, rfl⟩
 exact nzz a0
 exact nzz a0
 exact nzz a0
 exact nzz a0
 exact nzz a0
 exact nzz a0
 exact nzz a0
 exact nzz a0
 exact nzz a0
 exact nzz a0
 exact nzz a0
 rintro a6 d6 G ⟨d2, rfl⟩
 refine ct ?_
 obtain rfl := oi hr
 exact rv d2.kp
theorem aoo {fu : Nat} {s_0 : List PQ} (a0 : Option Addr) (a2 : Nat) (a1 : Nat) {w : World} {r : List PQ} (hr : agi fu s_0 = some r) (hG : Gl w) (a3 : a2 = s_0.length) (a5 : Rd w a0 (zak aaa s_0)) (a6 : a2 ≤ a1) : CR prog 129 [(Vs a0 a2 a1)] w fun v w' => ∃ (b0 : Nat), v = (zao (.func 186) #[] #[(Vp (some ⟨b0, 0, none⟩))]) ∧ Hp w [] [blk b0 [(Vs a0 s_0.length a1)] 22] w' := by
 subst a3
 have hH := Hp.refl w
 refine enter (k := 4) func129 rfl rfl nbe ?_
 unfold agi at hr
 refine sr (aes hH [(Vs a0 s_0.length a1)] 22 (fun b => (Vp (some ⟨b, 0, none⟩))) rfl rfl krf fun b1 w2 a4 => wp 1 (nq (sr (wp 2 (wl ?_)))))
 refine qn (ct ?_)
 obtain rfl := oi hr
 refine r_one (zao (.func 186) #[] #[(Vp (some ⟨b1, 0, none⟩))]) rfl krf ?_
 exact ⟨b1, (by first | rfl | (simp; done) | (simp; omega)), a4.kp⟩
open List renaming flatMap → zak, length_take → zaj, set → zae
theorem ent130 : Wk.Enters prog 130 := ⟨f130, _, func130, rfl, krf⟩
theorem ent186 : Wk.Enters prog 186 := ⟨f186, _, func186, rfl, krf⟩
theorem ent218 : Wk.Enters prog 218 := ⟨f218, _, func218, rfl, krf⟩
theorem afq {fu : Nat} {a3 : List PQ} {a1 : List PQ} (a4 : Nat) (a8 : Loop) (a9 : Nat) (b6 : Option Nat) (a5 : Option Addr) (a6 : Nat) (b1 : Nat) (a7 : Option Addr) (d2 : Nat) (b0 : Nat) {w : World} {r : ((List PQ) × Nat)} (hr : abg fu a3 a1 = some r) (hG : Gl w) (e0 : d2 = a1.length) (d3 : Rd w a7 (zak aaa a1)) (f4 : d2 ≤ b0) (hM : Hp w (abf [afy a4 0 a8, blk a9 [(Vs a5 a3.length a6)] 22, blk b1 [(Vs a7 a1.length b0)] 22, rwt aaa 46 3 b6 a5 a6 a3]) [afy a4 0 a8, blk a9 [(Vs a5 a3.length a6)] 22, blk b1 [(Vs a7 a1.length b0)] 22, rwt aaa 46 3 b6 a5 a6 a3] w) (hS : ∀ b ∈ abf [afy a4 0 a8, blk a9 [(Vs a5 a3.length a6)] 22, blk b1 [(Vs a7 a1.length b0)] 22, rwt aaa 46 3 b6 a5 a6 a3], 9 ≤ b) (d4 : zak aaa a1 ≠ [] → ∀ p, a7 = some p → p.block ∉ abf [afy a4 0 a8, blk a9 [(Vs a5 a3.length a6)] 22, blk b1 [(Vs a7 a1.length b0)] 22, rwt aaa 46 3 b6 a5 a6 a3]) (e1 : ∀  (c4 : PQ) (c1 : List PQ) (d5 : Option Nat) (c5 : Option Addr) (c6 : Nat) (w_ : World), Hp w (abf [afy a4 0 a8, blk a9 [(Vs a5 a3.length a6)] 22, blk b1 [(Vs a7 a1.length b0)] 22, rwt aaa 46 3 b6 a5 a6 a3]) [afy a4 0 a8, blk a9 [(Vs c5 c1.length c6)] 22, rwt aaa 46 3 d5 c5 c6 c1] w_ → ∀ (yr : (Nat × (List PQ))), acp fu c4 c1 = some yr → YR prog a4 [(zan #[(str c4.1), (str c4.2.1), (Vb c4.2.2)])] w_ fun v e2 => ∃ (e3 : Option Nat), ∃ (d6 : Option Addr), ∃ (rcap0 : Nat), v = Vb (decide (yr.1 = 0)) ∧ Hp w_ (abf [afy a4 0 a8, blk a9 [(Vs c5 c1.length c6)] 22, rwt aaa 46 3 d5 c5 c6 c1]) [afy a4 yr.1 a8, blk a9 [(Vs d6 yr.2.length rcap0)] 22, rwt aaa 46 3 e3 d6 rcap0 yr.2] e2) : CR prog 186 [(zao (.yield a4) #[] #[]), (Vp (some ⟨b1, 0, none⟩))] w fun v w' => ∃ (o0 : Option Nat), ∃ (a0 : Option Addr), ∃ (cap0 : Nat), v = (zal #[]) ∧ Hp w (abf [afy a4 0 a8, blk a9 [(Vs a5 a3.length a6)] 22, blk b1 [(Vs a7 a1.length b0)] 22, rwt aaa 46 3 b6 a5 a6 a3]) [blk a9 [(Vs a0 r.1.length cap0)] 22, blk b1 [(Vs a7 a1.length b0)] 22, rwt aaa 46 3 o0 a0 cap0 r.1, afy a4 r.2 a8] w' := by
 subst e0
 have hH : Hp w (abf [afy a4 0 a8, blk a9 [(Vs a5 a3.length a6)] 22, blk b1 [(Vs a7 a1.length b0)] 22, rwt aaa 46 3 b6 a5 a6 a3]) [afy a4 0 a8, blk a9 [(Vs a5 a3.length a6)] 22, blk b1 [(Vs a7 a1.length b0)] 22, rwt aaa 46 3 b6 a5 a6 a3] w := hM
 refine enterF (k := 16) func186 rfl rfl nbe ?_
 unfold abg at hr
 refine sr (acm hH 2 b1 0 [(Vs a7 a1.length b0)] 22 (Vs a7 a1.length b0) rfl rfl krf krf (wp 2 (nq (ce (lpG (σ := Nat × Int × (List PQ) × (Option Nat) × (Option Addr) × Nat) [0, 5, 6, 7] (fun ⟨c0, a2, b2, b7, b3, b4⟩ => [(7, (Vi .i64 a2))]) (fun ⟨c0, a2, b2, b7, b3, b4⟩ w' => Hp w (abf [afy a4 0 a8, blk a9 [(Vs a5 a3.length a6)] 22, blk b1 [(Vs a7 a1.length b0)] 22, rwt aaa 46 3 b6 a5 a6 a3]) [afy a4 0 a8, blk a9 [(Vs b3 b2.length b4)] 22, blk b1 [(Vs a7 a1.length b0)] 22, rwt aaa 46 3 b7 b3 b4 b2] w' ∧ aag fu a1 c0 a2 b2 = some r) (fun ⟨c0, a2, b2, b7, b3, b4⟩ => c0) (fu, (0 : Int), a3, b6, a5, a6) (by exact ⟨(Hp.front (Hp.front (Hp.front (Hp.front hH 3 _ rfl) 3 _ rfl) 3 _ rfl) 3 _ rfl).kp, hr⟩) ?_)))))
 rintro ⟨_ | c0, a2, b2, b7, b3, b4⟩ f5 G ⟨c7, b5⟩
 · exact nzz b5
 rw [aag.eq_2] at b5
 refine sr (wp 1 (nq (cs (cd b5 (fun e4 b5 => ?_) (fun e4 b5 => ?_)))))
 refine ck (qn (cs (ce (sr (gi b5 fun e5 b5 => ahq a7 a1.length b0 46 3 .i64 a2 underlying22 krf krf krf a1 rfl e5 (d3.hpN c7 d4) aab (by decide) (gi b5 fun e6 b5 => aif a7 aaa a1 3 a2 aab (d3.hpN c7 d4) (Zz3 a1 a2) e6 krf krf krf krf (by decide) ?_))))))
 refine aes c7 (Zz6) 46 (fun b => (Vp (some ⟨b, 0, none⟩))) rfl rfl krf fun b8 f6 e7 => ahm e7 0 b8 0 (Zz6) (Zz3 a1 a2) 46 [blk b8 (Zz3 a1 a2) 46, afy a4 0 a8, blk a9 [(Vs b3 b2.length b4)] 22, blk b1 [(Vs a7 a1.length b0)] 22, rwt aaa 46 3 b7 b3 b4 b2] rfl nbe krf krf rfl krf rfl fun c2 d7 => nq (sr (wp 1 (amh d7 0 b8 0 3 (Zz3 a1 a2) (Zz3 a1 a2) 46 rfl rfl rfl krf krf krf (bi b5 fun b9 e8 b5 => ?_))))
 have e9 : Hp w (abf [afy a4 0 a8, blk a9 [(Vs a5 a3.length a6)] 22, blk b1 [(Vs a7 a1.length b0)] 22, rwt aaa 46 3 b6 a5 a6 a3]) [rwt aaa 46 3 b7 b3 b4 b2, blk b8 (Zz3 a1 a2) 46, afy a4 0 a8, blk a9 [(Vs b3 b2.length b4)] 22, blk b1 [(Vs a7 a1.length b0)] 22] c2 := d7.front 4 _ rfl
 have f0 : Hp w (abf [afy a4 0 a8, blk a9 [(Vs a5 a3.length a6)] 22, blk b1 [(Vs a7 a1.length b0)] 22, rwt aaa 46 3 b6 a5 a6 a3]) [blk a9 [(Vs b3 b2.length b4)] 22, rwt aaa 46 3 b7 b3 b4 b2, blk b8 (Zz3 a1 a2) 46, afy a4 0 a8, blk b1 [(Vs a7 a1.length b0)] 22] c2 := e9.front 3 _ rfl
 have d8 : Hp w (abf [afy a4 0 a8, blk a9 [(Vs a5 a3.length a6)] 22, blk b1 [(Vs a7 a1.length b0)] 22, rwt aaa 46 3 b6 a5 a6 a3]) [afy a4 0 a8, blk a9 [(Vs b3 b2.length b4)] 22, rwt aaa 46 3 b7 b3 b4 b2, blk b8 (Zz3 a1 a2) 46, blk b1 [(Vs a7 a1.length b0)] 22] c2 := f0.front 3 _ rfl
 have f1 : Hp w (abf [afy a4 0 a8, blk a9 [(Vs a5 a3.length a6)] 22, blk b1 [(Vs a7 a1.length b0)] 22, rwt aaa 46 3 b6 a5 a6 a3]) [afy a4 0 a8, blk a9 [(Vs b3 b2.length b4)] 22, rwt aaa 46 3 b7 b3 b4 b2] c2 := Hp.keep (L1 := [afy a4 0 a8, blk a9 [(Vs b3 b2.length b4)] 22, rwt aaa 46 3 b7 b3 b4 b2]) (L2 := [blk b8 (Zz3 a1 a2) 46, blk b1 [(Vs a7 a1.length b0)] 22]) d8
 refine w_yield a4 [(zan #[(str ((el a1 a2).1)), (str ((el a1 a2).2.1)), (Vb ((el a1 a2).2.2))])] _ krf krf (e1 ((el a1 a2).1, (el a1 a2).2.1, ((el a1 a2).2.2)) b2 b7 b3 b4 c2 f1 b9 e8) ?_
 rintro _ f2 ⟨d0, c8, c9, rfl, d9⟩
 have d1 : Hp w (abf [afy a4 0 a8, blk a9 [(Vs a5 a3.length a6)] 22, blk b1 [(Vs a7 a1.length b0)] 22, rwt aaa 46 3 b6 a5 a6 a3]) [afy a4 b9.1 a8, blk a9 [(Vs c8 b9.2.length c9)] 22, rwt aaa 46 3 d0 c8 c9 b9.2, blk b8 (Zz3 a1 a2) 46, blk b1 [(Vs a7 a1.length b0)] 22] f2 := Hp.callK (L1 := [afy a4 0 a8, blk a9 [(Vs b3 b2.length b4)] 22, rwt aaa 46 3 b7 b3 b4 b2]) (L2 := [blk b8 (Zz3 a1 a2) 46, blk b1 [(Vs a7 a1.length b0)] 22]) d8 d9; clear d9
 by_cases c3 : b9.1 = 0
 replace b5 := ift c3 b5
 rw [c3] at d1
 rw [show decide (b9.1 = 0) = true from (decide_eq_true c3)]
 refine wp 1 (nq (aoh krf (ck (bn (qn (cr (gi b5 fun f3 b5 => aak a2 (1 : Int) krf krf f3 ?_)))))))
 refine wp 1 (wl (ql ?_))
 exact ⟨(c0, a2 + (1 : Int), b9.2, d0, c8, c9), _, rfl, by kernel_rfl, ⟨(Hp.front (Hp.front (Hp.front (Hp.front d1 2 _ rfl) 4 _ rfl) 3 _ rfl) 3 _ rfl).kp, b5⟩, zad _⟩
 replace b5 := ifn c3 b5
 rw [show decide (b9.1 = 0) = false from (decide_eq_false c3)]
 refine wp 1 (nq (c_true krf (ct (bt_ (st (afg (bt_ ?_)))))))
 obtain rfl := oi b5
 refine r_none  rfl  ?_
 exact ⟨d0, c8, c9, (by first | rfl | (simp; done) | (simp; omega)), (Hp.front (Hp.front (Hp.front d1 2 _ rfl) 4 _ rfl) 3 _ rfl).kp⟩
 refine acw (acv (adf (acx ?_)))
 obtain rfl := oi b5
 refine ahz  rfl  ?_
 exact ⟨b7, b3, b4, (by first | rfl | (simp; done) | (simp; omega)), (Hp.front (Hp.front (Hp.front c7 3 _ rfl) 3 _ rfl) 3 _ rfl).kp⟩
theorem ajx {fu : Nat} {s_0 : List PQ} {a4 : List PQ} (a9 : Option Nat) (a2 : Option Addr) (a3 : Nat) (a5 : Nat) (a6 : Option Addr) (d2 : Nat) (a7 : Nat) {w : World} {r : List PQ} (hr : ady fu s_0 a4 = some r) (hG : Gl w) (e1 : d2 = a4.length) (d3 : Rd w a6 (zak aaa a4)) (e2 : d2 ≤ a7) (hM : Hp w (abf [blk a5 [(Vs a6 a4.length a7)] 22, rwt aaa 46 3 a9 a2 a3 s_0]) [blk a5 [(Vs a6 a4.length a7)] 22, rwt aaa 46 3 a9 a2 a3 s_0] w) (hS : ∀ b ∈ abf [blk a5 [(Vs a6 a4.length a7)] 22, rwt aaa 46 3 a9 a2 a3 s_0], 9 ≤ b) (d4 : zak aaa a4 ≠ [] → ∀ p, a6 = some p → p.block ∉ abf [blk a5 [(Vs a6 a4.length a7)] 22, rwt aaa 46 3 a9 a2 a3 s_0]) : CR prog 218 [(Vs a2 s_0.length a3), (zao (.func 186) #[] #[(Vp (some ⟨a5, 0, none⟩))])] w fun v w' => ∃ (o0 : Option Nat), ∃ (a0 : Option Addr), ∃ (cap0 : Nat), v = (Vs a0 r.length cap0) ∧ Hp w (abf [blk a5 [(Vs a6 a4.length a7)] 22, rwt aaa 46 3 a9 a2 a3 s_0]) [blk a5 [(Vs a6 a4.length a7)] 22, rwt aaa 46 3 o0 a0 cap0 r] w' := by
 subst e1
 have hH : Hp w (abf (Zz60 a5 a6 a4.length a7 a9 a2 a3 s_0)) (Zz60 a5 a6 a4.length a7 a9 a2 a3 s_0) w := hM
 refine enterM (k := 13) func218 rfl rfl nbe ?_
 unfold ady at hr
 refine sr (aes hH [(Vs a2 s_0.length a3)] 22 (fun b => (Vp (some ⟨b, 0, none⟩))) rfl rfl krf fun b1 w2 e3 => wp 1 (nq (cs (sr (wp 1 ?_)))))
 refine nq (ce (c_rangeFunc e3 186 (Zz39 a5) krf ent186 fun b5 l4 b0 c0 e4 e5 e6 e7 e8 => bi hr fun b4 e9 hr => ?_))
 have f0 : Hp w (abf (Zz60 a5 a6 a4.length a7 a9 a2 a3 s_0)) [rwt aaa 46 3 a9 a2 a3 s_0, afy l4 0 b0, dfr b5, blk b1 [(Vs a2 s_0.length a3)] 22, blk a5 [(Vs a6 a4.length a7)] 22] c0 := e8.front 4 _ rfl
 have f1 : Hp w (abf (Zz60 a5 a6 a4.length a7 a9 a2 a3 s_0)) [blk a5 [(Vs a6 a4.length a7)] 22, rwt aaa 46 3 a9 a2 a3 s_0, afy l4 0 b0, dfr b5, blk b1 [(Vs a2 s_0.length a3)] 22] c0 := f0.front 4 _ rfl
 have f2 : Hp w (abf (Zz60 a5 a6 a4.length a7 a9 a2 a3 s_0)) [blk b1 [(Vs a2 s_0.length a3)] 22, blk a5 [(Vs a6 a4.length a7)] 22, rwt aaa 46 3 a9 a2 a3 s_0, afy l4 0 b0, dfr b5] c0 := f1.front 4 _ rfl
 have b9 : Hp w (abf (Zz60 a5 a6 a4.length a7 a9 a2 a3 s_0)) [afy l4 0 b0, blk b1 [(Vs a2 s_0.length a3)] 22, blk a5 [(Vs a6 a4.length a7)] 22, rwt aaa 46 3 a9 a2 a3 s_0, dfr b5] c0 := f2.front 3 _ rfl
 have HY6 : ∀  (a1 : PQ) (a8 : List PQ) (b8 : Option Nat) (b2 : Option Addr) (b3 : Nat) (w_ : World), Hp c0 (abf [afy l4 0 b0, blk b1 [(Vs a2 s_0.length a3)] 22, blk a5 [(Vs a6 a4.length a7)] 22, rwt aaa 46 3 a9 a2 a3 s_0]) [afy l4 0 b0, blk b1 [(Vs b2 a8.length b3)] 22, rwt aaa 46 3 b8 b2 b3 a8] w_ → ∀ (yr : (Nat × (List PQ))), acp fu a1 a8 = some yr → YR prog l4 [(zan #[(str a1.1), (str a1.2.1), (Vb a1.2.2)])] w_ fun v f3 => ∃ (f4 : Option Nat), ∃ (d5 : Option Addr), ∃ (rcap0 : Nat), v = Vb (decide (yr.1 = 0)) ∧ Hp w_ (abf [afy l4 0 b0, blk b1 [(Vs b2 a8.length b3)] 22, rwt aaa 46 3 b8 b2 b3 a8]) [afy l4 yr.1 b0, blk b1 [(Vs d5 yr.2.length rcap0)] 22, rwt aaa 46 3 f4 d5 rcap0 yr.2] f3 := by
  intro a1 a8 b8 b2 b3 c7 c4 yr hyr
  have hH0_ := Hp.callK (L1 := [afy l4 0 b0, blk b1 [(Vs a2 s_0.length a3)] 22, blk a5 [(Vs a6 a4.length a7)] 22, rwt aaa 46 3 a9 a2 a3 s_0]) (L2 := [dfr b5]) b9 c4
  have hG0_ := hG; replace hG := hG.hp hH0_ hS
  have hS_ := Hp.highs hH0_ hG0_ hS 3 rfl
  unfold acp at hyr
  refine yr_intro (Hp.hand (L1 := [afy l4 0 b0, blk b1 [(Vs b2 a8.length b3)] 22, rwt aaa 46 3 b8 b2 b3 a8]) (L2 := []) (by simpa using c4)) 0 rfl e4 e5 e6 e7 rfl ?_
  have hH : Hp c7 (abf [afy l4 0 b0, blk b1 [(Vs b2 a8.length b3)] 22, rwt aaa 46 3 b8 b2 b3 a8]) [afy l4 0 b0, blk b1 [(Vs b2 a8.length b3)] 22, rwt aaa 46 3 b8 b2 b3 a8] c7 := Hp.hand (L1 := [afy l4 0 b0, blk b1 [(Vs b2 a8.length b3)] 22, rwt aaa 46 3 b8 b2 b3 a8]) (L2 := []) (by simpa using c4)
  clear hH0_ c4
  refine cr (aes hH (Zz6) 46 (fun b => (Vp (some ⟨b, 0, none⟩))) rfl rfl krf fun c1 g4 f5 => ahm f5 0 c1 0 (Zz6) (Zz44 a1.1 a1.2.1 a1.2.2) 46 [blk c1 (Zz44 a1.1 a1.2.1 a1.2.2) 46, afy l4 0 b0, blk b1 [(Vs b2 a8.length b3)] 22, rwt aaa 46 3 b8 b2 b3 a8] rfl nbe krf krf rfl krf rfl fun g5 f6 => wl (asg_next f6 1 rfl fun g6 c8 => ce (cr (acm c8 2 b1 0 [(Vs b2 a8.length b3)] 22 (Vs b2 a8.length b3) rfl rfl krf krf (amh c8 0 c1 0 3 (Zz44 a1.1 a1.2.1 a1.2.2) (Zz44 a1.1 a1.2.1 a1.2.2) 46 rfl rfl rfl krf krf krf (aes c8 (Zz44 a1.1 a1.2.1 a1.2.2) 46 (fun b => (Vs (some ⟨b, 0, none⟩) 1 1)) rfl rfl krf fun c5 g7 d6 => ?_))))))
  refine gi hyr fun f7 hyr => afr d6 4 b8 b2 (some ⟨c5, 0, none⟩) b3 1 46 3 40 a8 ([a1] : List PQ) aab rfl underlying22 (by unfold TI; kernel_rfl) (by decide) (by decide) krf (Eq.trans (b := (Vs (some ⟨c5, 0, none⟩) 1 1)) krf (aao (by first | rfl | (simp; done) | omega | (simp; omega) | (rw [zaj]; omega)))) (d6.rdblk 0 rfl) f7 fun c9 c2 c3 f8 d0 => ?_
  replace d0 : Hp c7 (abf [afy l4 0 b0, blk b1 [(Vs b2 a8.length b3)] 22, rwt aaa 46 3 b8 b2 b3 a8]) [blk c5 (Zz44 a1.1 a1.2.1 a1.2.2) 46, blk c1 (Zz44 a1.1 a1.2.1 a1.2.2) 46, lbusy l4 b0, blk b1 [(Vs b2 a8.length b3)] 22, rwt aaa 46 3 c9 c2 c3 (a8 ++ ([a1] : List PQ))] f8 := d0
  refine ahe d0 3 b1 0 [(Vs b2 a8.length b3)] 22 (Vs c2 ((a8 ++ ([a1] : List PQ)).length) c3) [blk c5 (Zz44 a1.1 a1.2.1 a1.2.2) 46, blk c1 (Zz44 a1.1 a1.2.1 a1.2.2) 46, lbusy l4 b0, blk b1 [(Vs c2 ((a8 ++ ([a1] : List PQ)).length) c3)] 22, rwt aaa 46 3 c9 c2 c3 (a8 ++ ([a1] : List PQ))] rfl (zaf (zad _) nbe) krf krf rfl krf rfl fun g8 f9 => wl (bn ?_)
  obtain rfl := oi hyr
  refine rnd_normal f9 2 rfl fun g9 g0 => ?_
  exact ⟨c9, c2, c3, (by first | rfl | (simp; done) | (simp; omega)), (Hp.front (Hp.front (Hp.front g0 4 _ rfl) 4 _ rfl) 4 _ rfl).kp⟩
 refine CR.mono (afq l4 b0 b1 a9 a2 a3 a5 a6 a4.length a7 e9 (hG.hp b9 hS) rfl (d3.hpN b9 d4) e2 (b9.hand (L1 := [afy l4 0 b0, blk b1 [(Vs a2 s_0.length a3)] 22, blk a5 [(Vs a6 a4.length a7)] 22, rwt aaa 46 3 a9 a2 a3 s_0]) (L2 := [dfr b5])) (b9.highs hG hS 4 rfl) (b9.apartRd 4 d3 d4 rfl) HY6) ?_
 rintro _ d7 ⟨c6, b6, b7, rfl, d8⟩
 have g1 : Hp w (abf (Zz60 a5 a6 a4.length a7 a9 a2 a3 s_0)) [blk b1 [(Vs b6 b4.1.length b7)] 22, blk a5 [(Vs a6 a4.length a7)] 22, rwt aaa 46 3 c6 b6 b7 b4.1, afy l4 b4.2 b0, dfr b5] d7 := Hp.callK (L1 := [afy l4 0 b0, blk b1 [(Vs a2 s_0.length a3)] 22, blk a5 [(Vs a6 a4.length a7)] 22, rwt aaa 46 3 a9 a2 a3 s_0]) (L2 := [dfr b5]) b9 d8; clear d8
 have g2 : Hp w (abf (Zz60 a5 a6 a4.length a7 a9 a2 a3 s_0)) [afy l4 b4.2 b0, blk b1 [(Vs b6 b4.1.length b7)] 22, blk a5 [(Vs a6 a4.length a7)] 22, rwt aaa 46 3 c6 b6 b7 b4.1, dfr b5] d7 := g1.front 3 _ rfl
 refine ⟨b4.2, [blk b1 [(Vs b6 b4.1.length b7)] 22, blk a5 [(Vs a6 a4.length a7)] 22, rwt aaa 46 3 c6 b6 b7 b4.1, dfr b5], g2, ?_⟩
 intro h0 d9
 by_cases d1 : b4.2 = 0
 replace hr := ift d1 hr
 refine rg0 d1 (bn (qn (sr (acm d9 0 b1 0 [(Vs b6 b4.1.length b7)] 22 (Vs b6 b4.1.length b7) rfl rfl krf krf (wp 1 (nq (ct ?_)))))))
 obtain rfl := oi hr
 refine m_fin1 d9 3 b5 rfl _ [(Vs b6 b4.1.length b7)] (Vs b6 b4.1.length b7) rfl rfl (fun g3 e0 => (abq (afi krf) ago)) rfl fun g3 e0 => ?_
 exact ⟨c6, b6, b7, (by first | rfl | (simp; done) | (simp; omega)), (Hp.front (Hp.front e0 2 _ rfl) 2 _ rfl).kp⟩
 replace hr := ifn d1 hr
 exact nzz hr
theorem ake {fu : Nat} {a1 : List PQ} (a2 : Nat) (a3 : Option Addr) (a9 : Nat) (a4 : Nat) {w : World} {r : List PQ} (hr : adi fu a1 = some r) (hG : Gl w) (b3 : a9 = a1.length) (b0 : Rd w a3 (zak aaa a1)) (b4 : a9 ≤ a4) (hM : Hp w (abf [blk a2 [(Vs a3 a1.length a4)] 22]) [blk a2 [(Vs a3 a1.length a4)] 22] w) (hS : ∀ b ∈ abf [blk a2 [(Vs a3 a1.length a4)] 22], 9 ≤ b) (b1 : zak aaa a1 ≠ [] → ∀ p, a3 = some p → p.block ∉ abf [blk a2 [(Vs a3 a1.length a4)] 22]) : CR prog 185 [(zao (.func 186) #[] #[(Vp (some ⟨a2, 0, none⟩))])] w fun v w' => ∃ (o0 : Option Nat), ∃ (a0 : Option Addr), ∃ (cap0 : Nat), v = (Vs a0 r.length cap0) ∧ Hp w (abf [blk a2 [(Vs a3 a1.length a4)] 22]) [blk a2 [(Vs a3 a1.length a4)] 22, rwt aaa 46 3 o0 a0 cap0 r] w' := by
 subst b3
 have hH : Hp w (abf (Zz75 a2 a3 a1.length a4)) (Zz75 a2 a3 a1.length a4) w := hM
 refine enter (k := 5) func185 rfl rfl nbe ?_
 unfold adi at hr
 refine sr (wp 1 (nq (sr (wp 1 ?_))))
 have a6 := hH.nilrw aaa 46 3 none
 replace a6 : Hp w (abf (Zz75 a2 a3 a1.length a4)) [rwt aaa 46 3 none none 0 ([] : List PQ), blk a2 [(Vs a3 a1.length a4)] 22] w := a6
 refine bi hr fun y1 b5 hr => ?_
 have a5 : Hp w (abf (Zz75 a2 a3 a1.length a4)) [blk a2 [(Vs a3 a1.length a4)] 22, rwt aaa 46 3 none none 0 ([] : List PQ)] w := a6.front 1 _ rfl
 refine aar 218 #[] [(Vs none 0 0), (zao (.func 186) #[] #[(Vp (some ⟨a2, 0, none⟩))])] _ ent218 krf krf (ajx (s_0 := ([] : List PQ)) none none 0 a2 a3 a1.length a4 b5 (hG.hp a5 hS) rfl (b0.hpN a5 b1) b4 (a5.hand (L1 := [blk a2 [(Vs a3 a1.length a4)] 22, rwt aaa 46 3 none none 0 ([] : List PQ)]) (L2 := [])) (a5.highs hG hS 2 rfl) (a5.apartRd 2 b0 b1 rfl)) ?_
 rintro _ w3 ⟨o9, a7, a8, rfl, b2⟩
 have b6 : Hp w (abf (Zz75 a2 a3 a1.length a4)) (Zz60 a2 a3 a1.length a4 o9 a7 a8 y1) w3 := Hp.callK (L1 := [blk a2 [(Vs a3 a1.length a4)] 22, rwt aaa 46 3 none none 0 ([] : List PQ)]) (L2 := []) a5 b2; clear b2
 refine wp 1 (nq (ct ?_))
 obtain rfl := oi hr
 refine r_one (Vs a7 y1.length a8) rfl krf ?_
 exact ⟨o9, a7, a8, (by first | rfl | (simp; done) | (simp; omega)), (Hp.front (Hp.front b6 1 _ rfl) 1 _ rfl).kp⟩
theorem aip {fu : Nat} {a0 : PQ} {a1 : PQ} {w : World} {r : Int} (hr : afl fu a0 a1 = some r) (hG : Gl w) : CR prog 130 [(zan #[(str a0.1), (str a0.2.1), (Vb a0.2.2)]), (zan #[(str a1.1), (str a1.2.1), (Vb a1.2.2)])] w fun v w' => v = (Vi .i64 r) ∧ Hp w [] [] w' := by
 have hH := Hp.refl w
 refine enter (k := 10) func130 rfl rfl nbe ?_
 unfold afl at hr
 refine sr (aes hH (Zz44 a0.1 a0.2.1 a0.2.2) 46 (fun b => (Vp (some ⟨b, 0, none⟩))) rfl rfl krf fun b1 w2 a3 => aes a3 (Zz44 a1.1 a1.2.1 a1.2.2) 46 (fun b => (Vp (some ⟨b, 0, none⟩))) rfl rfl krf fun b4 w5 a2 => wp 1 (nq (sr (wp 1 ?_))))
 refine acm a2 1 b1 0 (Zz44 a0.1 a0.2.1 a0.2.2) 46 (str a0.1) rfl rfl krf krf (wp 1 (acm a2 0 b4 0 (Zz44 a1.1 a1.2.1 a1.2.2) 46 (str a1.1) rfl rfl krf krf (bi hr fun y7 a4 hr => wc ent131 a2 (alg a4 (hG.hp0 a2)) fun w9 a5 => wp 1 (nq (ct ?_)))))
 obtain rfl := oi hr
 exact rv a5.kp
theorem aer {fu : Nat} {a6 : List PQ} {b0 : Int} {c0 : Int} (a5 : Option Nat) (a2 : Option Addr) (a3 : Nat) {w : World} {r : List PQ} (hr : aai fu a6 b0 c0 = some r) (hG : Gl w) (hM : Hp w (abf [rwt aaa 46 3 a5 a2 a3 a6]) [rwt aaa 46 3 a5 a2 a3 a6] w) (hS : ∀ b ∈ abf [rwt aaa 46 3 a5 a2 a3 a6], 9 ≤ b) : CR prog 241 [(Vs a2 a6.length a3), (Vi .i64 b0), (Vi .i64 c0), (zao (.func 130) #[] #[])] w fun v w' => v = (zal #[]) ∧ r.length = a6.length ∧ Hp w (abf [rwt aaa 46 3 a5 a2 a3 a6]) [rwt aaa 46 3 a5 a2 a3 r] w' := by
 have hH : Hp w (abf (Zz10 a5 a2 a3 a6)) (Zz10 a5 a2 a3 a6) w := hM
 refine enter (k := 53) func241 rfl rfl nbe ?_
 unfold aai at hr
 refine sr (wp 1 (gi hr fun g1 hr => aak b0 (1 : Int) krf krf g1 (wp 1 (nq (ce (lpG (σ := Nat × (List PQ) × Int) [0, 1, 2, 3, 8] (fun ⟨b5, a9, b2⟩ => [(0, (Vs a2 a9.length a3)), (8, (Vi .i64 b2))]) (fun ⟨b5, a9, b2⟩ w' => Hp w (abf (Zz10 a5 a2 a3 a6)) (Zz10 a5 a2 a3 a9) w' ∧ a9.length = a6.length ∧ aac fu b0 c0 b5 a9 b2 = some r) (fun ⟨b5, a9, b2⟩ => b5) (fu, a6, b0 + (1 : Int)) (by exact ⟨hH.kp, lsz, hr⟩) ?_))))))
 rintro ⟨_ | b5, a9, b2⟩ g0 G ⟨c6, g2, a8⟩
 · exact nzz a8
 rw [aac.eq_2] at a8
 refine cs (sr (wp 3 (nq (cd a8 (fun d4 a8 => ?_) (fun d4 a8 => ?_)))))
 refine ck (qn (bi a8 fun c7 d5 a8 => cut (σ := (List PQ)) [0, 1, 2, 3, 8] (fun b3 => [(0, (Vs a2 b3.length a3))]) (fun b3 w' => Hp w (abf (Zz10 a5 a2 a3 a6)) (Zz10 a5 a2 a3 b3) w' ∧ b3.length = a9.length ∧ b3 = c7) ?_ ?_))
 refine ce (sr (wp 2 (nq (ce (lpG (σ := Nat × (List PQ) × Int) [0, 1, 2, 3, 8, 9] (fun ⟨b4, a1, a0⟩ => [(0, (Vs a2 a1.length a3)), (9, (Vi .i64 a0))]) (fun ⟨b4, a1, a0⟩ w' => Hp w (abf (Zz10 a5 a2 a3 a6)) (Zz10 a5 a2 a3 a1) w' ∧ a1.length = a9.length ∧ aaf fu b0 b4 a1 a0 = some c7) (fun ⟨b4, a1, a0⟩ => b4) (fu, a9, b2) (by exact ⟨c6.kp, lsz, d5⟩) ?_)))))
 rintro ⟨_ | b4, a1, a0⟩ g3 G ⟨c1, g4, a4⟩
 · exact nzz a4
 rw [aaf.eq_2] at a4
 refine cs (bi a4 fun d6 a7 a4 => ait c1 [0, 1, 2, 3, 8, 9, 34] [(34, (Vb d6))] ?_ ?_)
 by_cases b9 : b0 < a0
 replace a7 := ift b9 a7
 refine gi a7 fun d7 a7 => gi a7 fun d8 a7 => gi a7 fun d9 a7 => gi a7 fun e0 a7 => gi a7 fun e1 a7 => aen 14 (fun j_ w_ w_' => abh [8, 14, 15, 16] (fun w' => Rd w' a2 (zak aaa a1)) j_ w_ w_' ∧ abh [14, 15, 16] (fun w' => Rd w' a2 (zak aaa a1)) j_ w_ w_' ∧ abh [13, 14, 15, 16] (fun w' => Rd w' a2 (zak aaa a1)) j_ w_ w_' ∧ True) (Zz31) (fun _ _ => ⟨abh.same, abh.same, abh.same, trivial⟩) krf krf c1 rfl (aba (adg (aba (aaw (aaw (aba (aba (aaw acu)))))))) fun g5 b6 => rp 11 [0, 1, 2] (rt 3 (Vb true) rfl rfl (aaz rfl (by intro w hS_; exact Eq.trans (b := Result.ok (Next.value (.bool (decide (b0 < a0)))) w) krf (congrArg (fun b => Result.ok (Next.value (.bool b)) w) (decide_eq_true b9)))) (rp 7 [4, 5, 6] (aau (Zz78) 7 25 (Vp (some (ea a2 (a0.toNat * 3)))) [8, 14, 15, 16] (fun _ _ _ h => h.1) _ rfl rfl krf krf krf krf krf rfl (agf 21 krf krf krf (by intro w hS_; exact (x_ixT a2 a1.length a3 46 3 .i64 a0 underlying22 krf krf krf a1 rfl d7 hS_ aab (by decide)))) (by exact (b6.rdrw 0 rfl)) ?_)))
 refine aau (Zz57) 8 26 (zan #[(str ((el a1 a0).1)), (str ((el a1 a0).2.1)), (Vb ((el a1 a0).2.2))]) [14, 15, 16] (fun _ _ _ h => h.2.1) _ rfl rfl krf krf krf krf krf rfl (agf 21 krf krf krf (by intro w hS_; exact (x_ldE a2 aaa a1 3 a0 aab hS_ (Zz3 a1 a0) d8 krf krf krf krf (by decide)))) (by exact (b6.rdrw 0 rfl)) (rp 3 [9, 10] (rt 11 (Vi .i64 (a0 - (1 : Int))) rfl rfl (agf 21 krf krf krf (by intro w hS_; exact (akk a0 (1 : Int) krf krf d9))) (aau (Zz79) 12 30 (Vp (some (ea a2 ((a0 - (1 : Int)).toNat * 3)))) [13, 14, 15, 16] (fun _ _ _ h => h.2.2.1) _ rfl rfl krf krf krf krf krf rfl (agf 21 krf krf krf (by intro w hS_; exact (x_ixT a2 a1.length a3 46 3 .i64 (a0 - (1 : Int)) underlying22 krf krf krf a1 rfl e0 hS_ aab (by decide)))) (by exact (b6.rdrw 0 rfl)) (aau (Zz81) 13 31 (zan #[(str ((el a1 (a0 - (1 : Int))).1)), (str ((el a1 (a0 - (1 : Int))).2.1)), (Vb ((el a1 (a0 - (1 : Int))).2.2))]) [14, 15, 16] (fun _ _ _ h => h.2.1) _ rfl rfl krf krf krf krf krf rfl (agf 21 krf krf krf (by intro w hS_; exact (x_ldE a2 aaa a1 3 (a0 - (1 : Int)) aab hS_ (Zz9 a1 a0) e1 krf krf krf krf (by decide)))) (by exact (b6.rdrw 0 rfl)) (adl krf (gy 21 (bi a7 fun g6 e2 a7 => wc ent130 b6 (aip e2 (hG.hp b6 hS)) fun g7 e3 => wp 2 ?_)))))))
 refine wl (ql ?_)
 obtain rfl := oi a7
 exact je e3.kp
 replace a7 := ifn b9 a7
 refine aen 14 (fun j_ w_ w_' => abh [8, 14, 15, 16] (fun w' => Rd w' a2 (zak aaa a1)) j_ w_ w_' ∧ abh [14, 15, 16] (fun w' => Rd w' a2 (zak aaa a1)) j_ w_ w_' ∧ abh [13, 14, 15, 16] (fun w' => Rd w' a2 (zak aaa a1)) j_ w_ w_' ∧ True) (Zz31) (fun _ _ => ⟨abh.same, abh.same, abh.same, trivial⟩) krf krf c1 rfl (aba (adg (aba (aaw (aaw (aba (aba (aaw acu)))))))) fun g8 e4 => rp 11 [0, 1, 2] (rt 3 (Vb false) rfl rfl (aaz rfl (by intro w hS_; exact Eq.trans (b := Result.ok (Next.value (.bool (decide (b0 < a0)))) w) krf (congrArg (fun b => Result.ok (Next.value (.bool b)) w) (decide_eq_false b9)))) (rp 0 [4, 5, 6, 7, 8, 9, 10, 11, 12, 13] (adl krf (wp 3 (wl (ql ?_))))))
 obtain rfl := oi a7
 exact je e4.kp
 intro g9 G b8
 refine cb a4 (fun e5 a4 => ?_) (fun e5 a4 => ?_)
 refine ck (qn (cs (ce (gi a4 fun e6 a4 => gi a4 fun e7 a4 => gi a4 fun c8 a4 => ?_))))
 have e8 := afo (b8.rdrw 0 rfl) aab (by decide) c8
 refine gi a4 fun c9 a4 => gi a4 fun d0 a4 => ?_
 have e9 := afo (b8.rdrw 0 rfl) aab (by decide) d0
 refine gi a4 fun d1 a4 => gi a4 fun c2 a4 => ?_
 have d2 := afo (b8.rdrw 0 rfl) aab (by decide) c2
 refine gi a4 fun d3 a4 => cdr 16 b8 (aaw (adg (aba (aaw (aaw (aba (aba (aaw acu)))))))) fun h0 b7 => rp 12 [0, 1, 2, 3] (rt 4 (Vi .i64 (a0 - (1 : Int))) rfl rfl (aaz rfl (by intro w hS_; exact (akk a0 (1 : Int) krf krf e6))) (rp 9 [5, 6] (rt 7 (Vi .i64 (a0 - (1 : Int))) rfl rfl (aaz rfl (by intro w hS_; exact (akk a0 (1 : Int) krf krf e7))) (rt 8 (Vp (some (ea a2 ((a0 - (1 : Int)).toNat * 3)))) rfl rfl (aaz rfl (by intro w hS_; exact (aka a2 a1.length a3 46 3 .i64 (a0 - (1 : Int)) underlying22 krf krf krf (afd (l := a1) rfl c8) e8))) (rp 5 [10, 11] (rt 12 (Vp (some (ea a2 (a0.toNat * 3)))) rfl rfl (aaz rfl (by intro w hS_; exact (aka a2 a1.length a3 46 3 .i64 a0 underlying22 krf krf krf (afd (l := a1) rfl d0) e9))) (r_one2 (Zz23) (Zz28) 9 13 _ _ rfl rfl krf krf krf rfl rfl ?_ ?_)))))))
 refine aif a2 aaa a1 3 (a0 - (1 : Int)) aab (b7.rdrw 0 rfl) (Zz9 a1 a0) c9 krf krf krf krf (by decide) (wl (acg (by exact trivial) (ro 13 rfl (aif a2 aaa a1 3 a0 aab (b7.rdrw 0 rfl) (Zz3 a1 a0) d1 krf krf krf krf (by decide) (wl (acg (by exact trivial) (rt 14 (Vp (some (ea a2 (a0.toNat * 3)))) rfl rfl (aaz rfl (by intro w hS_; exact (aka a2 a1.length a3 46 3 .i64 a0 underlying22 krf krf krf (afd (l := a1) rfl c2) d2))) (ro 15 rfl (akc b7 0 a5 a2 a3 46 3 a0 a1 ((el a1 (a0 - (1 : Int))).1, (el a1 (a0 - (1 : Int))).2.1, ((el a1 (a0 - (1 : Int))).2.2)) rfl aab (Zz9 a1 a0) d3 krf krf krf (by decide) krf fun c3 b1 => ?_)))))))))
 replace b1 : Hp w (abf (Zz10 a5 a2 a3 a6)) (Zz16 a5 a2 a3 a1 a0) c3 := b1
 refine wl (acg (by exact trivial) (adl krf (gi a4 fun f0 a4 => ahq a2 a1.length a3 46 3 .i64 (a0 - (1 : Int)) underlying22 krf krf krf (zae a1 (zac a0) ((el a1 (a0 - (1 : Int))).1, (el a1 (a0 - (1 : Int))).2.1, ((el a1 (a0 - (1 : Int))).2.2))) (by first | rfl | (simp; done) | omega | (simp; omega) | (rw [zaj]; omega)) f0 (b1.rdrw 0 rfl) aab (by decide) (gi a4 fun f1 a4 => akc b1 0 a5 a2 a3 46 3 (a0 - (1 : Int)) (zae a1 (zac a0) ((el a1 (a0 - (1 : Int))).1, (el a1 (a0 - (1 : Int))).2.1, ((el a1 (a0 - (1 : Int))).2.2))) ((el a1 a0).1, (el a1 a0).2.1, ((el a1 a0).2.2)) rfl aab (Zz3 a1 a0) f1 krf krf krf (by decide) krf fun f2 c4 => ?_))))
 replace c4 : Hp w (abf (Zz10 a5 a2 a3 a6)) (Zz11 a5 a2 a3 a1 a0) f2 := c4
 refine wl (bn (qn (cr (wp 1 (gi a4 fun f3 a4 => adu a0 (1 : Int) krf krf f3 (wp 1 (wl (ql ?_))))))))
 exact ⟨(b4, zae (zae a1 (zac a0) ((el a1 (a0 - (1 : Int))).1, (el a1 (a0 - (1 : Int))).2.1, ((el a1 (a0 - (1 : Int))).2.2))) (zac (a0 - (1 : Int))) ((el a1 a0).1, (el a1 a0).2.1, ((el a1 a0).2.2)), a0 - (1 : Int)), _, rfl, (mc (Eq.trans (b := (Vs a2 a1.length a3)) krf (aao lsy)) (mc krf (mc krf (mc krf (mc krf (mc krf rfl)))))), ⟨c4.kp, lsz, a4⟩, zad _⟩
 refine aif a2 aaa a1 3 a0 aab (b7.rdrw 0 rfl) (Zz3 a1 a0) d1 krf krf krf krf (by decide) (wl (acg (by exact trivial) (ro 9 rfl (aif a2 aaa a1 3 (a0 - (1 : Int)) aab (b7.rdrw 0 rfl) (Zz9 a1 a0) c9 krf krf krf krf (by decide) (wl (acg (by exact trivial) (rt 14 (Vp (some (ea a2 (a0.toNat * 3)))) rfl rfl (aaz rfl (by intro w hS_; exact (aka a2 a1.length a3 46 3 .i64 a0 underlying22 krf krf krf (afd (l := a1) rfl c2) d2))) (ro 15 rfl (akc b7 0 a5 a2 a3 46 3 a0 a1 ((el a1 (a0 - (1 : Int))).1, (el a1 (a0 - (1 : Int))).2.1, ((el a1 (a0 - (1 : Int))).2.2)) rfl aab (Zz9 a1 a0) d3 krf krf krf (by decide) krf fun c3 b1 => ?_)))))))))
 replace b1 : Hp w (abf (Zz10 a5 a2 a3 a6)) (Zz16 a5 a2 a3 a1 a0) c3 := b1
 refine wl (acg (by exact trivial) (adl krf (gi a4 fun f4 a4 => ahq a2 a1.length a3 46 3 .i64 (a0 - (1 : Int)) underlying22 krf krf krf (zae a1 (zac a0) ((el a1 (a0 - (1 : Int))).1, (el a1 (a0 - (1 : Int))).2.1, ((el a1 (a0 - (1 : Int))).2.2))) (by first | rfl | (simp; done) | omega | (simp; omega) | (rw [zaj]; omega)) f4 (b1.rdrw 0 rfl) aab (by decide) (gi a4 fun f5 a4 => akc b1 0 a5 a2 a3 46 3 (a0 - (1 : Int)) (zae a1 (zac a0) ((el a1 (a0 - (1 : Int))).1, (el a1 (a0 - (1 : Int))).2.1, ((el a1 (a0 - (1 : Int))).2.2))) ((el a1 a0).1, (el a1 a0).2.1, ((el a1 a0).2.2)) rfl aab (Zz3 a1 a0) f5 krf krf krf (by decide) krf fun f6 c5 => ?_))))
 replace c5 : Hp w (abf (Zz10 a5 a2 a3 a6)) (Zz11 a5 a2 a3 a1 a0) f6 := c5
 refine wl (bn (qn (cr (wp 1 (gi a4 fun f7 a4 => adu a0 (1 : Int) krf krf f7 (wp 1 (wl (ql ?_))))))))
 exact ⟨(b4, zae (zae a1 (zac a0) ((el a1 (a0 - (1 : Int))).1, (el a1 (a0 - (1 : Int))).2.1, ((el a1 (a0 - (1 : Int))).2.2))) (zac (a0 - (1 : Int))) ((el a1 a0).1, (el a1 a0).2.1, ((el a1 a0).2.2)), a0 - (1 : Int)), _, rfl, (mc (Eq.trans (b := (Vs a2 a1.length a3)) krf (aao lsy)) (mc krf (mc krf (mc krf (mc krf (mc krf rfl)))))), ⟨c5.kp, lsz, a4⟩, zad _⟩
 refine acw (acv (adf (acx (bn (ql ?_)))))
 obtain rfl := oi a4
 exact ⟨a1, _, rfl, by kernel_rfl, b8.kp, lsz, rfl⟩
 rintro b3 h1 G ⟨f8, h2, rfl⟩
 refine cr (wp 1 (gi a8 fun f9 a8 => aak b2 (1 : Int) krf krf f9 (wp 1 (wl (ql ?_)))))
 exact ⟨(b5, b3, b2 + (1 : Int)), _, rfl, by kernel_rfl, ⟨f8.kp, lsz, a8⟩, zad _⟩
 refine acw (acv (adf (acx ?_)))
 obtain rfl := oi a8
 refine ahz  rfl  ?_
 exact ⟨(by first | rfl | (simp; done) | (simp; omega)), lsz, c6.kp⟩
theorem adk {fu : Nat} {a8 : List PQ} {a3 : Int} {a2 : Int} {b3 : Int} (a7 : Option Nat) (a5 : Option Addr) (a6 : Nat) {w : World} {r : List PQ} (hr : aay fu a8 a3 a2 b3 = some r) (hG : Gl w) (hM : Hp w (abf [rwt aaa 46 3 a7 a5 a6 a8]) [rwt aaa 46 3 a7 a5 a6 a8] w) (hS : ∀ b ∈ abf [rwt aaa 46 3 a7 a5 a6 a8], 9 ≤ b) : CR prog 270 [(Vs a5 a8.length a6), (Vi .i64 a3), (Vi .i64 a2), (Vi .i64 b3), (zao (.func 130) #[] #[])] w fun v w' => v = (zal #[]) ∧ r.length = a8.length ∧ Hp w (abf [rwt aaa 46 3 a7 a5 a6 a8]) [rwt aaa 46 3 a7 a5 a6 r] w' := by
 have hH : Hp w (abf (Zz10 a7 a5 a6 a8)) (Zz10 a7 a5 a6 a8) w := hM
 refine enter (k := 38) func270 rfl rfl nbe ?_
 unfold aay at hr
 refine sr (wp 1 (nq (ce (lpG (σ := Nat × (List PQ) × Int) [0, 1, 2, 3, 10] (fun ⟨b0, a1, a0⟩ => [(0, (Vs a5 a1.length a6)), (10, (Vi .i64 a0))]) (fun ⟨b0, a1, a0⟩ w' => Hp w (abf (Zz10 a7 a5 a6 a8)) (Zz10 a7 a5 a6 a1) w' ∧ a1.length = a8.length ∧ aaq fu a3 a2 b3 b0 a1 a0 = some r) (fun ⟨b0, a1, a0⟩ => b0) (fu, a8, (0 : Int)) (by exact ⟨hH.kp, lsz, hr⟩) ?_))))
 rintro ⟨_ | b0, a1, a0⟩ d9 G ⟨b2, e0, a4⟩
 · exact nzz a4
 rw [aaq.eq_2] at a4
 refine cs (sr (wp 3 (nq (cd a4 (fun c4 a4 => ?_) (fun c4 a4 => ?_)))))
 refine ck (qn (cs (ce (gi a4 fun c5 a4 => gi a4 fun c6 a4 => gi a4 fun c7 a4 => gi a4 fun b8 a4 => ?_))))
 have c8 := afo (b2.rdrw 0 rfl) aab (by decide) b8
 refine gi a4 fun b9 a4 => gi a4 fun c9 a4 => gi a4 fun c0 a4 => ?_
 have d0 := afo (b2.rdrw 0 rfl) aab (by decide) c0
 refine gi a4 fun c1 a4 => gi a4 fun b4 a4 => ?_
 have c2 := afo (b2.rdrw 0 rfl) aab (by decide) b4
 refine gi a4 fun c3 a4 => cdr 22 b2 (aaw (adg (aba (aaw acu)))) fun e1 b1 => rp 19 [0, 1, 2] (rt 3 (Vi .i64 (a3 + a0)) rfl rfl (aaz rfl (by intro w hS_; exact (akb a3 a0 krf krf c5))) (rp 15 [4, 5, 6] (rt 7 (Vi .i64 (a2 + a0)) rfl rfl (aaz rfl (by intro w hS_; exact (akb a2 a0 krf krf c6))) (rp 11 [8, 9, 10] (rt 11 (Vi .i64 (a2 + a0)) rfl rfl (aaz rfl (by intro w hS_; exact (akb a2 a0 krf krf c7))) (rt 12 (Vp (some (ea a5 ((a2 + a0).toNat * 3)))) rfl rfl (aaz rfl (by intro w hS_; exact (aka a5 a1.length a6 46 3 .i64 (a2 + a0) underlying22 krf krf krf (afd (l := a1) rfl b8) c8))) (rp 6 [14, 15, 16] ?_)))))))
 refine rt 17 (Vi .i64 (a3 + a0)) rfl rfl (aaz rfl (by intro w hS_; exact (akb a3 a0 krf krf c9))) (rt 18 (Vp (some (ea a5 ((a3 + a0).toNat * 3)))) rfl rfl (aaz rfl (by intro w hS_; exact (aka a5 a1.length a6 46 3 .i64 (a3 + a0) underlying22 krf krf krf (afd (l := a1) rfl c0) d0))) (r_one2 (Zz66) (Zz67) 13 19 _ _ rfl rfl krf krf krf rfl rfl ?_ ?_))
 refine aif a5 aaa a1 3 (a2 + a0) aab (b1.rdrw 0 rfl) (Zz12 a1 a2 a0) b9 krf krf krf krf (by decide) (wl (acg (by exact trivial) (ro 19 rfl (aif a5 aaa a1 3 (a3 + a0) aab (b1.rdrw 0 rfl) (Zz12 a1 a3 a0) c1 krf krf krf krf (by decide) (wl (acg (by exact trivial) (rt 20 (Vp (some (ea a5 ((a3 + a0).toNat * 3)))) rfl rfl (aaz rfl (by intro w hS_; exact (aka a5 a1.length a6 46 3 .i64 (a3 + a0) underlying22 krf krf krf (afd (l := a1) rfl b4) c2))) (ro 21 rfl (akc b1 0 a7 a5 a6 46 3 (a3 + a0) a1 ((el a1 (a2 + a0)).1, (el a1 (a2 + a0)).2.1, ((el a1 (a2 + a0)).2.2)) rfl aab (Zz12 a1 a2 a0) c3 krf krf krf (by decide) krf fun b5 a9 => ?_)))))))))
 replace a9 : Hp w (abf (Zz10 a7 a5 a6 a8)) (Zz48 a7 a5 a6 a1 a3 a0 a2) b5 := a9
 refine wl (acg (by exact trivial) (adl krf (gi a4 fun d1 a4 => ahq a5 a1.length a6 46 3 .i64 (a2 + a0) underlying22 krf krf krf (zae a1 (zac (a3 + a0)) ((el a1 (a2 + a0)).1, (el a1 (a2 + a0)).2.1, ((el a1 (a2 + a0)).2.2))) (by first | rfl | (simp; done) | omega | (simp; omega) | (rw [zaj]; omega)) d1 (a9.rdrw 0 rfl) aab (by decide) (gi a4 fun d2 a4 => akc a9 0 a7 a5 a6 46 3 (a2 + a0) (zae a1 (zac (a3 + a0)) ((el a1 (a2 + a0)).1, (el a1 (a2 + a0)).2.1, ((el a1 (a2 + a0)).2.2))) ((el a1 (a3 + a0)).1, (el a1 (a3 + a0)).2.1, ((el a1 (a3 + a0)).2.2)) rfl aab (Zz12 a1 a3 a0) d2 krf krf krf (by decide) krf fun d3 b6 => ?_))))
 replace b6 : Hp w (abf (Zz10 a7 a5 a6 a8)) (Zz26 a7 a5 a6 a1 a3 a0 a2) d3 := b6
 refine wl (bn (qn (cr (wp 1 (gi a4 fun d4 a4 => aak a0 (1 : Int) krf krf d4 (wp 1 (wl (ql ?_))))))))
 exact ⟨(b0, zae (zae a1 (zac (a3 + a0)) ((el a1 (a2 + a0)).1, (el a1 (a2 + a0)).2.1, ((el a1 (a2 + a0)).2.2))) (zac (a2 + a0)) ((el a1 (a3 + a0)).1, (el a1 (a3 + a0)).2.1, ((el a1 (a3 + a0)).2.2)), a0 + (1 : Int)), _, rfl, (mc (Eq.trans (b := (Vs a5 a1.length a6)) krf (aao lsy)) (mc krf (mc krf (mc krf (mc krf rfl))))), ⟨b6.kp, lsz, a4⟩, zad _⟩
 refine aif a5 aaa a1 3 (a3 + a0) aab (b1.rdrw 0 rfl) (Zz12 a1 a3 a0) c1 krf krf krf krf (by decide) (wl (acg (by exact trivial) (ro 13 rfl (aif a5 aaa a1 3 (a2 + a0) aab (b1.rdrw 0 rfl) (Zz12 a1 a2 a0) b9 krf krf krf krf (by decide) (wl (acg (by exact trivial) (rt 20 (Vp (some (ea a5 ((a3 + a0).toNat * 3)))) rfl rfl (aaz rfl (by intro w hS_; exact (aka a5 a1.length a6 46 3 .i64 (a3 + a0) underlying22 krf krf krf (afd (l := a1) rfl b4) c2))) (ro 21 rfl (akc b1 0 a7 a5 a6 46 3 (a3 + a0) a1 ((el a1 (a2 + a0)).1, (el a1 (a2 + a0)).2.1, ((el a1 (a2 + a0)).2.2)) rfl aab (Zz12 a1 a2 a0) c3 krf krf krf (by decide) krf fun b5 a9 => ?_)))))))))
 replace a9 : Hp w (abf (Zz10 a7 a5 a6 a8)) (Zz48 a7 a5 a6 a1 a3 a0 a2) b5 := a9
 refine wl (acg (by exact trivial) (adl krf (gi a4 fun d5 a4 => ahq a5 a1.length a6 46 3 .i64 (a2 + a0) underlying22 krf krf krf (zae a1 (zac (a3 + a0)) ((el a1 (a2 + a0)).1, (el a1 (a2 + a0)).2.1, ((el a1 (a2 + a0)).2.2))) (by first | rfl | (simp; done) | omega | (simp; omega) | (rw [zaj]; omega)) d5 (a9.rdrw 0 rfl) aab (by decide) (gi a4 fun d6 a4 => akc a9 0 a7 a5 a6 46 3 (a2 + a0) (zae a1 (zac (a3 + a0)) ((el a1 (a2 + a0)).1, (el a1 (a2 + a0)).2.1, ((el a1 (a2 + a0)).2.2))) ((el a1 (a3 + a0)).1, (el a1 (a3 + a0)).2.1, ((el a1 (a3 + a0)).2.2)) rfl aab (Zz12 a1 a3 a0) d6 krf krf krf (by decide) krf fun d7 b7 => ?_))))
 replace b7 : Hp w (abf (Zz10 a7 a5 a6 a8)) (Zz26 a7 a5 a6 a1 a3 a0 a2) d7 := b7
 refine wl (bn (qn (cr (wp 1 (gi a4 fun d8 a4 => aak a0 (1 : Int) krf krf d8 (wp 1 (wl (ql ?_))))))))
 exact ⟨(b0, zae (zae a1 (zac (a3 + a0)) ((el a1 (a2 + a0)).1, (el a1 (a2 + a0)).2.1, ((el a1 (a2 + a0)).2.2))) (zac (a2 + a0)) ((el a1 (a3 + a0)).1, (el a1 (a3 + a0)).2.1, ((el a1 (a3 + a0)).2.2)), a0 + (1 : Int)), _, rfl, (mc (Eq.trans (b := (Vs a5 a1.length a6)) krf (aao lsy)) (mc krf (mc krf (mc krf (mc krf rfl))))), ⟨b7.kp, lsz, a4⟩, zad _⟩
 refine acw (acv (adf (acx ?_)))
 obtain rfl := oi a4
 refine ahz  rfl  ?_
 exact ⟨(by first | rfl | (simp; done) | (simp; omega)), lsz, b2.kp⟩
theorem ahs {fu : Nat} {a6 : List PQ} {b2 : Int} {a4 : Int} {b3 : Int} (a3 : Option Nat) (a0 : Option Addr) (a1 : Nat) {w : World} {r : List PQ} (hr : abm fu a6 b2 a4 b3 = some r) (hG : Gl w) (hM : Hp w (abf [rwt aaa 46 3 a3 a0 a1 a6]) [rwt aaa 46 3 a3 a0 a1 a6] w) (hS : ∀ b ∈ abf [rwt aaa 46 3 a3 a0 a1 a6], 9 ≤ b) : CR prog 262 [(Vs a0 a6.length a1), (Vi .i64 b2), (Vi .i64 a4), (Vi .i64 b3), (zao (.func 130) #[] #[])] w fun v w' => v = (zal #[]) ∧ r.length = a6.length ∧ Hp w (abf [rwt aaa 46 3 a3 a0 a1 a6]) [rwt aaa 46 3 a3 a0 a1 r] w' := by
 have hH : Hp w (abf (Zz10 a3 a0 a1 a6)) (Zz10 a3 a0 a1 a6) w := hM
 refine enter (k := 58) func262 rfl rfl nbe ?_
 unfold abm at hr
 refine sr (wp 2 (gi hr fun g1 hr => adu a4 b2 krf krf g1 (wp 1 (nq (sr ?_)))))
 refine wp 2 (gi hr fun g2 hr => adu b3 a4 krf krf g2 (wp 1 (nq (bi hr fun b5 c1 hr => cut (σ := ((List PQ) × Int)) [0, 2, 4, 10] (fun a9 => [(0, (Vs a0 a9.1.length a1)), (10, (Vi .i64 a9.2))]) (fun a9 w' => Hp w (abf (Zz10 a3 a0 a1 a6)) (Zz10 a3 a0 a1 a9.1) w' ∧ a9.1.length = a6.length ∧ a9 = b5) ?_ ?_))))
 refine ce (lpG (σ := Nat × (List PQ) × Int × Int) [0, 2, 4, 10, 11] (fun ⟨b1, a7, a5, a8⟩ => [(0, (Vs a0 a7.length a1)), (10, (Vi .i64 a5)), (11, (Vi .i64 a8))]) (fun ⟨b1, a7, a5, a8⟩ w' => Hp w (abf (Zz10 a3 a0 a1 a6)) (Zz10 a3 a0 a1 a7) w' ∧ a7.length = a6.length ∧ aax fu a4 b1 a7 a5 a8 = some b5) (fun ⟨b1, a7, a5, a8⟩ => b1) (fu, a6, a4 - b2, b3 - a4) (by exact ⟨hH.kp, lsz, c1⟩) ?_)
 rintro ⟨_ | b1, a7, a5, a8⟩ e1 G ⟨b0, e2, a2⟩
 · exact nzz a2
 rw [aax.eq_2] at a2
 refine cs (sr (wp 3 (nq (cn a2 (fun c2 a2 => ?_) (fun c2 a2 => ?_)))))
 refine ck (qn (ce (sr (wp 3 (nq (cd a2 (fun c3 a2 => ?_) (fun c3 a2 => ?_)))))))
 refine sr (wp 3 (gi a2 fun c4 a2 => adu a4 a5 krf krf c4 (wp 3 (bi a2 fun b6 c5 a2 => aar 270 #[] [(Vs a0 a7.length a1), (Vi .i64 (a4 - a5)), (Vi .i64 a4), (Vi .i64 a8), (zao (.func 130) #[] #[])] _ ent270 krf krf (adk a3 a0 a1 c5 (hG.hp b0 hS) (b0.hand (L1 := (Zz10 a3 a0 a1 a7)) (L2 := [])) (b0.highs hG hS 1 rfl)) ?_))))
 rintro _ c6 ⟨rfl, e3, b7⟩
 have c7 : Hp w (abf (Zz10 a3 a0 a1 a6)) (Zz10 a3 a0 a1 b6) c6 := Hp.callK (L1 := (Zz10 a3 a0 a1 a7)) (L2 := []) b0 b7; clear b7
 refine nq (cr (wp 2 (gi a2 fun c8 a2 => adu a5 a8 krf krf c8 (wp 1 (wl (bn (ql ?_)))))))
 exact ⟨(b1, b6, a5 - a8, a8), _, rfl, (mc (Eq.trans (b := (Vs a0 a7.length a1)) krf (aao lsy)) (mc krf (mc krf (mc krf (mc krf rfl))))), ⟨c7.kp, lsz, a2⟩, zad _⟩
 refine sr (wp 3 (gi a2 fun c9 a2 => adu a4 a5 krf krf c9 (wp 2 (gi a2 fun d0 a2 => aak a4 a8 krf krf d0 (wp 1 (gi a2 fun d1 a2 => ?_))))))
 refine adu (a4 + a8) a5 krf krf d1 (wp 2 (bi a2 fun b8 d2 a2 => aar 270 #[] [(Vs a0 a7.length a1), (Vi .i64 (a4 - a5)), (Vi .i64 ((a4 + a8) - a5)), (Vi .i64 a5), (zao (.func 130) #[] #[])] _ ent270 krf krf (adk a3 a0 a1 d2 (hG.hp b0 hS) (b0.hand (L1 := (Zz10 a3 a0 a1 a7)) (L2 := [])) (b0.highs hG hS 1 rfl)) ?_))
 rintro _ d3 ⟨rfl, e4, b9⟩
 have d4 : Hp w (abf (Zz10 a3 a0 a1 a6)) (Zz10 a3 a0 a1 b8) d3 := Hp.callK (L1 := (Zz10 a3 a0 a1 a7)) (L2 := []) b0 b9; clear b9
 refine nq (cr (wp 2 (gi a2 fun d5 a2 => adu a8 a5 krf krf d5 (wp 1 (wl (bn (ql ?_)))))))
 exact ⟨(b1, b8, a5, a8 - a5), _, rfl, (mc (Eq.trans (b := (Vs a0 a7.length a1)) krf (aao lsy)) (mc krf (mc krf (mc krf (mc krf rfl))))), ⟨d4.kp, lsz, a2⟩, zad _⟩
 refine acw (acv (adf (acx (ql ?_))))
 obtain rfl := oi a2
 exact ⟨(a7, a5), _, rfl, by kernel_rfl, b0.kp, lsz, rfl⟩
 rintro a9 e5 G ⟨b4, e6, rfl⟩
 refine cr (wp 3 (gi hr fun d6 hr => adu a4 a9.2 krf krf d6 (wp 3 (bi hr fun d7 d8 hr => aar 270 #[] [(Vs a0 a9.1.length a1), (Vi .i64 (a4 - a9.2)), (Vi .i64 a4), (Vi .i64 a9.2), (zao (.func 130) #[] #[])] _ ent270 krf krf (adk a3 a0 a1 d8 (hG.hp b4 hS) (b4.hand (L1 := (Zz10 a3 a0 a1 a9.1)) (L2 := [])) (b4.highs hG hS 1 rfl)) ?_))))
 rintro _ d9 ⟨rfl, e7, c0⟩
 have e0 : Hp w (abf (Zz10 a3 a0 a1 a6)) (Zz10 a3 a0 a1 d7) d9 := Hp.callK (L1 := (Zz10 a3 a0 a1 a9.1)) (L2 := []) b4 c0; clear c0
 refine wl ?_
 obtain rfl := oi hr
 refine ahz  rfl  ?_
 exact ⟨(by first | rfl | (simp; done) | (simp; omega)), lsz, e0.kp⟩
open Go.IntKind renaming wrap → zaa
open Nat renaming lt_succ_self → zad
theorem ent14 : Wk.Enters prog 14 := ⟨f14, _, func14, rfl, krf⟩
theorem ent17 : Wk.Enters prog 17 := ⟨f17, _, func17, rfl, krf⟩
theorem ent27 : Wk.Enters prog 27 := ⟨f27, _, func27, rfl, krf⟩
theorem ent71 : Wk.Enters prog 71 := ⟨f71, _, func71, rfl, krf⟩
theorem ent128 : Wk.Enters prog 128 := ⟨f128, _, func128, rfl, krf⟩
theorem ent129 : Wk.Enters prog 129 := ⟨f129, _, func129, rfl, krf⟩
theorem ent185 : Wk.Enters prog 185 := ⟨f185, _, func185, rfl, krf⟩
theorem afb : ∀ {fu : Nat} {a5 : List PQ} {a8 : Int} {a9 : Int} {b2 : Int} (a7 : Option Nat) (a0 : Option Addr) (a6 : Nat) {w : World} {r : List PQ} (hr : aaj fu a5 a8 a9 b2 = some r) (hG : Gl w) (hM : Hp w (abf [rwt aaa 46 3 a7 a0 a6 a5]) [rwt aaa 46 3 a7 a0 a6 a5] w) (hS : ∀ b ∈ abf [rwt aaa 46 3 a7 a0 a6 a5], 9 ≤ b), CR prog 242 [(Vs a0 a5.length a6), (Vi .i64 a8), (Vi .i64 a9), (Vi .i64 b2), (zao (.func 130) #[] #[])] w fun v w' => v = (zal #[]) ∧ r.length = a5.length ∧ Hp w (abf [rwt aaa 46 3 a7 a0 a6 a5]) [rwt aaa 46 3 a7 a0 a6 r] w' := by
 intro fu
 induction fu with
 | zero =>
  intro a5 a8 a9 b2 a7 a0 a6 w r hr hG hM hS
  exact nzz hr
 | succ fu ih =>
 intro a5 a8 a9 b2 a7 a0 a6 w r hr hG hM hS
 have hH : Hp w (abf (Zz10 a7 a0 a6 a5)) (Zz10 a7 a0 a6 a5) w := hM
 refine enter (k := 220) func242 rfl rfl nbe ?_
 rw [aaj.eq_2] at hr
 refine bi hr fun j5 c3 hr => cut1 hH j5 [0, 1, 2, 3, 4] (fun j6 => []) ?_ ?_
 refine sr (wp 2 (gi c3 fun j7 c3 => adu a9 a8 krf krf j7 (wp 1 (nq (cd c3 (fun j8 c3 => ?_) (fun j8 c3 => ?_))))))
 refine sr (wp 2 (nq (sr (wp 2 (nq ?_)))))
 refine bi c3 fun f1 j9 c3 => ait hH [0, 1, 2, 3, 4, 10] [(10, (Vi .i64 f1))] ?_ ?_
 refine ce (lpS (fun g4 ⟨b8, b9⟩ => aan fu a5 a8 g4 b8 b9) (a9, b2) hH j9 [0, 1, 2, 3, 4, 10, 11] (fun ⟨b8, b9⟩ => [(10, (Vi .i64 b8)), (11, (Vi .i64 b9))]) (fun _ => rfl) ?_)
 rintro g4 ⟨b8, b9⟩ t4 G g5 b6
 dsimp only at b6
 rw [aan.eq_2] at b6
 refine cs (sr (wp 3 (nq (cd b6 (fun k0 b6 => ?_) (fun k0 b6 => ?_)))))
 refine ck (qn (ce (sr (wp 2 (gi b6 fun k1 b6 => aak b8 b9 krf krf k1 (amd .u64 .i64 (b8 + b9) underlying3 underlying172 krf (w_shr .u64 .u64 (zaa .u64 (b8 + b9)) (1 : Int) 2 krf krf (by decide) (by decide) (by decide) ?_)))))))
 refine amd .i64 .u64 ((zaa .u64 (b8 + b9)) / 2) underlying172 underlying3 krf (wp 1 (nq (cs (gi b6 fun k2 b6 => gi b6 fun k3 b6 => gi b6 fun k4 b6 => gi b6 fun k5 b6 => aen 9 (fun j_ w_ w_' => abh [4, 9, 10] (fun w' => Rd w' a0 (zak aaa a5)) j_ w_ w_' ∧ abh [9, 10] (fun w' => Rd w' a0 (zak aaa a5)) j_ w_ w_' ∧ abh [8, 9, 10] (fun w' => Rd w' a0 (zak aaa a5)) j_ w_ w_' ∧ True) [false, false, false, false, false, false, false, false, false, false, false] (fun _ _ => ⟨abh.same, abh.same, abh.same, trivial⟩) krf krf g5 rfl (adg (aaw (aba (aaw (aba (aba acu)))))) fun t5 d3 => ?_))))
 refine rp 6 [0, 1, 2] (aau [true, true, true, true, false, false, false, false, false, false, false] 3 43 (Vp (some (ea a0 ((zaa .i64 ((zaa .u64 (b8 + b9)) / 2)).toNat * 3)))) [4, 9, 10] (fun _ _ _ h => h.1) _ rfl rfl krf krf krf krf krf rfl (aaz rfl (by intro w hS_; exact (x_ixT a0 a5.length a6 46 3 .i64 (zaa .i64 ((zaa .u64 (b8 + b9)) / 2)) underlying22 krf krf krf a5 rfl k2 hS_ aab (by decide)))) (by exact (d3.rdrw 0 rfl)) (aau [true, true, true, true, true, false, false, false, false, false, false] 4 44 (zan #[(str ((el a5 (zaa .i64 ((zaa .u64 (b8 + b9)) / 2))).1)), (str ((el a5 (zaa .i64 ((zaa .u64 (b8 + b9)) / 2))).2.1)), (Vb ((el a5 (zaa .i64 ((zaa .u64 (b8 + b9)) / 2))).2.2))]) [9, 10] (fun _ _ _ h => h.2.1) _ rfl rfl krf krf krf krf krf rfl (aaz rfl (by intro w hS_; exact (x_ldE a0 aaa a5 3 (zaa .i64 ((zaa .u64 (b8 + b9)) / 2)) aab hS_ [(str ((el a5 (zaa .i64 ((zaa .u64 (b8 + b9)) / 2))).1)), (str ((el a5 (zaa .i64 ((zaa .u64 (b8 + b9)) / 2))).2.1)), (Vb ((el a5 (zaa .i64 ((zaa .u64 (b8 + b9)) / 2))).2.2))] k3 krf krf krf krf (by decide)))) (by exact (d3.rdrw 0 rfl)) (rp 2 [5, 6] (aau [true, true, true, true, true, true, true, true, false, false, false] 7 47 (Vp (some (ea a0 (a8.toNat * 3)))) [8, 9, 10] (fun _ _ _ h => h.2.2.1) _ rfl rfl krf krf krf krf krf rfl (aaz rfl (by intro w hS_; exact (x_ixT a0 a5.length a6 46 3 .i64 a8 underlying22 krf krf krf a5 rfl k4 hS_ aab (by decide)))) (by exact (d3.rdrw 0 rfl)) (aau [true, true, true, true, true, true, true, true, true, false, false] 8 48 (zan #[(str ((el a5 a8).1)), (str ((el a5 a8).2.1)), (Vb ((el a5 a8).2.2))]) [9, 10] (fun _ _ _ h => h.2.1) _ rfl rfl krf krf krf krf krf rfl (aaz rfl (by intro w hS_; exact (x_ldE a0 aaa a5 3 a8 aab hS_ (Zz3 a5 a8) k5 krf krf krf krf (by decide)))) (by exact (d3.rdrw 0 rfl)) (adl krf (bi b6 fun t6 k6 b6 => wc ent130 d3 (aip k6 (hG.hp d3 hS)) fun t7 g6 => wp 1 ?_)))))))
 refine nq (cd b6 (fun k7 b6 => ?_) (fun k7 b6 => ?_))
 exact cr (wp 1 (gi b6 fun k8 b6 => aak (zaa .i64 ((zaa .u64 (b8 + b9)) / 2)) (1 : Int) krf krf k8 (wp 1 (wl (bn (ql (le' ((zaa .i64 ((zaa .u64 (b8 + b9)) / 2)) + (1 : Int), b9) g6.kp b6)))))))
 exact cr (wp 2 (wl (bn (ql (le' (b8, zaa .i64 ((zaa .u64 (b8 + b9)) / 2)) g6.kp b6)))))
 refine acw (acv (adf (acx (ql ?_))))
 obtain rfl := oi b6
 exact je g5.kp
 intro t8 G k9
 refine bi c3 fun g7 l0 c3 => cut (σ := (List PQ)) [0, 1, 2, 3, 4] (fun d4 => [(0, (Vs a0 d4.length a6))]) (fun d4 w' => Hp w (abf (Zz10 a7 a0 a6 a5)) (Zz10 a7 a0 a6 d4) w' ∧ d4.length = a5.length ∧ d4 = g7) ?_ ?_
 refine sr (wp 2 (nq (ce (lpG (σ := Nat × (List PQ) × Int) [0, 1, 2, 3, 4, 10, 13] (fun ⟨d0, a3, a1⟩ => [(0, (Vs a0 a3.length a6)), (13, (Vi .i64 a1))]) (fun ⟨d0, a3, a1⟩ w' => Hp w (abf (Zz10 a7 a0 a6 a5)) (Zz10 a7 a0 a6 a3) w' ∧ a3.length = a5.length ∧ aat fu f1 d0 a3 a1 = some g7) (fun ⟨d0, a3, a1⟩ => d0) (fu, a5, a8) (by exact ⟨k9.kp, lsz, l0⟩) ?_))))
 rintro ⟨_ | d0, a3, a1⟩ t9 G ⟨e1, u0, b0⟩
 · exact nzz b0
 rw [aat.eq_2] at b0
 refine cs (sr (wp 2 (gi b0 fun l1 b0 => adu f1 (1 : Int) krf krf l1 (wp 1 (nq (cd b0 (fun l2 b0 => ?_) (fun l2 b0 => ?_)))))))
 refine ck (qn (cs (ce (gi b0 fun l3 b0 => gi b0 fun l4 b0 => gi b0 fun g8 b0 => ?_))))
 have l5 := afo (e1.rdrw 0 rfl) aab (by decide) g8
 refine gi b0 fun g9 b0 => gi b0 fun h0 b0 => ?_
 have l6 := afo (e1.rdrw 0 rfl) aab (by decide) h0
 refine gi b0 fun h1 b0 => gi b0 fun f2 b0 => ?_
 have h2 := afo (e1.rdrw 0 rfl) aab (by decide) f2
 refine gi b0 fun h3 b0 => cdr 16 e1 (aaw (adg (aba (aaw (aba (aba acu)))))) fun u1 d5 => rp 12 [0, 1, 2, 3] (rt 4 (Vi .i64 (a1 + (1 : Int))) rfl rfl (aaz rfl (by intro w hS_; exact (akb a1 (1 : Int) krf krf l3))) (rp 9 [5, 6] (rt 7 (Vi .i64 (a1 + (1 : Int))) rfl rfl (aaz rfl (by intro w hS_; exact (akb a1 (1 : Int) krf krf l4))) (rt 8 (Vp (some (ea a0 ((a1 + (1 : Int)).toNat * 3)))) rfl rfl (aaz rfl (by intro w hS_; exact (aka a0 a3.length a6 46 3 .i64 (a1 + (1 : Int)) underlying22 krf krf krf (afd (l := a3) rfl g8) l5))) (rp 5 [10, 11] (rt 12 (Vp (some (ea a0 (a1.toNat * 3)))) rfl rfl (aaz rfl (by intro w hS_; exact (aka a0 a3.length a6 46 3 .i64 a1 underlying22 krf krf krf (afd (l := a3) rfl h0) l6))) (r_one2 (Zz23) (Zz28) 9 13 _ _ rfl rfl krf krf krf rfl rfl ?_ ?_)))))))
 refine aif a0 aaa a3 3 (a1 + (1 : Int)) aab (d5.rdrw 0 rfl) (Zz22 a3 a1) g9 krf krf krf krf (by decide) (wl (acg (by exact trivial) (ro 13 rfl (aif a0 aaa a3 3 a1 aab (d5.rdrw 0 rfl) (Zz3 a3 a1) h1 krf krf krf krf (by decide) (wl (acg (by exact trivial) (rt 14 (Vp (some (ea a0 (a1.toNat * 3)))) rfl rfl (aaz rfl (by intro w hS_; exact (aka a0 a3.length a6 46 3 .i64 a1 underlying22 krf krf krf (afd (l := a3) rfl f2) h2))) (ro 15 rfl (akc d5 0 a7 a0 a6 46 3 a1 a3 ((el a3 (a1 + (1 : Int))).1, (el a3 (a1 + (1 : Int))).2.1, ((el a3 (a1 + (1 : Int))).2.2)) rfl aab (Zz22 a3 a1) h3 krf krf krf (by decide) krf fun f3 c5 => ?_)))))))))
 replace c5 : Hp w (abf (Zz10 a7 a0 a6 a5)) (Zz43 a7 a0 a6 a3 a1) f3 := c5
 refine wl (acg (by exact trivial) (adl krf (gi b0 fun l7 b0 => ahq a0 a3.length a6 46 3 .i64 (a1 + (1 : Int)) underlying22 krf krf krf (zae a3 (zac a1) ((el a3 (a1 + (1 : Int))).1, (el a3 (a1 + (1 : Int))).2.1, ((el a3 (a1 + (1 : Int))).2.2))) (by first | rfl | (simp; done) | omega | (simp; omega) | (rw [zaj]; omega)) l7 (c5.rdrw 0 rfl) aab (by decide) (gi b0 fun l8 b0 => akc c5 0 a7 a0 a6 46 3 (a1 + (1 : Int)) (zae a3 (zac a1) ((el a3 (a1 + (1 : Int))).1, (el a3 (a1 + (1 : Int))).2.1, ((el a3 (a1 + (1 : Int))).2.2))) ((el a3 a1).1, (el a3 a1).2.1, ((el a3 a1).2.2)) rfl aab (Zz3 a3 a1) l8 krf krf krf (by decide) krf fun l9 f4 => ?_))))
 replace f4 : Hp w (abf (Zz10 a7 a0 a6 a5)) (Zz25 a7 a0 a6 a3 a1) l9 := f4
 refine wl (bn (qn (cr (wp 1 (gi b0 fun m0 b0 => aak a1 (1 : Int) krf krf m0 (wp 1 (wl (ql ?_))))))))
 exact ⟨(d0, zae (zae a3 (zac a1) ((el a3 (a1 + (1 : Int))).1, (el a3 (a1 + (1 : Int))).2.1, ((el a3 (a1 + (1 : Int))).2.2))) (zac (a1 + (1 : Int))) ((el a3 a1).1, (el a3 a1).2.1, ((el a3 a1).2.2)), a1 + (1 : Int)), _, rfl, (mc (Eq.trans (b := (Vs a0 a3.length a6)) krf (aao lsy)) (mc krf (mc krf (mc krf (mc krf (mc krf (mc krf rfl))))))), ⟨f4.kp, lsz, b0⟩, zad _⟩
 refine aif a0 aaa a3 3 a1 aab (d5.rdrw 0 rfl) (Zz3 a3 a1) h1 krf krf krf krf (by decide) (wl (acg (by exact trivial) (ro 9 rfl (aif a0 aaa a3 3 (a1 + (1 : Int)) aab (d5.rdrw 0 rfl) (Zz22 a3 a1) g9 krf krf krf krf (by decide) (wl (acg (by exact trivial) (rt 14 (Vp (some (ea a0 (a1.toNat * 3)))) rfl rfl (aaz rfl (by intro w hS_; exact (aka a0 a3.length a6 46 3 .i64 a1 underlying22 krf krf krf (afd (l := a3) rfl f2) h2))) (ro 15 rfl (akc d5 0 a7 a0 a6 46 3 a1 a3 ((el a3 (a1 + (1 : Int))).1, (el a3 (a1 + (1 : Int))).2.1, ((el a3 (a1 + (1 : Int))).2.2)) rfl aab (Zz22 a3 a1) h3 krf krf krf (by decide) krf fun f3 c5 => ?_)))))))))
 replace c5 : Hp w (abf (Zz10 a7 a0 a6 a5)) (Zz43 a7 a0 a6 a3 a1) f3 := c5
 refine wl (acg (by exact trivial) (adl krf (gi b0 fun m1 b0 => ahq a0 a3.length a6 46 3 .i64 (a1 + (1 : Int)) underlying22 krf krf krf (zae a3 (zac a1) ((el a3 (a1 + (1 : Int))).1, (el a3 (a1 + (1 : Int))).2.1, ((el a3 (a1 + (1 : Int))).2.2))) (by first | rfl | (simp; done) | omega | (simp; omega) | (rw [zaj]; omega)) m1 (c5.rdrw 0 rfl) aab (by decide) (gi b0 fun m2 b0 => akc c5 0 a7 a0 a6 46 3 (a1 + (1 : Int)) (zae a3 (zac a1) ((el a3 (a1 + (1 : Int))).1, (el a3 (a1 + (1 : Int))).2.1, ((el a3 (a1 + (1 : Int))).2.2))) ((el a3 a1).1, (el a3 a1).2.1, ((el a3 a1).2.2)) rfl aab (Zz3 a3 a1) m2 krf krf krf (by decide) krf fun m3 f5 => ?_))))
 replace f5 : Hp w (abf (Zz10 a7 a0 a6 a5)) (Zz25 a7 a0 a6 a3 a1) m3 := f5
 refine wl (bn (qn (cr (wp 1 (gi b0 fun m4 b0 => aak a1 (1 : Int) krf krf m4 (wp 1 (wl (ql ?_))))))))
 exact ⟨(d0, zae (zae a3 (zac a1) ((el a3 (a1 + (1 : Int))).1, (el a3 (a1 + (1 : Int))).2.1, ((el a3 (a1 + (1 : Int))).2.2))) (zac (a1 + (1 : Int))) ((el a3 a1).1, (el a3 a1).2.1, ((el a3 a1).2.2)), a1 + (1 : Int)), _, rfl, (mc (Eq.trans (b := (Vs a0 a3.length a6)) krf (aao lsy)) (mc krf (mc krf (mc krf (mc krf (mc krf (mc krf rfl))))))), ⟨f5.kp, lsz, b0⟩, zad _⟩
 refine acw (acv (adf (acx (ql ?_))))
 obtain rfl := oi b0
 exact ⟨a3, _, rfl, by kernel_rfl, e1.kp, lsz, rfl⟩
 rintro d4 u2 G ⟨m5, u3, rfl⟩
 refine ct (afg ?_)
 obtain rfl := oi c3
 obtain rfl := oi hr
 refine r_none  rfl  ?_
 exact ⟨(by first | rfl | (simp; done) | (simp; omega)), lsz, m5.kp⟩
 refine ck (ql ?_)
 obtain rfl := oi c3
 exact je1 rfl hH.kp
 rintro j6 u4 G e9 rfl
 refine bi hr fun m6 c4 hr => cut1 e9 m6 [0, 1, 2, 3, 4] (fun m7 => []) ?_ ?_
 refine sr (wp 2 (gi c4 fun m8 c4 => adu b2 a9 krf krf m8 (wp 1 (nq (cd c4 (fun m9 c4 => ?_) (fun m9 c4 => ?_))))))
 refine sr (wp 2 (nq (sr (wp 2 (nq ?_)))))
 refine bi c4 fun h4 n0 c4 => ait e9 [0, 1, 2, 3, 4, 14] [(14, (Vi .i64 h4))] ?_ ?_
 refine ce (lpS (fun h5 ⟨c0, c1⟩ => aam fu a5 a9 h5 c0 c1) (a8, a9) e9 n0 [0, 1, 2, 3, 4, 14, 15] (fun ⟨c0, c1⟩ => [(14, (Vi .i64 c0)), (15, (Vi .i64 c1))]) (fun _ => rfl) ?_)
 rintro h5 ⟨c0, c1⟩ u5 G h6 b7
 dsimp only at b7
 rw [aam.eq_2] at b7
 refine cs (sr (wp 3 (nq (cd b7 (fun n1 b7 => ?_) (fun n1 b7 => ?_)))))
 refine ck (qn (ce (sr (wp 2 (gi b7 fun n2 b7 => aak c0 c1 krf krf n2 (amd .u64 .i64 (c0 + c1) underlying3 underlying172 krf (w_shr .u64 .u64 (zaa .u64 (c0 + c1)) (1 : Int) 2 krf krf (by decide) (by decide) (by decide) ?_)))))))
 refine amd .i64 .u64 ((zaa .u64 (c0 + c1)) / 2) underlying172 underlying3 krf (wp 1 (nq (cs (gi b7 fun n3 b7 => gi b7 fun n4 b7 => gi b7 fun n5 b7 => gi b7 fun n6 b7 => aen 9 (fun j_ w_ w_' => abh [4, 9, 10, 11] (fun w' => Rd w' a0 (zak aaa a5)) j_ w_ w_' ∧ abh [9, 10, 11] (fun w' => Rd w' a0 (zak aaa a5)) j_ w_ w_' ∧ abh [8, 9, 10, 11] (fun w' => Rd w' a0 (zak aaa a5)) j_ w_ w_' ∧ True) (Zz45) (fun _ _ => ⟨abh.same, abh.same, abh.same, trivial⟩) krf krf h6 rfl (adg (aaw (aba (aaw (aba (aba acu)))))) fun u6 d6 => ?_))))
 refine rp 6 [0, 1, 2] (aau (Zz64) 3 95 (Vp (some (ea a0 (a9.toNat * 3)))) [4, 9, 10, 11] (fun _ _ _ h => h.1) _ rfl rfl krf krf krf krf krf rfl (aaz rfl (by intro w hS_; exact (x_ixT a0 a5.length a6 46 3 .i64 a9 underlying22 krf krf krf a5 rfl n3 hS_ aab (by decide)))) (by exact (d6.rdrw 0 rfl)) (aau (Zz53) 4 96 (zan #[(str ((el a5 a9).1)), (str ((el a5 a9).2.1)), (Vb ((el a5 a9).2.2))]) [9, 10, 11] (fun _ _ _ h => h.2.1) _ rfl rfl krf krf krf krf krf rfl (aaz rfl (by intro w hS_; exact (x_ldE a0 aaa a5 3 a9 aab hS_ (Zz3 a5 a9) n4 krf krf krf krf (by decide)))) (by exact (d6.rdrw 0 rfl)) (rp 2 [5, 6] (aau [true, true, true, true, true, true, true, true, false, false, false, false] 7 99 (Vp (some (ea a0 ((zaa .i64 ((zaa .u64 (c0 + c1)) / 2)).toNat * 3)))) [8, 9, 10, 11] (fun _ _ _ h => h.2.2.1) _ rfl rfl krf krf krf krf krf rfl (aaz rfl (by intro w hS_; exact (x_ixT a0 a5.length a6 46 3 .i64 (zaa .i64 ((zaa .u64 (c0 + c1)) / 2)) underlying22 krf krf krf a5 rfl n5 hS_ aab (by decide)))) (by exact (d6.rdrw 0 rfl)) (aau (Zz58) 8 100 (zan #[(str ((el a5 (zaa .i64 ((zaa .u64 (c0 + c1)) / 2))).1)), (str ((el a5 (zaa .i64 ((zaa .u64 (c0 + c1)) / 2))).2.1)), (Vb ((el a5 (zaa .i64 ((zaa .u64 (c0 + c1)) / 2))).2.2))]) [9, 10, 11] (fun _ _ _ h => h.2.1) _ rfl rfl krf krf krf krf krf rfl (aaz rfl (by intro w hS_; exact (x_ldE a0 aaa a5 3 (zaa .i64 ((zaa .u64 (c0 + c1)) / 2)) aab hS_ [(str ((el a5 (zaa .i64 ((zaa .u64 (c0 + c1)) / 2))).1)), (str ((el a5 (zaa .i64 ((zaa .u64 (c0 + c1)) / 2))).2.1)), (Vb ((el a5 (zaa .i64 ((zaa .u64 (c0 + c1)) / 2))).2.2))] n6 krf krf krf krf (by decide)))) (by exact (d6.rdrw 0 rfl)) (adl krf (bi b7 fun u7 n7 b7 => wc ent130 d6 (aip n7 (hG.hp d6 hS)) fun u9 h7 => wp 2 ?_)))))))
 refine nq (cn b7 (fun n8 b7 => ?_) (fun n8 b7 => ?_))
 exact cr (wp 1 (gi b7 fun n9 b7 => aak (zaa .i64 ((zaa .u64 (c0 + c1)) / 2)) (1 : Int) krf krf n9 (wp 1 (wl (bn (ql (le' ((zaa .i64 ((zaa .u64 (c0 + c1)) / 2)) + (1 : Int), c1) h7.kp b7)))))))
 exact cr (wp 2 (wl (bn (ql (le' (c0, zaa .i64 ((zaa .u64 (c0 + c1)) / 2)) h7.kp b7)))))
 refine acw (acv (adf (acx (ql ?_))))
 obtain rfl := oi b7
 exact je h6.kp
 intro v0 G o0
 refine bi c4 fun h8 o1 c4 => cut (σ := (List PQ)) [0, 1, 2, 3, 4] (fun d7 => [(0, (Vs a0 d7.length a6))]) (fun d7 w' => Hp w (abf (Zz10 a7 a0 a6 a5)) (Zz10 a7 a0 a6 d7) w' ∧ d7.length = a5.length ∧ d7 = h8) ?_ ?_
 refine sr (wp 2 (nq (ce (lpG (σ := Nat × (List PQ) × Int) [0, 1, 2, 3, 4, 14, 17] (fun ⟨d1, a4, a2⟩ => [(0, (Vs a0 a4.length a6)), (17, (Vi .i64 a2))]) (fun ⟨d1, a4, a2⟩ w' => Hp w (abf (Zz10 a7 a0 a6 a5)) (Zz10 a7 a0 a6 a4) w' ∧ a4.length = a5.length ∧ aas fu h4 d1 a4 a2 = some h8) (fun ⟨d1, a4, a2⟩ => d1) (fu, a5, a9) (by exact ⟨o0.kp, lsz, o1⟩) ?_))))
 rintro ⟨_ | d1, a4, a2⟩ v1 G ⟨e2, v2, b1⟩
 · exact nzz b1
 rw [aas.eq_2] at b1
 refine cs (sr (wp 3 (nq (cd b1 (fun o2 b1 => ?_) (fun o2 b1 => ?_)))))
 refine ck (qn (cs (ce (gi b1 fun o3 b1 => gi b1 fun o4 b1 => gi b1 fun h9 b1 => ?_))))
 have o5 := afo (e2.rdrw 0 rfl) aab (by decide) h9
 refine gi b1 fun i0 b1 => gi b1 fun i1 b1 => ?_
 have o6 := afo (e2.rdrw 0 rfl) aab (by decide) i1
 refine gi b1 fun i2 b1 => gi b1 fun f6 b1 => ?_
 have i3 := afo (e2.rdrw 0 rfl) aab (by decide) f6
 refine gi b1 fun i4 b1 => cdr 16 e2 (aaw (adg (aba (aaw (aba (aba acu)))))) fun v3 d8 => rp 12 [0, 1, 2, 3] (rt 4 (Vi .i64 (a2 - (1 : Int))) rfl rfl (aaz rfl (by intro w hS_; exact (akk a2 (1 : Int) krf krf o3))) (rp 9 [5, 6] (rt 7 (Vi .i64 (a2 - (1 : Int))) rfl rfl (aaz rfl (by intro w hS_; exact (akk a2 (1 : Int) krf krf o4))) (rt 8 (Vp (some (ea a0 ((a2 - (1 : Int)).toNat * 3)))) rfl rfl (aaz rfl (by intro w hS_; exact (aka a0 a4.length a6 46 3 .i64 (a2 - (1 : Int)) underlying22 krf krf krf (afd (l := a4) rfl h9) o5))) (rp 5 [10, 11] (rt 12 (Vp (some (ea a0 (a2.toNat * 3)))) rfl rfl (aaz rfl (by intro w hS_; exact (aka a0 a4.length a6 46 3 .i64 a2 underlying22 krf krf krf (afd (l := a4) rfl i1) o6))) (r_one2 (Zz23) (Zz28) 9 13 _ _ rfl rfl krf krf krf rfl rfl ?_ ?_)))))))
 refine aif a0 aaa a4 3 (a2 - (1 : Int)) aab (d8.rdrw 0 rfl) (Zz9 a4 a2) i0 krf krf krf krf (by decide) (wl (acg (by exact trivial) (ro 13 rfl (aif a0 aaa a4 3 a2 aab (d8.rdrw 0 rfl) (Zz3 a4 a2) i2 krf krf krf krf (by decide) (wl (acg (by exact trivial) (rt 14 (Vp (some (ea a0 (a2.toNat * 3)))) rfl rfl (aaz rfl (by intro w hS_; exact (aka a0 a4.length a6 46 3 .i64 a2 underlying22 krf krf krf (afd (l := a4) rfl f6) i3))) (ro 15 rfl (akc d8 0 a7 a0 a6 46 3 a2 a4 ((el a4 (a2 - (1 : Int))).1, (el a4 (a2 - (1 : Int))).2.1, ((el a4 (a2 - (1 : Int))).2.2)) rfl aab (Zz9 a4 a2) i4 krf krf krf (by decide) krf fun f7 c6 => ?_)))))))))
 replace c6 : Hp w (abf (Zz10 a7 a0 a6 a5)) (Zz16 a7 a0 a6 a4 a2) f7 := c6
 refine wl (acg (by exact trivial) (adl krf (gi b1 fun o7 b1 => ahq a0 a4.length a6 46 3 .i64 (a2 - (1 : Int)) underlying22 krf krf krf (zae a4 (zac a2) ((el a4 (a2 - (1 : Int))).1, (el a4 (a2 - (1 : Int))).2.1, ((el a4 (a2 - (1 : Int))).2.2))) (by first | rfl | (simp; done) | omega | (simp; omega) | (rw [zaj]; omega)) o7 (c6.rdrw 0 rfl) aab (by decide) (gi b1 fun o8 b1 => akc c6 0 a7 a0 a6 46 3 (a2 - (1 : Int)) (zae a4 (zac a2) ((el a4 (a2 - (1 : Int))).1, (el a4 (a2 - (1 : Int))).2.1, ((el a4 (a2 - (1 : Int))).2.2))) ((el a4 a2).1, (el a4 a2).2.1, ((el a4 a2).2.2)) rfl aab (Zz3 a4 a2) o8 krf krf krf (by decide) krf fun o9 f8 => ?_))))
 replace f8 : Hp w (abf (Zz10 a7 a0 a6 a5)) (Zz11 a7 a0 a6 a4 a2) o9 := f8
 refine wl (bn (qn (cr (wp 1 (gi b1 fun p0 b1 => adu a2 (1 : Int) krf krf p0 (wp 1 (wl (ql ?_))))))))
 exact ⟨(d1, zae (zae a4 (zac a2) ((el a4 (a2 - (1 : Int))).1, (el a4 (a2 - (1 : Int))).2.1, ((el a4 (a2 - (1 : Int))).2.2))) (zac (a2 - (1 : Int))) ((el a4 a2).1, (el a4 a2).2.1, ((el a4 a2).2.2)), a2 - (1 : Int)), _, rfl, (mc (Eq.trans (b := (Vs a0 a4.length a6)) krf (aao lsy)) (mc krf (mc krf (mc krf (mc krf (mc krf (mc krf rfl))))))), ⟨f8.kp, lsz, b1⟩, zad _⟩
 refine aif a0 aaa a4 3 a2 aab (d8.rdrw 0 rfl) (Zz3 a4 a2) i2 krf krf krf krf (by decide) (wl (acg (by exact trivial) (ro 9 rfl (aif a0 aaa a4 3 (a2 - (1 : Int)) aab (d8.rdrw 0 rfl) (Zz9 a4 a2) i0 krf krf krf krf (by decide) (wl (acg (by exact trivial) (rt 14 (Vp (some (ea a0 (a2.toNat * 3)))) rfl rfl (aaz rfl (by intro w hS_; exact (aka a0 a4.length a6 46 3 .i64 a2 underlying22 krf krf krf (afd (l := a4) rfl f6) i3))) (ro 15 rfl (akc d8 0 a7 a0 a6 46 3 a2 a4 ((el a4 (a2 - (1 : Int))).1, (el a4 (a2 - (1 : Int))).2.1, ((el a4 (a2 - (1 : Int))).2.2)) rfl aab (Zz9 a4 a2) i4 krf krf krf (by decide) krf fun f7 c6 => ?_)))))))))
 replace c6 : Hp w (abf (Zz10 a7 a0 a6 a5)) (Zz16 a7 a0 a6 a4 a2) f7 := c6
 refine wl (acg (by exact trivial) (adl krf (gi b1 fun p1 b1 => ahq a0 a4.length a6 46 3 .i64 (a2 - (1 : Int)) underlying22 krf krf krf (zae a4 (zac a2) ((el a4 (a2 - (1 : Int))).1, (el a4 (a2 - (1 : Int))).2.1, ((el a4 (a2 - (1 : Int))).2.2))) (by first | rfl | (simp; done) | omega | (simp; omega) | (rw [zaj]; omega)) p1 (c6.rdrw 0 rfl) aab (by decide) (gi b1 fun p2 b1 => akc c6 0 a7 a0 a6 46 3 (a2 - (1 : Int)) (zae a4 (zac a2) ((el a4 (a2 - (1 : Int))).1, (el a4 (a2 - (1 : Int))).2.1, ((el a4 (a2 - (1 : Int))).2.2))) ((el a4 a2).1, (el a4 a2).2.1, ((el a4 a2).2.2)) rfl aab (Zz3 a4 a2) p2 krf krf krf (by decide) krf fun p3 f9 => ?_))))
 replace f9 : Hp w (abf (Zz10 a7 a0 a6 a5)) (Zz11 a7 a0 a6 a4 a2) p3 := f9
 refine wl (bn (qn (cr (wp 1 (gi b1 fun p4 b1 => adu a2 (1 : Int) krf krf p4 (wp 1 (wl (ql ?_))))))))
 exact ⟨(d1, zae (zae a4 (zac a2) ((el a4 (a2 - (1 : Int))).1, (el a4 (a2 - (1 : Int))).2.1, ((el a4 (a2 - (1 : Int))).2.2))) (zac (a2 - (1 : Int))) ((el a4 a2).1, (el a4 a2).2.1, ((el a4 a2).2.2)), a2 - (1 : Int)), _, rfl, (mc (Eq.trans (b := (Vs a0 a4.length a6)) krf (aao lsy)) (mc krf (mc krf (mc krf (mc krf (mc krf (mc krf rfl))))))), ⟨f9.kp, lsz, b1⟩, zad _⟩
 refine acw (acv (adf (acx (ql ?_))))
 obtain rfl := oi b1
 exact ⟨a4, _, rfl, by kernel_rfl, e2.kp, lsz, rfl⟩
 rintro d7 v4 G ⟨p5, v5, rfl⟩
 refine ct (afg ?_)
 obtain rfl := oi c4
 obtain rfl := oi hr
 refine r_none  rfl  ?_
 exact ⟨(by first | rfl | (simp; done) | (simp; omega)), lsz, p5.kp⟩
 refine ck (ql ?_)
 obtain rfl := oi c4
 exact je1 rfl e9.kp
 rintro m7 v6 G g0 rfl
 refine sr (wp 2 (gi hr fun p6 hr => aak a8 b2 krf krf p6 (amd .u64 .i64 (a8 + b2) underlying3 underlying172 krf (w_shr .u64 .u64 (zaa .u64 (a8 + b2)) (1 : Int) 2 krf krf (by decide) (by decide) (by decide) (amd .i64 .u64 ((zaa .u64 (a8 + b2)) / 2) underlying172 underlying3 krf (wp 1 (wl ?_)))))))
 refine qn (sr (wp 2 (gi hr fun p7 hr => aak (zaa .i64 ((zaa .u64 (a8 + b2)) / 2)) a9 krf krf p7 (wp 1 (nq (cs ?_))))))
 refine cr (wp 2 (nq (bi hr fun f0 d2 hr => ait g0 [0, 1, 2, 3, 4, 18, 19, 20, 21] [(20, (Vi .i64 f0.1)), (21, (Vi .i64 f0.2))] ?_ ?_)))
 refine sr (wp 3 (nq (cd d2 (fun p8 d2 => ?_) (fun p8 d2 => ?_))))
 refine sr (wp 2 (gi d2 fun p9 d2 => adu ((zaa .i64 ((zaa .u64 (a8 + b2)) / 2)) + a9) b2 krf krf p9 (wp 1 (nq (cr (wp 2 ?_))))))
 refine wl (ql ?_)
 obtain rfl := oi d2
 exact je g0.kp
 refine sr (wp 2 (nq (cr (wp 2 (wl (ql ?_))))))
 obtain rfl := oi d2
 exact je g0.kp
 intro v7 G i5
 refine sr (wp 1 (gi hr fun q0 hr => adu ((zaa .i64 ((zaa .u64 (a8 + b2)) / 2)) + a9) (1 : Int) krf krf q0 (wp 1 (nq (bi hr fun d9 q1 hr => ait i5 [0, 1, 2, 3, 4, 18, 19, 20] [(20, (Vi .i64 d9))] ?_ ?_)))))
 refine ce (lpS (fun i6 ⟨b3, b4⟩ => aal fu a5 a8 a9 b2 i6 b3 b4) (f0.1, f0.2) i5 q1 [0, 1, 2, 3, 4, 18, 19, 20, 21, 22] (fun ⟨b3, b4⟩ => [(20, (Vi .i64 b3)), (21, (Vi .i64 b4))]) (fun _ => rfl) ?_)
 rintro i6 ⟨b3, b4⟩ v8 G i7 b5
 dsimp only at b5
 rw [aal.eq_2] at b5
 refine cs (sr (wp 3 (nq (cd b5 (fun q2 b5 => ?_) (fun q2 b5 => ?_)))))
 refine ck (qn (ce (sr (wp 2 (gi b5 fun q3 b5 => aak b3 b4 krf krf q3 (amd .u64 .i64 (b3 + b4) underlying3 underlying172 krf (w_shr .u64 .u64 (zaa .u64 (b3 + b4)) (1 : Int) 2 krf krf (by decide) (by decide) (by decide) ?_)))))))
 refine amd .i64 .u64 ((zaa .u64 (b3 + b4)) / 2) underlying172 underlying3 krf (wp 1 (nq (cs (gi b5 fun q4 b5 => gi b5 fun q5 b5 => gi b5 fun q6 b5 => gi b5 fun q7 b5 => gi b5 fun q8 b5 => ?_))))
 refine aen 11 (fun j_ w_ w_' => abh [6, 11, 12, 13] (fun w' => Rd w' a0 (zak aaa a5)) j_ w_ w_' ∧ abh [11, 12, 13] (fun w' => Rd w' a0 (zak aaa a5)) j_ w_ w_' ∧ abh [10, 11, 12, 13] (fun w' => Rd w' a0 (zak aaa a5)) j_ w_ w_' ∧ True) (Zz47) (fun _ _ => ⟨abh.same, abh.same, abh.same, trivial⟩) krf krf i7 rfl (adg (aaw (aba (aaw (aba acu))))) fun v9 e0 => rp 7 [0, 1, 2, 3] (rt 4 (Vi .i64 ((((zaa .i64 ((zaa .u64 (a8 + b2)) / 2)) + a9) - (1 : Int)) - (zaa .i64 ((zaa .u64 (b3 + b4)) / 2)))) rfl rfl (aaz rfl (by intro w hS_; exact (akk (((zaa .i64 ((zaa .u64 (a8 + b2)) / 2)) + a9) - (1 : Int)) (zaa .i64 ((zaa .u64 (b3 + b4)) / 2)) krf krf q4))) (aau (Zz51) 5 163 (Vp (some (ea a0 (((((zaa .i64 ((zaa .u64 (a8 + b2)) / 2)) + a9) - (1 : Int)) - (zaa .i64 ((zaa .u64 (b3 + b4)) / 2))).toNat * 3)))) [6, 11, 12, 13] (fun _ _ _ h => h.1) _ rfl rfl krf krf krf krf krf rfl (aaz rfl (by intro w hS_; exact (x_ixT a0 a5.length a6 46 3 .i64 ((((zaa .i64 ((zaa .u64 (a8 + b2)) / 2)) + a9) - (1 : Int)) - (zaa .i64 ((zaa .u64 (b3 + b4)) / 2))) underlying22 krf krf krf a5 rfl q5 hS_ aab (by decide)))) (by exact (e0.rdrw 0 rfl)) (aau [true, true, true, true, true, true, true, false, false, false, false, false, false, false] 6 164 (zan #[(str ((el a5 ((((zaa .i64 ((zaa .u64 (a8 + b2)) / 2)) + a9) - (1 : Int)) - (zaa .i64 ((zaa .u64 (b3 + b4)) / 2)))).1)), (str ((el a5 ((((zaa .i64 ((zaa .u64 (a8 + b2)) / 2)) + a9) - (1 : Int)) - (zaa .i64 ((zaa .u64 (b3 + b4)) / 2)))).2.1)), (Vb ((el a5 ((((zaa .i64 ((zaa .u64 (a8 + b2)) / 2)) + a9) - (1 : Int)) - (zaa .i64 ((zaa .u64 (b3 + b4)) / 2)))).2.2))]) [11, 12, 13] (fun _ _ _ h => h.2.1) _ rfl rfl krf krf krf krf krf rfl (aaz rfl (by intro w hS_; exact (x_ldE a0 aaa a5 3 ((((zaa .i64 ((zaa .u64 (a8 + b2)) / 2)) + a9) - (1 : Int)) - (zaa .i64 ((zaa .u64 (b3 + b4)) / 2))) aab hS_ [(str ((el a5 ((((zaa .i64 ((zaa .u64 (a8 + b2)) / 2)) + a9) - (1 : Int)) - (zaa .i64 ((zaa .u64 (b3 + b4)) / 2)))).1)), (str ((el a5 ((((zaa .i64 ((zaa .u64 (a8 + b2)) / 2)) + a9) - (1 : Int)) - (zaa .i64 ((zaa .u64 (b3 + b4)) / 2)))).2.1)), (Vb ((el a5 ((((zaa .i64 ((zaa .u64 (a8 + b2)) / 2)) + a9) - (1 : Int)) - (zaa .i64 ((zaa .u64 (b3 + b4)) / 2)))).2.2))] q6 krf krf krf krf (by decide)))) (by exact (e0.rdrw 0 rfl)) (rp 2 [7, 8] (aau (Zz62) 9 167 (Vp (some (ea a0 ((zaa .i64 ((zaa .u64 (b3 + b4)) / 2)).toNat * 3)))) [10, 11, 12, 13] (fun _ _ _ h => h.2.2.1) _ rfl rfl krf krf krf krf krf rfl (aaz rfl (by intro w hS_; exact (x_ixT a0 a5.length a6 46 3 .i64 (zaa .i64 ((zaa .u64 (b3 + b4)) / 2)) underlying22 krf krf krf a5 rfl q7 hS_ aab (by decide)))) (by exact (e0.rdrw 0 rfl)) (aau [true, true, true, true, true, true, true, true, true, true, true, false, false, false] 10 168 (zan #[(str ((el a5 (zaa .i64 ((zaa .u64 (b3 + b4)) / 2))).1)), (str ((el a5 (zaa .i64 ((zaa .u64 (b3 + b4)) / 2))).2.1)), (Vb ((el a5 (zaa .i64 ((zaa .u64 (b3 + b4)) / 2))).2.2))]) [11, 12, 13] (fun _ _ _ h => h.2.1) _ rfl rfl krf krf krf krf krf rfl (aaz rfl (by intro w hS_; exact (x_ldE a0 aaa a5 3 (zaa .i64 ((zaa .u64 (b3 + b4)) / 2)) aab hS_ [(str ((el a5 (zaa .i64 ((zaa .u64 (b3 + b4)) / 2))).1)), (str ((el a5 (zaa .i64 ((zaa .u64 (b3 + b4)) / 2))).2.1)), (Vb ((el a5 (zaa .i64 ((zaa .u64 (b3 + b4)) / 2))).2.2))] q8 krf krf krf krf (by decide)))) (by exact (e0.rdrw 0 rfl)) (adl krf (bi b5 fun w0 q9 b5 => ?_))))))))
 refine wc ent130 e0 (aip q9 (hG.hp e0 hS)) fun w1 i9 => wp 2 (nq (cn b5 (fun r0 b5 => ?_) (fun r0 b5 => ?_)))
 exact cr (wp 1 (gi b5 fun r1 b5 => aak (zaa .i64 ((zaa .u64 (b3 + b4)) / 2)) (1 : Int) krf krf r1 (wp 1 (wl (bn (ql (le' ((zaa .i64 ((zaa .u64 (b3 + b4)) / 2)) + (1 : Int), b4) i9.kp b5)))))))
 exact cr (wp 2 (wl (bn (ql (le' (b3, zaa .i64 ((zaa .u64 (b3 + b4)) / 2)) i9.kp b5)))))
 refine acw (acv (adf (acx (ql ?_))))
 obtain rfl := oi b5
 exact je i7.kp
 intro w2 G g1
 refine sr (wp 2 (gi hr fun r2 hr => adu ((zaa .i64 ((zaa .u64 (a8 + b2)) / 2)) + a9) d9 krf krf r2 (wp 1 (nq (bi hr fun r3 c7 hr => cut (σ := (List PQ)) [0, 1, 3, 4, 18, 20, 24] (fun c2 => [(0, (Vs a0 c2.length a6))]) (fun c2 w' => Hp w (abf (Zz10 a7 a0 a6 a5)) (Zz10 a7 a0 a6 c2) w' ∧ c2.length = a5.length ∧ c2 = r3) ?_ ?_)))))
 refine bi c7 fun r4 e3 c7 => ait g1 [0, 1, 2, 3, 4, 18, 20, 24, 185] [(185, (Vb r4))] ?_ ?_
 refine cr (wp 3 (wd e3 (fun r5 e3 => ?_) (fun r5 e3 => ?_)))
 refine wp 4 (wl (ql ?_))
 obtain rfl := oi e3
 exact je g1.kp
 refine wp 4 (wl (ql ?_))
 obtain rfl := oi e3
 exact je g1.kp
 intro w3 G e4
 refine cb c7 (fun r6 c7 => ?_) (fun r6 c7 => ?_)
 refine cr (wp 5 (bi c7 fun j0 r7 c7 => aar 262 #[] [(Vs a0 a5.length a6), (Vi .i64 d9), (Vi .i64 a9), (Vi .i64 (((zaa .i64 ((zaa .u64 (a8 + b2)) / 2)) + a9) - d9)), (zao (.func 130) #[] #[])] _ ent262 krf krf (ahs a7 a0 a6 r7 (hG.hp e4 hS) (e4.hand (L1 := (Zz10 a7 a0 a6 a5)) (L2 := [])) (e4.highs hG hS 1 rfl)) ?_))
 rintro _ r8 ⟨rfl, w4, j1⟩
 have r9 : Hp w (abf (Zz10 a7 a0 a6 a5)) (Zz10 a7 a0 a6 j0) r8 := Hp.callK (L1 := (Zz10 a7 a0 a6 a5)) (L2 := []) e4 j1; clear j1
 refine wl (ql ?_)
 obtain rfl := oi c7
 exact ⟨j0, _, rfl, (mc (Eq.trans (b := (Vs a0 a5.length a6)) krf (aao lsy)) (mc krf (mc krf (mc krf (mc krf (mc krf (mc krf rfl))))))), r9.kp, lsz, rfl⟩
 refine ck (ql ?_)
 obtain rfl := oi c7
 exact ⟨a5, _, rfl, by kernel_rfl, e4.kp, lsz, rfl⟩
 rintro c2 w5 G ⟨g2, w6, rfl⟩
 refine bi hr fun s0 c8 hr => cut (σ := (List PQ)) [0, 3, 4, 18, 24] (fun c9 => [(0, (Vs a0 c9.length a6))]) (fun c9 w' => Hp w (abf (Zz10 a7 a0 a6 a5)) (Zz10 a7 a0 a6 c9) w' ∧ c9.length = c2.length ∧ c9 = s0) ?_ ?_
 refine bi c8 fun s1 e5 c8 => ait g2 [0, 1, 3, 4, 18, 20, 24, 199] [(199, (Vb s1))] ?_ ?_
 refine cr (wp 3 (wd e5 (fun s2 e5 => ?_) (fun s2 e5 => ?_)))
 refine wp 4 (wl (ql ?_))
 obtain rfl := oi e5
 exact je g2.kp
 refine wp 4 (wl (ql ?_))
 obtain rfl := oi e5
 exact je g2.kp
 intro w7 G e6
 refine cb c8 (fun s3 c8 => ?_) (fun s3 c8 => ?_)
 refine cr (wp 5 (bi c8 fun j2 s4 c8 => aar 242 #[] [(Vs a0 c2.length a6), (Vi .i64 a8), (Vi .i64 d9), (Vi .i64 (zaa .i64 ((zaa .u64 (a8 + b2)) / 2))), (zao (.func 130) #[] #[])] _ ent242 krf krf (ih a7 a0 a6 s4 (hG.hp e6 hS) (e6.hand (L1 := (Zz10 a7 a0 a6 c2)) (L2 := [])) (e6.highs hG hS 1 rfl)) ?_))
 rintro _ s5 ⟨rfl, w8, j3⟩
 have s6 : Hp w (abf (Zz10 a7 a0 a6 a5)) (Zz10 a7 a0 a6 j2) s5 := Hp.callK (L1 := (Zz10 a7 a0 a6 c2)) (L2 := []) e6 j3; clear j3
 refine wl (ql ?_)
 obtain rfl := oi c8
 exact ⟨j2, _, rfl, (mc (Eq.trans (b := (Vs a0 c2.length a6)) krf (aao lsy)) (mc krf (mc krf (mc krf (mc krf rfl))))), s6.kp, lsz, rfl⟩
 refine ck (ql ?_)
 obtain rfl := oi c8
 exact ⟨c2, _, rfl, by kernel_rfl, e6.kp, lsz, rfl⟩
 rintro c9 w9 G ⟨g3, x0, rfl⟩
 refine bi hr fun s7 e7 hr => ait g3 [0, 3, 4, 18, 24, 213] [(213, (Vb s7))] ?_ ?_
 refine cr (wp 3 (wd e7 (fun s8 e7 => ?_) (fun s8 e7 => ?_)))
 refine wp 4 (wl (ql ?_))
 obtain rfl := oi e7
 exact je g3.kp
 refine wp 4 (wl (ql ?_))
 obtain rfl := oi e7
 exact je g3.kp
 intro x2 G e8
 refine cb hr (fun s9 hr => ?_) (fun s9 hr => ?_)
 refine cr (wp 5 (bi hr fun t0 t1 hr => aar 242 #[] [(Vs a0 c9.length a6), (Vi .i64 (zaa .i64 ((zaa .u64 (a8 + b2)) / 2))), (Vi .i64 (((zaa .i64 ((zaa .u64 (a8 + b2)) / 2)) + a9) - d9)), (Vi .i64 b2), (zao (.func 130) #[] #[])] _ ent242 krf krf (ih a7 a0 a6 t1 (hG.hp e8 hS) (e8.hand (L1 := (Zz10 a7 a0 a6 c9)) (L2 := [])) (e8.highs hG hS 1 rfl)) ?_))
 rintro _ t2 ⟨rfl, x3, j4⟩
 have t3 : Hp w (abf (Zz10 a7 a0 a6 a5)) (Zz10 a7 a0 a6 t0) t2 := Hp.callK (L1 := (Zz10 a7 a0 a6 c9)) (L2 := []) e8 j4; clear j4
 refine wl ?_
 obtain rfl := oi hr
 refine ahz  rfl  ?_
 exact ⟨(by first | rfl | (simp; done) | (simp; omega)), lsz, t3.kp⟩
 refine ck ?_
 obtain rfl := oi hr
 refine ahz  rfl  ?_
 exact ⟨(by first | rfl | (simp; done) | (simp; omega)), lsz, e8.kp⟩
theorem ahr {fu : Nat} {a4 : List PQ} {b6 : Int} (a2 : Option Nat) (a0 : Option Addr) (a1 : Nat) {w : World} {r : List PQ} (hr : acb fu a4 b6 = some r) (hG : Gl w) (hM : Hp w (abf [rwt aaa 46 3 a2 a0 a1 a4]) [rwt aaa 46 3 a2 a0 a1 a4] w) (hS : ∀ b ∈ abf [rwt aaa 46 3 a2 a0 a1 a4], 9 ≤ b) : CR prog 209 [(Vs a0 a4.length a1), (Vi .i64 b6), (zao (.func 130) #[] #[])] w fun v w' => v = (zal #[]) ∧ r.length = a4.length ∧ Hp w (abf [rwt aaa 46 3 a2 a0 a1 a4]) [rwt aaa 46 3 a2 a0 a1 r] w' := by
 have hH : Hp w (abf (Zz10 a2 a0 a1 a4)) (Zz10 a2 a0 a1 a4) w := hM
 refine enter (k := 63) func209 rfl rfl nbe ?_
 unfold acb at hr
 refine sr (wp 1 (nq (sr (wp 3 (nq ?_)))))
 refine bi hr fun c6 d6 hr => cut (σ := ((List PQ) × Int)) [0, 1, 2, 6, 7] (fun a8 => [(0, (Vs a0 a8.1.length a1)), (7, (Vi .i64 a8.2))]) (fun a8 w' => Hp w (abf (Zz10 a2 a0 a1 a4)) (Zz10 a2 a0 a1 a8.1) w' ∧ a8.1.length = a4.length ∧ a8 = c6) ?_ ?_
 refine ce (lpG (σ := Nat × (List PQ) × Int × Int) [0, 1, 2, 6, 7, 8] (fun ⟨b9, a9, b7, b3⟩ => (Zz88 a0 a9.length a1 b7 b3)) (fun ⟨b9, a9, b7, b3⟩ w' => Hp w (abf (Zz10 a2 a0 a1 a4)) (Zz10 a2 a0 a1 a9) w' ∧ a9.length = a4.length ∧ aah fu b6 b9 a9 b7 b3 = some c6) (fun ⟨b9, a9, b7, b3⟩ => b9) (fu, a4, (0 : Int), (20 : Int)) (by exact ⟨hH.kp, lsz, d6⟩) ?_)
 rintro ⟨_ | b9, a9, b7, b3⟩ g2 G ⟨c1, g3, b1⟩
 · exact nzz b1
 rw [aah.eq_2] at b1
 refine cs (sr (wp 3 (nq (cd b1 (fun d7 b1 => ?_) (fun d7 b1 => ?_)))))
 refine ck (qn (ce (sr (wp 4 (bi b1 fun c7 d8 b1 => aar 241 #[] [(Vs a0 a9.length a1), (Vi .i64 b7), (Vi .i64 b3), (zao (.func 130) #[] #[])] _ ent241 krf krf (aer a2 a0 a1 d8 (hG.hp c1 hS) (c1.hand (L1 := (Zz10 a2 a0 a1 a9)) (L2 := [])) (c1.highs hG hS 1 rfl)) ?_)))))
 rintro _ d9 ⟨rfl, g4, c8⟩
 have e0 : Hp w (abf (Zz10 a2 a0 a1 a4)) (Zz10 a2 a0 a1 c7) d9 := Hp.callK (L1 := (Zz10 a2 a0 a1 a9)) (L2 := []) c1 c8; clear c8
 refine nq (sr (wp 2 (nq (cr (wp 2 (gi b1 fun e1 b1 => ?_))))))
 refine aak b3 (20 : Int) krf krf e1 (wp 1 (wl (bn (ql ?_))))
 exact ⟨(b9, c7, b3, b3 + (20 : Int)), _, rfl, (mc (Eq.trans (b := (Vs a0 a9.length a1)) krf (aao lsy)) (mc krf (mc krf (mc krf (mc krf (mc krf rfl)))))), ⟨e0.kp, lsz, b1⟩, zad _⟩
 refine acw (acv (adf (acx (ql ?_))))
 obtain rfl := oi b1
 exact ⟨(a9, b7), _, rfl, by kernel_rfl, c1.kp, lsz, rfl⟩
 rintro a8 g5 G ⟨c4, g6, rfl⟩
 refine sr (wp 4 (bi hr fun c5 e2 hr => aar 241 #[] [(Vs a0 a8.1.length a1), (Vi .i64 a8.2), (Vi .i64 b6), (zao (.func 130) #[] #[])] _ ent241 krf krf (aer a2 a0 a1 e2 (hG.hp c4 hS) (c4.hand (L1 := (Zz10 a2 a0 a1 a8.1)) (L2 := [])) (c4.highs hG hS 1 rfl)) ?_))
 rintro _ e3 ⟨rfl, g7, c9⟩
 have e4 : Hp w (abf (Zz10 a2 a0 a1 a4)) (Zz10 a2 a0 a1 c5) e3 := Hp.callK (L1 := (Zz10 a2 a0 a1 a8.1)) (L2 := []) c4 c9; clear c9
 refine nq (ce (lpG (σ := Nat × (List PQ) × Int) [0, 1, 2, 6] (fun ⟨b8, b2, a5⟩ => [(0, (Vs a0 b2.length a1)), (6, (Vi .i64 a5))]) (fun ⟨b8, b2, a5⟩ w' => Hp w (abf (Zz10 a2 a0 a1 a4)) (Zz10 a2 a0 a1 b2) w' ∧ b2.length = c5.length ∧ aae fu b6 b8 b2 a5 = some r) (fun ⟨b8, b2, a5⟩ => b8) (fu, c5, (20 : Int)) (by exact ⟨e4.kp, lsz, hr⟩) ?_ (mc (Eq.trans (b := (Vs a0 a8.1.length a1)) krf (aao lsy)) (mc krf (mc krf (mc krf rfl))))))
 rintro ⟨_ | b8, b2, a5⟩ g8 G ⟨d0, g9, a3⟩
 · exact nzz a3
 rw [aae.eq_2] at a3
 refine cs (sr (wp 3 (nq (cd a3 (fun e5 a3 => ?_) (fun e5 a3 => ?_)))))
 refine ck (qn (ce (sr (wp 1 (gi a3 fun e6 a3 => ank (2 : Int) a5 krf krf e6 (wp 2 (wl ?_)))))))
 refine qn (bi a3 fun d1 e7 a3 => cut (σ := ((List PQ) × Int)) [0, 1, 2, 6, 7] (fun a6 => [(0, (Vs a0 a6.1.length a1)), (7, (Vi .i64 a6.2))]) (fun a6 w' => Hp w (abf (Zz10 a2 a0 a1 a4)) (Zz10 a2 a0 a1 a6.1) w' ∧ a6.1.length = b2.length ∧ a6 = d1) ?_ ?_)
 refine ce (lpG (σ := Nat × (List PQ) × Int × Int) [0, 1, 2, 6, 7, 8] (fun ⟨c0, b0, b4, b5⟩ => (Zz88 a0 b0.length a1 b4 b5)) (fun ⟨c0, b0, b4, b5⟩ w' => Hp w (abf (Zz10 a2 a0 a1 a4)) (Zz10 a2 a0 a1 b0) w' ∧ b0.length = b2.length ∧ aap fu b6 a5 c0 b0 b4 b5 = some d1) (fun ⟨c0, b0, b4, b5⟩ => c0) (fu, b2, (0 : Int), (2 : Int) * a5) (by exact ⟨d0.kp, lsz, e7⟩) ?_)
 rintro ⟨_ | c0, b0, b4, b5⟩ h0 G ⟨c2, h1, a7⟩
 · exact nzz a7
 rw [aap.eq_2] at a7
 refine cs (sr (wp 3 (nq (cd a7 (fun e8 a7 => ?_) (fun e8 a7 => ?_)))))
 refine ck (qn (ce (sr (wp 4 (gi a7 fun e9 a7 => aak b4 a5 krf krf e9 (wp 2 (bi a7 fun d2 f0 a7 => ?_)))))))
 refine aar 242 #[] [(Vs a0 b0.length a1), (Vi .i64 b4), (Vi .i64 (b4 + a5)), (Vi .i64 b5), (zao (.func 130) #[] #[])] _ ent242 krf krf (afb a2 a0 a1 f0 (hG.hp c2 hS) (c2.hand (L1 := (Zz10 a2 a0 a1 b0)) (L2 := [])) (c2.highs hG hS 1 rfl)) ?_
 rintro _ f1 ⟨rfl, h2, d3⟩
 have f2 : Hp w (abf (Zz10 a2 a0 a1 a4)) (Zz10 a2 a0 a1 d2) f1 := Hp.callK (L1 := (Zz10 a2 a0 a1 b0)) (L2 := []) c2 d3; clear d3
 refine nq (sr (wp 2 (nq (cr (wp 2 (gi a7 fun f3 a7 => ?_))))))
 refine ank (2 : Int) a5 krf krf f3 (gi a7 fun f4 a7 => aak b5 ((2 : Int) * a5) krf krf f4 (wp 1 (wl (bn (ql ?_)))))
 exact ⟨(c0, d2, b5, b5 + ((2 : Int) * a5)), _, rfl, (mc (Eq.trans (b := (Vs a0 b0.length a1)) krf (aao lsy)) (mc krf (mc krf (mc krf (mc krf (mc krf rfl)))))), ⟨f2.kp, lsz, a7⟩, zad _⟩
 refine acw (acv (adf (acx (ql ?_))))
 obtain rfl := oi a7
 exact ⟨(b0, b4), _, rfl, by kernel_rfl, c2.kp, lsz, rfl⟩
 rintro a6 h3 G ⟨c3, h4, rfl⟩
 refine cs (sr (wp 2 (gi a3 fun f5 a3 => aak a6.2 a5 krf krf f5 (wp 1 (nq (cs ?_))))))
 refine cr (wp 3 (nq (cd a3 (fun f6 a3 => ?_) (fun f6 a3 => ?_))))
 refine cr (wp 5 (bi a3 fun d4 f7 a3 => aar 242 #[] [(Vs a0 a6.1.length a1), (Vi .i64 a6.2), (Vi .i64 (a6.2 + a5)), (Vi .i64 b6), (zao (.func 130) #[] #[])] _ ent242 krf krf (afb a2 a0 a1 f7 (hG.hp c3 hS) (c3.hand (L1 := (Zz10 a2 a0 a1 a6.1)) (L2 := [])) (c3.highs hG hS 1 rfl)) ?_))
 rintro _ f8 ⟨rfl, h5, d5⟩
 have f9 : Hp w (abf (Zz10 a2 a0 a1 a4)) (Zz10 a2 a0 a1 d4) f8 := Hp.callK (L1 := (Zz10 a2 a0 a1 a6.1)) (L2 := []) c3 d5; clear d5
 refine nq (cr (wp 1 (gi a3 fun g0 a3 => ank a5 (2 : Int) krf krf g0 (wp 1 (wl (bn (ql ?_)))))))
 exact ⟨(b8, d4, a5 * (2 : Int)), _, rfl, (mc (Eq.trans (b := (Vs a0 a6.1.length a1)) krf (aao lsy)) (mc krf (mc krf (mc krf rfl)))), ⟨f9.kp, lsz, a3⟩, zad _⟩
 refine ck (qn (cr (wp 1 (gi a3 fun g1 a3 => ank a5 (2 : Int) krf krf g1 (wp 1 (wl (bn (ql ?_))))))))
 exact ⟨(b8, a6.1, a5 * (2 : Int)), _, rfl, by kernel_rfl, ⟨c3.kp, lsz, a3⟩, zad _⟩
 refine acw (acv (adf (acx ?_)))
 obtain rfl := oi a3
 refine ahz  rfl  ?_
 exact ⟨(by first | rfl | (simp; done) | (simp; omega)), lsz, d0.kp⟩
theorem ahp {fu : Nat} {a0 : List PQ} (a3 : Option Nat) (a1 : Option Addr) (a2 : Nat) {w : World} {r : List PQ} (hr : aby fu a0 = some r) (hG : Gl w) (hM : Hp w (abf [rwt aaa 46 3 a3 a1 a2 a0]) [rwt aaa 46 3 a3 a1 a2 a0] w) (hS : ∀ b ∈ abf [rwt aaa 46 3 a3 a1 a2 a0], 9 ≤ b) : CR prog 163 [(Vs a1 a0.length a2), (zao (.func 130) #[] #[])] w fun v w' => v = (zal #[]) ∧ r.length = a0.length ∧ Hp w (abf [rwt aaa 46 3 a3 a1 a2 a0]) [rwt aaa 46 3 a3 a1 a2 r] w' := by
 have hH : Hp w (abf (Zz10 a3 a1 a2 a0)) (Zz10 a3 a1 a2 a0) w := hM
 refine enter (k := 9) func163 rfl rfl nbe ?_
 unfold aby at hr
 refine cr (wp 4 (bi hr fun y1 a5 hr => aar 209 #[] [(Vs a1 a0.length a2), (Vi .i64 (a0.length : Int)), (zao (.func 130) #[] #[])] _ ent209 krf krf (ahr a3 a1 a2 a5 (hG.hp hH hS) (hH.hand (L1 := (Zz10 a3 a1 a2 a0)) (L2 := [])) (hH.highs hG hS 1 rfl)) ?_))
 rintro _ w3 ⟨rfl, a7, a4⟩
 have a6 : Hp w (abf (Zz10 a3 a1 a2 a0)) (Zz10 a3 a1 a2 y1) w3 := Hp.callK (L1 := (Zz10 a3 a1 a2 a0)) (L2 := []) hH a4; clear a4
 refine wl ?_
 obtain rfl := oi hr
 refine ahz  rfl  ?_
 exact ⟨(by first | rfl | (simp; done) | (simp; omega)), lsz, a6.kp⟩
theorem agb {fu : Nat} {a1 : List PQ} (a2 : Nat) (a3 : Option Addr) (a6 : Nat) (a4 : Nat) {w : World} {r : List PQ} (hr : abb fu a1 = some r) (hG : Gl w) (b2 : a6 = a1.length) (a8 : Rd w a3 (zak aaa a1)) (b3 : a6 ≤ a4) (hM : Hp w (abf [blk a2 [(Vs a3 a1.length a4)] 22]) [blk a2 [(Vs a3 a1.length a4)] 22] w) (hS : ∀ b ∈ abf [blk a2 [(Vs a3 a1.length a4)] 22], 9 ≤ b) (a9 : zak aaa a1 ≠ [] → ∀ p, a3 = some p → p.block ∉ abf [blk a2 [(Vs a3 a1.length a4)] 22]) : CR prog 128 [(zao (.func 186) #[] #[(Vp (some ⟨a2, 0, none⟩))]), (zao (.func 130) #[] #[])] w fun v w' => ∃ (o0 : Option Nat), ∃ (a0 : Option Addr), ∃ (cap0 : Nat), v = (Vs a0 r.length cap0) ∧ Hp w (abf [blk a2 [(Vs a3 a1.length a4)] 22]) [blk a2 [(Vs a3 a1.length a4)] 22, rwt aaa 46 3 o0 a0 cap0 r] w' := by
 subst b2
 have hH : Hp w (abf (Zz75 a2 a3 a1.length a4)) (Zz75 a2 a3 a1.length a4) w := hM
 refine enter (k := 12) func128 rfl rfl nbe ?_
 unfold abb at hr
 refine sr (wp 1 (nq (sr (wp 1 (bi hr fun y1 b4 hr => aar 185 #[] [(zao (.func 186) #[] #[(Vp (some ⟨a2, 0, none⟩))])] _ ent185 krf krf (ake a2 a3 a1.length a4 b4 (hG.hp hH hS) rfl (a8.hpN hH a9) b3 (hH.hand (L1 := (Zz75 a2 a3 a1.length a4)) (L2 := [])) (hH.highs hG hS 1 rfl) (hH.apartRd 1 a8 a9 rfl)) ?_)))))
 rintro _ w3 ⟨o6, a7, cap8, rfl, b0⟩
 have b5 : Hp w (abf (Zz75 a2 a3 a1.length a4)) (Zz60 a2 a3 a1.length a4 o6 a7 cap8 y1) w3 := Hp.callK (L1 := (Zz75 a2 a3 a1.length a4)) (L2 := []) hH b0; clear b0
 refine wp 1 (nq (sr (wp 2 (bi hr fun y9 b6 hr => ?_))))
 have a5 : Hp w (abf (Zz75 a2 a3 a1.length a4)) [rwt aaa 46 3 o6 a7 cap8 y1, blk a2 [(Vs a3 a1.length a4)] 22] w3 := b5.front 1 _ rfl
 refine aar 163 #[] [(Vs a7 y1.length cap8), (zao (.func 130) #[] #[])] _ ent163 krf krf (ahp o6 a7 cap8 b6 (hG.hp a5 hS) (a5.hand (L1 := (Zz10 o6 a7 cap8 y1)) (L2 := (Zz75 a2 a3 a1.length a4))) (a5.highs hG hS 1 rfl)) ?_
 rintro _ b7 ⟨rfl, b9, b1⟩
 have b8 : Hp w (abf (Zz75 a2 a3 a1.length a4)) [rwt aaa 46 3 o6 a7 cap8 y9, blk a2 [(Vs a3 a1.length a4)] 22] b7 := Hp.callK (L1 := (Zz10 o6 a7 cap8 y1)) (L2 := (Zz75 a2 a3 a1.length a4)) a5 b1; clear b1
 refine nq (sr (wp 2 (nq (ct ?_))))
 obtain rfl := oi hr
 refine r_one (Vs a7 y1.length cap8) rfl krf ?_
 exact ⟨o6, a7, cap8, (by first | rfl | (simp; done) | (simp; omega)), (Hp.front b8 1 _ rfl).kp⟩
theorem K_L_header_sorted {fu : Nat} {a1 : List PQ} (a2 : Option Addr) (a5 : Nat) (a3 : Nat) {w : World} {r : List PQ} (hr : aeh fu a1 = some r) (hG : Gl w) (b3 : a5 = a1.length) (a6 : Rd w a2 (zak aaa a1)) (a9 : a5 ≤ a3) : CR prog 71 [(Vs a2 a5 a3)] w fun v w' => ∃ (o0 : Option Nat), ∃ (a0 : Option Addr), ∃ (cap0 : Nat), v = (Vs a0 r.length cap0) ∧ Hp w [] [rwt aaa 46 3 o0 a0 cap0 r] w' := by
 subst b3
 have hH := Hp.refl w
 refine enter (k := 6) func71 rfl rfl nbe ?_
 unfold aeh at hr
 refine sr (wp 1 (nq (sr (wp 1 (bi hr fun y1 b4 hr => aar 129 #[] [(Vs a2 a1.length a3)] _ ent129 krf krf (aoo a2 a1.length a3 b4 (hG.hp0 hH) rfl (a6.hp hH) a9) ?_)))))
 rintro _ w3 ⟨b6, rfl, b0⟩
 have a4 : Hp w [] (Zz75 b6 a2 a1.length a3) w3 := Hp.callK (L1 := []) (L2 := []) hH b0; clear b0
 refine bi hr fun y7 b5 hr => aar 128 #[] [(zao (.func 186) #[] #[(Vp (some ⟨b6, 0, none⟩))]), (zao (.func 130) #[] #[])] _ ent128 krf krf (agb b6 a2 a1.length a3 b5 (hG.hp0 a4) rfl (a6.hp a4) a9 (a4.hand (L1 := (Zz75 b6 a2 a1.length a3)) (L2 := [])) (a4.highs hG (fun _ h => absurd h (by simp)) 1 rfl) (a4.apartRd 1 a6 (fun _ _ _ h => absurd h (by simp)) rfl)) ?_
 rintro _ w9 ⟨b1, a7, a8, rfl, b2⟩
 have b7 : Hp w [] (Zz60 b6 a2 a1.length a3 b1 a7 a8 y7) w9 := Hp.callK (L1 := (Zz75 b6 a2 a1.length a3)) (L2 := []) a4 b2; clear b2
 refine wp 1 (nq (ct ?_))
 obtain rfl := oi hr
 refine r_one (Vs a7 y7.length a8) rfl krf ?_
 exact ⟨b1, a7, a8, (by first | rfl | (simp; done) | (simp; omega)), (Hp.front b7 1 _ rfl).kp⟩
theorem amu {fu : Nat} {a0 : (Str × Str × Int × Str × (List PQ))} (a2 : Option Addr) (d3 : Nat) (a3 : Nat) {w : World} {r : (Str × UInt8)} (hr : agv fu a0 = some r) (hG : Gl w) (f7 : d3 = a0.2.2.2.2.length) (e1 : Rd w a2 (zak aaa a0.2.2.2.2)) (j8 : d3 ≤ a3) : CR prog 17 [(zan #[(str a0.1), (str a0.2.1), (Vi .i64 a0.2.2.1), (str a0.2.2.2.1), (Vs a2 d3 a3)])] w fun v w' => v = (zal #[(str r.1), (bt r.2)]) ∧ Hp w [] [] w' := by
 subst f7
 have hH := Hp.refl w
 refine enter (k := 85) func17 rfl rfl nbe ?_
 unfold agv at hr
 refine sr (aes hH (Zz5 a0.1 a0.2.1 a0.2.2.1 a0.2.2.2.1 a2 a0.2.2.2.2.length a3) 24 (fun b => (Vp (some ⟨b, 0, none⟩))) rfl rfl krf fun b1 w2 d4 => wp 2 (nq (sr (wp 1 (acm d4 0 b1 1 (Zz5 a0.1 a0.2.1 a0.2.2.1 a0.2.2.2.1 a2 a0.2.2.2.2.length a3) 24 (str a0.2.1) rfl rfl krf krf ?_)))))
 refine bi hr fun y4 f8 hr => wc ent26 d4 (aga f8 (hG.hp0 d4)) fun w6 c2 => wp 5 (nq (cs (bi hr fun f9 a5 hr => ait c2 [1, 2, 3, 4, 34] [(34, (Vb f9))] ?_ ?_)))
 refine cr (wp 2 (wb a5 (fun g0 a5 => ?_) (fun g0 a5 => ?_)))
 refine wp 15 (wl (ql ?_))
 obtain rfl := oi a5
 exact je c2.kp
 refine wp 1 (gy 19 (acm c2 0 b1 0 (Zz5 a0.1 a0.2.1 a0.2.2.1 a0.2.2.2.1 a2 a0.2.2.2.2.length a3) 24 (str a0.1) rfl rfl krf krf (gy 19 (bi a5 fun j9 g1 a5 => wc ent69 c2 (agx g1 (hG.hp0 c2)) fun k0 c3 => wp 2 (wb a5 (fun g2 a5 => ?_) (fun g2 a5 => ?_))))))
 refine wp 9 (wl (ql ?_))
 obtain rfl := oi a5
 exact je c3.kp
 refine wp 1 (gy 25 (acm c3 0 b1 2 (Zz5 a0.1 a0.2.1 a0.2.2.1 a0.2.2.2.1 a2 a0.2.2.2.2.length a3) 24 (Vi .i64 a0.2.2.1) rfl rfl krf krf (wp 2 (wd a5 (fun g3 a5 => ?_) (fun g3 a5 => ?_)))))
 refine wp 4 (wl (ql ?_))
 obtain rfl := oi a5
 exact je c3.kp
 refine wp 1 (gy 30 (acm c3 0 b1 2 (Zz5 a0.1 a0.2.1 a0.2.2.1 a0.2.2.2.1 a2 a0.2.2.2.2.length a3) 24 (Vi .i64 a0.2.2.1) rfl rfl krf krf (wp 2 (wl (ql ?_)))))
 obtain rfl := oi a5
 exact je c3.kp
 intro k1 G d5
 refine cb hr (fun g4 hr => ?_) (fun g4 hr => ?_)
 refine sr (wp 2 (nq (ct (st ?_))))
 obtain rfl := oi hr
 exact rv d5.kp
 refine ck (qn (sr (wp 1 (nq (bi hr fun e2 g5 hr => cut (σ := (List PQ) × (Option Nat) × (Option Addr) × Nat) [1, 2, 3, 4, 6] (fun ⟨a8, c4, b8, b9⟩ => [(6, (Vs b8 a8.length b9))]) (fun ⟨a8, c4, b8, b9⟩ w' => Hp w [] [blk b1 (Zz5 a0.1 a0.2.1 a0.2.2.1 a0.2.2.2.1 a2 a0.2.2.2.2.length a3) 24, rwt aaa 46 3 c4 b8 b9 a8] w' ∧ a8 = e2) ?_ ?_)))))
 refine sr (wp 1 (acm d5 0 b1 4 (Zz5 a0.1 a0.2.1 a0.2.2.1 a0.2.2.2.1 a2 a0.2.2.2.2.length a3) 24 (Vs a2 a0.2.2.2.2.length a3) rfl rfl krf krf (wp 2 (nq (ce (lpG (σ := Nat × (List PQ) × Int × (Option Nat) × (Option Addr) × Nat) [1, 2, 3, 4, 6, 36, 37, 38] (fun ⟨b6, a6, a1, b3, a9, b0⟩ => [(6, (Vs a9 a6.length b0)), (38, (Vi .i64 a1))]) (fun ⟨b6, a6, a1, b3, a9, b0⟩ w' => Hp w [] [blk b1 (Zz5 a0.1 a0.2.1 a0.2.2.1 a0.2.2.2.1 a2 a0.2.2.2.2.length a3) 24, rwt aaa 46 3 b3 a9 b0 a6] w' ∧ ado fu a0 b6 a6 a1 = some e2) (fun ⟨b6, a6, a1, b3, a9, b0⟩ => b6) (fu, ([] : List PQ), (0 : Int), none, none, 0) (by exact ⟨(Hp.front (Hp.nilrw d5 aaa 46 3 none) 1 _ rfl).kp, g5⟩) ?_ (mc krf (mc krf (mc krf (mc krf (mc (Eq.trans (b := (Vs none 0 0)) krf (aao lsy)) (mc krf (mc krf (mc krf rfl))))))))))))))
 rintro ⟨_ | b6, a6, a1, b3, a9, b0⟩ k2 G ⟨c7, a4⟩
 · exact nzz a4
 rw [ado.eq_2] at a4
 refine sr (wp 1 (nq (cs (cd a4 (fun g6 a4 => ?_) (fun g6 a4 => ?_)))))
 refine ck (qn (cs (ce (sr (gi a4 fun g7 a4 => ahq a2 a0.2.2.2.2.length a3 46 3 .i64 a1 underlying22 krf krf krf a0.2.2.2.2 rfl g7 (e1.hp c7) aab (by decide) (gi a4 fun g8 a4 => aif a2 aaa a0.2.2.2.2 3 a1 aab (e1.hp c7) (Zz3 a0.2.2.2.2 a1) g8 krf krf krf krf (by decide) ?_))))))
 refine aes c7 (Zz6) 46 (fun b => (Vp (some ⟨b, 0, none⟩))) rfl rfl krf fun c5 k3 g9 => ahm g9 0 c5 0 (Zz6) (Zz3 a0.2.2.2.2 a1) 46 [blk c5 (Zz3 a0.2.2.2.2 a1) 46, blk b1 (Zz5 a0.1 a0.2.1 a0.2.2.1 a0.2.2.2.1 a2 a0.2.2.2.2.length a3) 24, rwt aaa 46 3 b3 a9 b0 a6] rfl nbe krf krf rfl krf rfl fun k4 c8 => nq (sr (wp 1 (acm c8 0 c5 0 (Zz3 a0.2.2.2.2 a1) 46 (str ((el a0.2.2.2.2 a1).1)) rfl rfl krf krf (wp 1 (wl ?_)))))
 refine qn (cn a4 (fun h0 a4 => ?_) (fun h0 a4 => ?_))
 refine cr (wp 1 (amh c8 0 c5 0 3 (Zz3 a0.2.2.2.2 a1) (Zz3 a0.2.2.2.2 a1) 46 rfl rfl rfl krf krf krf (aes c8 (Zz3 a0.2.2.2.2 a1) 46 (fun b => (Vs (some ⟨b, 0, none⟩) 1 1)) rfl rfl krf fun d6 k5 e3 => gi a4 fun h1 a4 => afr e3 3 b3 a9 (some ⟨d6, 0, none⟩) b0 1 46 3 40 a6 ([((el a0.2.2.2.2 a1).1, (el a0.2.2.2.2 a1).2.1, ((el a0.2.2.2.2 a1).2.2))] : List PQ) aab rfl underlying22 (by unfold TI; kernel_rfl) (by decide) (by decide) krf (Eq.trans (b := (Vs (some ⟨d6, 0, none⟩) 1 1)) krf (aao (by first | rfl | (simp; done) | omega | (simp; omega) | (rw [zaj]; omega)))) (e3.rdblk 0 rfl) h1 fun e4 e5 e6 h2 d7 => ?_)))
 replace d7 : Hp w [] [blk d6 (Zz3 a0.2.2.2.2 a1) 46, blk c5 (Zz3 a0.2.2.2.2 a1) 46, blk b1 (Zz5 a0.1 a0.2.1 a0.2.2.1 a0.2.2.2.1 a2 a0.2.2.2.2.length a3) 24, rwt aaa 46 3 e4 e5 e6 (a6 ++ ([((el a0.2.2.2.2 a1).1, (el a0.2.2.2.2 a1).2.1, ((el a0.2.2.2.2 a1).2.2))] : List PQ))] h2 := d7
 refine wp 1 (wl (bn (qn (cr (gi a4 fun h3 a4 => aak a1 (1 : Int) krf krf h3 (wp 1 (wl (ql ?_))))))))
 exact ⟨(b6, a6 ++ ([((el a0.2.2.2.2 a1).1, (el a0.2.2.2.2 a1).2.1, ((el a0.2.2.2.2 a1).2.2))] : List PQ), a1 + (1 : Int), e4, e5, e6), _, rfl, by kernel_rfl, ⟨(Hp.front (Hp.front d7 3 _ rfl) 3 _ rfl).kp, a4⟩, zad _⟩
 refine ck (bn (qn (cr (gi a4 fun h4 a4 => aak a1 (1 : Int) krf krf h4 (wp 1 (wl (ql ?_)))))))
 exact ⟨(b6, a6, a1 + (1 : Int), b3, a9, b0), _, rfl, by kernel_rfl, ⟨(Hp.front (Hp.front c8 2 _ rfl) 2 _ rfl).kp, a4⟩, zad _⟩
 refine acw (acv (adf (acx (ql ?_))))
 obtain rfl := oi a4
 exact ⟨(a6, b3, a9, b0), _, rfl, by kernel_rfl, (Hp.front (Hp.front c7 1 _ rfl) 1 _ rfl).kp, rfl⟩
 rintro ⟨a8, c4, b8, b9⟩ k6 G ⟨c9, rfl⟩
 refine bi hr fun h5 b7 hr => cut (σ := (List PQ) × (Option Nat) × (Option Addr) × Nat) [1, 2, 3, 4, 6] (fun ⟨b2, c6, b4, b5⟩ => [(6, (Vs b4 b2.length b5))]) (fun ⟨b2, c6, b4, b5⟩ w' => Hp w [] [blk b1 (Zz5 a0.1 a0.2.1 a0.2.2.1 a0.2.2.2.1 a2 a0.2.2.2.2.length a3) 24, rwt aaa 46 3 c6 b4 b5 b2] w' ∧ b2 = h5) ?_ ?_
 refine sr (wp 1 (acm c9 0 b1 3 (Zz5 a0.1 a0.2.1 a0.2.2.1 a0.2.2.2.1 a2 a0.2.2.2.2.length a3) 24 (str a0.2.2.2.1) rfl rfl krf krf (wp 1 (nq (cn b7 (fun h6 b7 => ?_) (fun h6 b7 => ?_))))))
 refine cr (wp 2 (acm c9 0 b1 3 (Zz5 a0.1 a0.2.1 a0.2.2.1 a0.2.2.2.1 a2 a0.2.2.2.2.length a3) 24 (str a0.2.2.2.1) rfl rfl krf krf (wp 1 (aes c9 [(str ([98, 114, 97, 110, 99, 104] : Str)), (str a0.2.2.2.1), (Vb true)] 46 (fun b => (Vs (some ⟨b, 0, none⟩) 1 1)) rfl rfl krf fun d8 k7 e7 => gi b7 fun h7 b7 => afr e7 2 c4 b8 (some ⟨d8, 0, none⟩) b9 1 46 3 40 a8 ([(([98, 114, 97, 110, 99, 104] : Str), a0.2.2.2.1, true)] : List PQ) aab rfl underlying22 (by unfold TI; kernel_rfl) (by decide) (by decide) krf (Eq.trans (b := (Vs (some ⟨d8, 0, none⟩) 1 1)) krf (aao (by first | rfl | (simp; done) | omega | (simp; omega) | (rw [zaj]; omega)))) (e7.rdblk 0 rfl) h7 fun e8 e9 f0 h8 d9 => ?_))))
 replace d9 : Hp w [] [blk d8 [(str ([98, 114, 97, 110, 99, 104] : Str)), (str a0.2.2.2.1), (Vb true)] 46, blk b1 (Zz5 a0.1 a0.2.1 a0.2.2.1 a0.2.2.2.1 a2 a0.2.2.2.2.length a3) 24, rwt aaa 46 3 e8 e9 f0 (a8 ++ ([(([98, 114, 97, 110, 99, 104] : Str), a0.2.2.2.1, true)] : List PQ))] h8 := d9
 refine wp 1 (wl (ql ?_))
 obtain rfl := oi b7
 exact ⟨(a8 ++ ([(([98, 114, 97, 110, 99, 104] : Str), a0.2.2.2.1, true)] : List PQ), e8, e9, f0), _, rfl, by kernel_rfl, (Hp.front (Hp.front d9 2 _ rfl) 2 _ rfl).kp, rfl⟩
 refine ck (ql ?_)
 obtain rfl := oi b7
 exact ⟨(a8, c4, b8, b9), _, rfl, by kernel_rfl, (Hp.front (Hp.front c9 1 _ rfl) 1 _ rfl).kp, rfl⟩
 rintro ⟨b2, c6, b4, b5⟩ k8 G ⟨d0, rfl⟩
 refine sr (wp 1 (bi hr fun f1 h9 hr => aar 71 #[] [(Vs b4 b2.length b5)] _ ent71 krf krf (K_L_header_sorted b4 b2.length b5 h9 (hG.hp0 d0) rfl (d0.rdrw 1 rfl) (d0.rwcap 1 rfl)) ?_))
 rintro _ i0 ⟨i1, f2, f3, rfl, f4⟩
 have d1 : Hp w [] [rwt aaa 46 3 i1 f2 f3 f1, blk b1 (Zz5 a0.1 a0.2.1 a0.2.2.1 a0.2.2.2.1 a2 a0.2.2.2.2.length a3) 24, rwt aaa 46 3 c6 b4 b5 b2] i0 := Hp.callK (L1 := []) (L2 := [blk b1 (Zz5 a0.1 a0.2.1 a0.2.2.1 a0.2.2.2.1 a2 a0.2.2.2.2.length a3) 24, rwt aaa 46 3 c6 b4 b5 b2]) d0 f4; clear f4
 refine bi hr fun f5 i2 hr => wc ent70 d1 (alc f2 f1.length f3 i2 (hG.hp0 d1) rfl (d1.rdrw 0 rfl) (d1.rwcap 0 rfl)) fun i3 c0 => wp 5 (nq (cs (sr (wp 1 (ahx f5.2 (0 : UInt8) krf krf ?_)))))
 refine nq (cn hr (fun i4 hr => ?_) (fun i4 hr => ?_))
 refine sr (wp 2 (nq (ct (st ?_))))
 obtain rfl := oi hr
 exact rv c0.kp
 refine ck (qn (bi hr fun i5 a7 hr => cut (σ := Str) [1, 2, 3, 4, 9] (fun c1 => [(4, (str c1))]) (fun c1 w' => Hp w [] [blk b1 (Zz5 a0.1 a0.2.1 a0.2.2.1 a0.2.2.2.1 a2 a0.2.2.2.2.length a3) 24] w' ∧ c1 = i5) ?_ ?_))
 refine sr (wp 1 (acm c0 1 b1 2 (Zz5 a0.1 a0.2.1 a0.2.2.1 a0.2.2.2.1 a2 a0.2.2.2.2.length a3) 24 (Vi .i64 a0.2.2.1) rfl rfl krf krf (wp 1 (nq (cn a7 (fun i6 a7 => ?_) (fun i6 a7 => ?_))))))
 refine cr (wp 2 (acm c0 1 b1 2 (Zz5 a0.1 a0.2.1 a0.2.2.1 a0.2.2.2.1 a2 a0.2.2.2.2.length a3) 24 (Vi .i64 a0.2.2.1) rfl rfl krf krf (gi a7 fun i7 a7 => aar 72 #[] [(Vi .i64 a0.2.2.1)] _ ent72 krf krf (sh_Itoa a0.2.2.1 i3 i7 (hG.hp0 c0)) ?_)))
 rintro _ k9 ⟨rfl, f6⟩
 have i9 := c0.call f6; clear f6
 refine gi a7 fun j0 a7 => agc ([58] : Str) (Lib.itoa a0.2.2.1) krf krf j0 (gi a7 fun j1 a7 => agc y4.1 (([58] : Str) ++ (Lib.itoa a0.2.2.1)) krf krf j1 (wp 1 (wl (ql ?_))))
 obtain rfl := oi a7
 exact ⟨y4.1 ++ (([58] : Str) ++ (Lib.itoa a0.2.2.1)), _, rfl, by kernel_rfl, (Hp.front i9 1 _ rfl).kp, rfl⟩
 refine ck (ql ?_)
 obtain rfl := oi a7
 exact ⟨y4.1, _, rfl, by kernel_rfl, (Hp.front c0 1 _ rfl).kp, rfl⟩
 rintro c1 l0 G ⟨e0, rfl⟩
 refine sr (wp 1 (acm e0 0 b1 0 (Zz5 a0.1 a0.2.1 a0.2.2.1 a0.2.2.2.1 a2 a0.2.2.2.2.length a3) 24 (str a0.1) rfl rfl krf krf (bi hr fun d2 j2 hr => wc ent52 e0 (aff j2 (hG.hp0 e0)) fun l1 j3 => gi hr fun j4 hr => agc ([83, 73, 80, 47, 50, 46, 48, 47] : Str) d2 krf krf j4 (gi hr fun j5 hr => agc (([83, 73, 80, 47, 50, 46, 48, 47] : Str) ++ d2) ([32] : Str) krf krf j5 ?_))))
 refine wp 1 (gi hr fun j6 hr => agc ((([83, 73, 80, 47, 50, 46, 48, 47] : Str) ++ d2) ++ ([32] : Str)) c1 krf krf j6 (wp 1 (gi hr fun j7 hr => agc (((([83, 73, 80, 47, 50, 46, 48, 47] : Str) ++ d2) ++ ([32] : Str)) ++ c1) f5.1 krf krf j7 (wp 2 (nq (ct ?_))))))
 obtain rfl := oi hr
 exact rv j3.kp
theorem K_L_ref02_Lower {fu : Nat} {s_0 : Str} {w : World} {r : Str} (hr : ajq fu s_0 = some r) (hG : Gl w) : CR prog 27 [(str s_0)] w fun v w' => v = (str r) ∧ Hp w [] [] w' := by
 have hH := Hp.refl w
 refine enter (k := 35) func27 rfl rfl nbe ?_
 unfold ajq at hr
 refine sr (wp 1 (nq (sr (wp 1 (w_tobytes hH s_0 5 underlying9 underlying92 underlying5 krf fun a1 cap2 w3 b2 => wp 1 ?_)))))
 refine nq (bi hr fun b1 b3 hr => cut (σ := Str) [2, 3] (fun a8 => []) (fun a8 w' => Hp w [] [brow (Vs a1 s_0.length cap2) s_0.length a8] w' ∧ a8 = b1) ?_ ?_)
 refine sr (wp 1 (nq (ce (lpG (σ := Nat × Str × Int) [2, 3, 4] (fun ⟨a6, a2, a0⟩ => [(4, (Vi .i64 a0))]) (fun ⟨a6, a2, a0⟩ w' => Hp w [] [brow (Vs a1 s_0.length cap2) s_0.length a2] w' ∧ afk fu s_0 a6 a2 a0 = some b1) (fun ⟨a6, a2, a0⟩ => a6) (fu, s_0, (0 : Int)) (by exact ⟨b2.kp, b3⟩) ?_))))
 rintro ⟨_ | a6, a2, a0⟩ d0 G ⟨a5, a3⟩
 · exact nzz a3
 rw [afk.eq_2] at a3
 refine cs (sr (wp 4 (nq (cd a3 (fun b4 a3 => ?_) (fun b4 a3 => ?_)))))
 refine ck (qn (cs (ce (bi a3 fun b5 a4 a3 => ait a5 [2, 3, 4, 24] [(24, (Vb b5))] ?_ ?_))))
 refine cr (wp 2 (gi a4 fun b6 a4 => ahq a1 s_0.length cap2 5 1 .i64 a0 underlying92 krf krf krf a2 (a5.browlen 0 rfl).symm b6 (Rd.ofbytes (a5.rdbrow 0 rfl)) alj (by decide) (gi a4 fun b7 a4 => w_ldE1 a1 eB a2 1 a0 alj (Rd.ofbytes (a5.rdbrow 0 rfl)) (bt (at_ a2 a0)) b7 (by decide) krf krf krf (amz (at_ a2 a0) (65 : UInt8) krf krf (wd a4 (fun b8 a4 => ?_) (fun b8 a4 => ?_))))))
 refine wp 2 (gy 18 (gi a4 fun b9 a4 => ahq a1 s_0.length cap2 5 1 .i64 a0 underlying92 krf krf krf a2 (a5.browlen 0 rfl).symm b9 (Rd.ofbytes (a5.rdbrow 0 rfl)) alj (by decide) (gy 18 (gi a4 fun c0 a4 => w_ldE1 a1 eB a2 1 a0 alj (Rd.ofbytes (a5.rdbrow 0 rfl)) (bt (at_ a2 a0)) c0 (by decide) krf krf krf (gy 18 (amy (at_ a2 a0) (90 : UInt8) krf krf (wp 1 ?_)))))))
 refine wl (ql ?_)
 obtain rfl := oi a4
 exact je a5.kp
 refine wp 6 (wl (ql ?_))
 obtain rfl := oi a4
 exact je a5.kp
 intro d1 G a7
 refine cb a3 (fun c1 a3 => ?_) (fun c1 a3 => ?_)
 refine cr (wp 4 (gi a3 fun c2 a3 => ahq a1 s_0.length cap2 5 1 .i64 a0 underlying92 krf krf krf a2 (a7.browlen 0 rfl).symm c2 (Rd.ofbytes (a7.rdbrow 0 rfl)) alj (by decide) (gi a3 fun c3 a3 => w_ldE1 a1 eB a2 1 a0 alj (Rd.ofbytes (a7.rdbrow 0 rfl)) (bt (at_ a2 a0)) c3 (by decide) krf krf krf (w8_add (at_ a2 a0) (32 : UInt8) krf krf (gi a3 fun c4 a3 => ahq a1 s_0.length cap2 5 1 .i64 a0 underlying92 krf krf krf a2 (a7.browlen 0 rfl).symm c4 (Rd.ofbytes (a7.rdbrow 0 rfl)) alj (by decide) (gi a3 fun c5 a3 => ?_))))))
 refine w_stB a7 0 a1 s_0.length cap2 a0 a2 ((at_ a2 a0) + (32 : UInt8)) rfl c5 krf krf krf fun c6 a9 => ?_
 replace a9 : Hp w [] [brow (Vs a1 s_0.length cap2) s_0.length (zae a2 (zac a0) ((at_ a2 a0) + (32 : UInt8)))] c6 := a9
 refine wl (bn (qn (cr (wp 1 (gi a3 fun c7 a3 => aak a0 (1 : Int) krf krf c7 (wp 1 (wl (ql ?_))))))))
 exact ⟨(a6, zae a2 (zac a0) ((at_ a2 a0) + (32 : UInt8)), a0 + (1 : Int)), _, rfl, by kernel_rfl, ⟨a9.kp, a3⟩, zad _⟩
 refine ck (bn (qn (cr (wp 1 (gi a3 fun c8 a3 => aak a0 (1 : Int) krf krf c8 (wp 1 (wl (ql ?_))))))))
 exact ⟨(a6, a2, a0 + (1 : Int)), _, rfl, by kernel_rfl, ⟨a7.kp, a3⟩, zad _⟩
 refine acw (acv (adf (acx (ql ?_))))
 obtain rfl := oi a3
 exact ⟨a2, _, rfl, by kernel_rfl, a5.kp, rfl⟩
 rintro a8 c9 G ⟨b0, rfl⟩
 refine sr (wp 1 (aew (v := (str a8)) (w' := c9) rfl rfl (x_tostr a8 a1 s_0.length cap2 5 (Rd.bytes (Rd.ofbytes (b0.rdbrow 0 rfl))) (b0.browlen 0 rfl) underlying92 underlying9 underlying5 krf) (wp 1 (nq (ct ?_)))))
 obtain rfl := oi hr
 exact rv b0.kp
theorem aop {fu : Nat} {a1 : (Str × Str × Int × Str × (List PQ))} (a2 : Option Addr) (d7 : Nat) (a3 : Nat) {w : World} {r : Bool} (hr : ahg fu a1 = some r) (hG : Gl w) (e8 : d7 = a1.2.2.2.2.length) (b9 : Rd w a2 (zak aaa a1.2.2.2.2)) (e9 : d7 ≤ a3) : CR prog 6 [(zan #[(str a1.1), (str a1.2.1), (Vi .i64 a1.2.2.1), (str a1.2.2.2.1), (Vs a2 d7 a3)])] w fun v w' => v = (Vb r) ∧ Hp w [] [] w' := by
 subst e8
 have hH := Hp.refl w
 refine enter (k := 149) func6 rfl rfl nbe ?_
 unfold ahg at hr
 refine sr (aes hH (Zz5 a1.1 a1.2.1 a1.2.2.1 a1.2.2.2.1 a2 a1.2.2.2.2.length a3) 24 (fun b => (Vp (some ⟨b, 0, none⟩))) rfl rfl krf fun b1 w2 c0 => wp 1 (nq (cs (sr (wp 1 ?_)))))
 refine acm c0 0 b1 4 (Zz5 a1.1 a1.2.1 a1.2.2.1 a1.2.2.2.1 a2 a1.2.2.2.2.length a3) 24 (Vs a2 a1.2.2.2.2.length a3) rfl rfl krf krf (wp 2 (nq (cd hr (fun h4 hr => ?_) (fun h4 hr => ?_))))
 refine sr (bi hr fun y5 f0 hr => wc ent14 c0 (amt f0 (hG.hp0 c0)) fun w7 f1 => wp 1 (nq (ct (st ?_))))
 obtain rfl := oi hr
 exact rv f1.kp
 refine ck (qn (sr (amh c0 0 b1 0 5 (Zz5 a1.1 a1.2.1 a1.2.2.1 a1.2.2.2.1 a2 a1.2.2.2.2.length a3) (Zz5 a1.1 a1.2.1 a1.2.2.1 a1.2.2.2.1 a2 a1.2.2.2.2.length a3) 24 rfl rfl rfl krf krf krf (bi hr fun d8 f2 hr => wc ent17 c0 (amu a2 a1.2.2.2.2.length a3 f2 (hG.hp0 c0) rfl (b9.hp c0) e9) fun k4 c1 => wp 5 (nq ?_)))))
 refine cs (sr (wp 1 (ahx d8.2 (0 : UInt8) krf krf (nq (cn hr (fun f3 hr => ?_) (fun f3 hr => ?_))))))
 refine bi hr fun f4 b2 hr => ait c1 [1, 2, 3] [(2, (Vb f4))] ?_ ?_
 refine cr (wp 1 (aee d8.2 (2 : UInt8) krf krf (wd b2 (fun f5 b2 => ?_) (fun f5 b2 => ?_))))
 refine wp 3 (wd b2 (fun f6 b2 => ?_) (fun f6 b2 => ?_))
 refine gy 33 (bi b2 fun k5 f7 b2 => wc ent14 c1 (amt f7 (hG.hp0 c1)) fun k6 f8 => wp 2 (wl (ql ?_)))
 obtain rfl := oi b2
 exact je f8.kp
 refine wp 3 (wl (ql ?_))
 obtain rfl := oi b2
 exact je c1.kp
 refine wp 7 (wl (ql ?_))
 obtain rfl := oi b2
 exact je c1.kp
 intro k7 G f9
 refine ct (st ?_)
 obtain rfl := oi hr
 exact rv f9.kp
 refine ck (qn (sr (wp 1 (bi hr fun a0 g0 hr => aar 15 #[] [(str d8.1)] _ ent15 krf krf (K_L_header_Via g0 (hG.hp0 c1)) ?_))))
 rintro _ g1 ⟨d9, a4, a5, rfl, e4⟩
 have g2 : Hp w [] [rwt aaa 46 3 d9 a4 a5 a0.1.2.2.2.2, blk b1 (Zz5 a1.1 a1.2.1 a1.2.2.1 a1.2.2.2.1 a2 a1.2.2.2.2.length a3) 24] g1 := Hp.callK (L1 := []) (L2 := [blk b1 (Zz5 a1.1 a1.2.1 a1.2.2.1 a1.2.2.2.1 a2 a1.2.2.2.2.length a3) 24]) c1 e4; clear e4
 refine wp 3 (aes g2 (Zz7) 24 (fun b => (Vp (some ⟨b, 0, none⟩))) rfl rfl krf fun a6 k8 g3 => ahm g3 0 a6 0 (Zz7) (Zz5 a0.1.1 a0.1.2.1 a0.1.2.2.1 a0.1.2.2.2.1 a4 a0.1.2.2.2.2.length a5) 24 [blk a6 (Zz5 a0.1.1 a0.1.2.1 a0.1.2.2.1 a0.1.2.2.2.1 a4 a0.1.2.2.2.2.length a5) 24, rwt aaa 46 3 d9 a4 a5 a0.1.2.2.2.2, blk b1 (Zz5 a1.1 a1.2.1 a1.2.2.1 a1.2.2.2.1 a2 a1.2.2.2.2.length a3) 24] rfl nbe krf krf rfl krf rfl fun k9 e0 => wp 1 (nq (sr (wp 1 (acm e0 2 b1 1 (Zz5 a1.1 a1.2.1 a1.2.2.1 a1.2.2.2.1 a2 a1.2.2.2.2.length a3) 24 (str a1.2.1) rfl rfl krf krf ?_)))))
 refine bi hr fun b3 g4 hr => wc ent26 e0 (aga g4 (hG.hp0 e0)) fun l0 c2 => wp 5 (nq (cs (bi hr fun g5 a8 hr => ait c2 [1, 2, 3, 5, 81] [(81, (Vb g5))] ?_ ?_)))
 by_cases b6 : a0.2 = (0 : UInt8)
 replace a8 := ift b6 a8
 rcases Bool.eq_false_or_eq_true (!b3.2) with b7 | b7
 replace a8 := cft b7 a8
 refine cdr 32 c2 (aba (adg acu)) fun l1 g6 => rp 31 [0] (rt 1 (Vb (!decide (a0.2 = (0 : UInt8)))) rfl rfl (aaz rfl (by intro w hS_; exact (x8_neq a0.2 (0 : UInt8) krf krf))) (rt 2 (Vb false) rfl rfl (aaz rfl (by intro w hS_; exact Eq.trans (b := Result.ok (Next.value (.bool (!decide (a0.2 = (0 : UInt8))))) w) krf (congrArg (fun b => Result.ok (Next.value (.bool b)) w) (by rw [decide_eq_true b6]; rfl)))) (rp 26 [3, 4, 5] (rt 6 (Vb true) rfl rfl (aaz rfl (by intro w hS_; exact Eq.trans (b := Result.ok (Next.value (.bool (!b3.2))) w) krf (congrArg (fun b => Result.ok (Next.value (.bool b)) w) b7))) (rp 1 [7, 8, 9, 10, 11, 12, 13, 14, 15, 16, 17, 18, 19, 20, 21, 22, 23, 24, 25, 26, 27, 28, 30, 31] (ro 29 rfl (wp 1 (wl ?_))))))))
 refine acg (by exact trivial) (adl krf (wp 3 (wl (ql ?_))))
 obtain rfl := oi a8
 exact je (Hp.front (Hp.front (Hp.front g6 2 _ rfl) 2 _ rfl) 2 _ rfl).kp
 replace a8 := cff b7 a8
 by_cases c6 : a0.1.2.1 = b3.1
 replace a8 := ift c6 a8
 by_cases d0 : a0.1.2.2.1 = a1.2.2.1
 replace a8 := ift d0 a8
 by_cases d3 : a0.1.2.2.2.1 = a1.2.2.2.1
 replace a8 := ift d3 a8
 refine bi a8 fun l2 g7 a8 => aen 32 (fun j_ w_ w_' => abh (Zz18) (fun w' => w'.heap[a6]? = some (.cells (Zz5 a0.1.1 a0.1.2.1 a0.1.2.2.1 a0.1.2.2.2.1 a4 a0.1.2.2.2.2.length a5).toArray 24 (0, 0))) j_ w_ w_' ∧ abh (Zz13) (fun w' => w'.heap[a6]? = some (.cells (Zz5 a0.1.1 a0.1.2.1 a0.1.2.2.1 a0.1.2.2.2.1 a4 a0.1.2.2.2.2.length a5).toArray 24 (0, 0))) j_ w_ w_' ∧ abh (Zz13) (fun w' => w'.heap[b1]? = some (.cells (Zz5 a1.1 a1.2.1 a1.2.2.1 a1.2.2.2.1 a2 a1.2.2.2.2.length a3).toArray 24 (0, 0))) j_ w_ w_' ∧ abh (Zz29) (fun w' => w'.heap[a6]? = some (.cells (Zz5 a0.1.1 a0.1.2.1 a0.1.2.2.1 a0.1.2.2.2.1 a4 a0.1.2.2.2.2.length a5).toArray 24 (0, 0))) j_ w_ w_' ∧ abh (Zz29) (fun w' => w'.heap[b1]? = some (.cells (Zz5 a1.1 a1.2.1 a1.2.2.1 a1.2.2.2.1 a2 a1.2.2.2.2.length a3).toArray 24 (0, 0))) j_ w_ w_' ∧ abh [29, 32, 33, 34] (fun w' => w'.heap[a6]? = some (.cells (Zz5 a0.1.1 a0.1.2.1 a0.1.2.2.1 a0.1.2.2.2.1 a4 a0.1.2.2.2.2.length a5).toArray 24 (0, 0))) j_ w_ w_' ∧ abh [32, 33, 34] (fun w' => w'.heap[b1]? = some (.cells (Zz5 a1.1 a1.2.1 a1.2.2.1 a1.2.2.2.1 a2 a1.2.2.2.2.length a3).toArray 24 (0, 0))) j_ w_ w_' ∧ True) (Zz14) (fun _ _ => ⟨abh.same, abh.same, abh.same, abh.same, abh.same, abh.same, abh.same, trivial⟩) krf krf c2 rfl (aba (adg acu)) fun l3 b4 => rp 31 [0] (rt 1 (Vb (!decide (a0.2 = (0 : UInt8)))) rfl rfl (aaz rfl (by intro w hS_; exact (x8_neq a0.2 (0 : UInt8) krf krf))) (rt 2 (Vb false) rfl rfl (aaz rfl (by intro w hS_; exact Eq.trans (b := Result.ok (Next.value (.bool (!decide (a0.2 = (0 : UInt8))))) w) krf (congrArg (fun b => Result.ok (Next.value (.bool b)) w) (by rw [decide_eq_true b6]; rfl)))) (rp 26 [3, 4, 5] (rt 6 (Vb false) rfl rfl (aaz rfl (by intro w hS_; exact Eq.trans (b := Result.ok (Next.value (.bool (!b3.2))) w) krf (congrArg (fun b => Result.ok (Next.value (.bool b)) w) b7))) (rp 24 [7] (aau (Zz21) 8 55 (str a0.1.2.1) (Zz18) (fun _ _ _ h => h.1) _ rfl rfl krf krf krf krf krf rfl (agf 53 krf krf krf (by intro w hS_; exact (age a6 1 (Zz5 a0.1.1 a0.1.2.1 a0.1.2.2.1 a0.1.2.2.2.1 a4 a0.1.2.2.2.2.length a5) 24 (str a0.1.2.1) hS_ rfl krf krf))) (by exact b4.blkAt 0 rfl) (rp 20 [9, 10, 11] ?_)))))))
 refine rt 12 (Vb false) rfl rfl (aaz rfl (by intro w hS_; exact Eq.trans (b := Result.ok (Next.value (.bool (!decide (a0.1.2.1 = b3.1)))) w) krf (congrArg (fun b => Result.ok (Next.value (.bool b)) w) (by rw [decide_eq_true c6]; rfl)))) (rp 18 [13] (aau (Zz32) 14 61 (Vi .i64 a0.1.2.2.1) (Zz13) (fun _ _ _ h => h.2.1) _ rfl rfl krf krf krf krf krf rfl (agf 59 krf krf krf (by intro w hS_; exact (age a6 2 (Zz5 a0.1.1 a0.1.2.1 a0.1.2.2.1 a0.1.2.2.2.1 a4 a0.1.2.2.2.2.length a5) 24 (Vi .i64 a0.1.2.2.1) hS_ rfl krf krf))) (by exact b4.blkAt 0 rfl) (rp 16 [15] (aau (Zz34) 16 63 (Vi .i64 a1.2.2.1) (Zz13) (fun _ _ _ h => h.2.2.1) _ rfl rfl krf krf krf krf krf rfl (agf 59 krf krf krf (by intro w hS_; exact (age b1 2 (Zz5 a1.1 a1.2.1 a1.2.2.1 a1.2.2.2.1 a2 a1.2.2.2.2.length a3) 24 (Vi .i64 a1.2.2.1) hS_ rfl krf krf))) (by exact b4.blkAt 2 rfl) (rp 13 [17, 18] (rt 19 (Vb false) rfl rfl (aaz rfl (by intro w hS_; exact Eq.trans (b := Result.ok (Next.value (.bool (!decide (a0.1.2.2.1 = a1.2.2.1)))) w) krf (congrArg (fun b => Result.ok (Next.value (.bool b)) w) (by rw [decide_eq_true d0]; rfl)))) (rp 11 [20] (aau (Zz54) 21 68 (str a0.1.2.2.2.1) (Zz29) (fun _ _ _ h => h.2.2.2.1) _ rfl rfl krf krf krf krf krf rfl (agf 66 krf krf krf (by intro w hS_; exact (age a6 3 (Zz5 a0.1.1 a0.1.2.1 a0.1.2.2.1 a0.1.2.2.2.1 a4 a0.1.2.2.2.2.length a5) 24 (str a0.1.2.2.2.1) hS_ rfl krf krf))) (by exact b4.blkAt 0 rfl) (rp 9 [22] ?_)))))))))
 refine aau (Zz55) 23 70 (str a1.2.2.2.1) (Zz29) (fun _ _ _ h => h.2.2.2.2.1) _ rfl rfl krf krf krf krf krf rfl (agf 66 krf krf krf (by intro w hS_; exact (age b1 3 (Zz5 a1.1 a1.2.1 a1.2.2.1 a1.2.2.2.1 a2 a1.2.2.2.2.length a3) 24 (str a1.2.2.2.1) hS_ rfl krf krf))) (by exact b4.blkAt 2 rfl) (rp 6 [24, 25] (rt 26 (Vb false) rfl rfl (aaz rfl (by intro w hS_; exact Eq.trans (b := Result.ok (Next.value (.bool (!decide (a0.1.2.2.2.1 = a1.2.2.2.1)))) w) krf (congrArg (fun b => Result.ok (Next.value (.bool b)) w) (by rw [decide_eq_true d3]; rfl)))) (rp 4 [27] (aau [true, true, true, true, true, true, true, true, true, true, true, true, true, true, true, true, true, true, true, true, true, true, true, true, true, true, true, true, true, false, false, false, false, false, false] 28 75 (str a0.1.1) [29, 32, 33, 34] (fun _ _ _ h => h.2.2.2.2.2.1) _ rfl rfl krf krf krf krf krf rfl (agf 73 krf krf krf (by intro w hS_; exact (age a6 0 (Zz5 a0.1.1 a0.1.2.1 a0.1.2.2.1 a0.1.2.2.2.1 a4 a0.1.2.2.2.2.length a5) 24 (str a0.1.1) hS_ rfl krf krf))) (by exact b4.blkAt 0 rfl) (rp 2 [30] (aau [true, true, true, true, true, true, true, true, true, true, true, true, true, true, true, true, true, true, true, true, true, true, true, true, true, true, true, true, true, false, true, true, false, false, false] 31 78 (str a1.1) [32, 33, 34] (fun _ _ _ h => h.2.2.2.2.2.2.1) _ rfl rfl krf krf krf krf krf rfl (agf 73 krf krf krf (by intro w hS_; exact (age b1 0 (Zz5 a1.1 a1.2.1 a1.2.2.1 a1.2.2.2.1 a2 a1.2.2.2.2.length a3) 24 (str a1.1) hS_ rfl krf krf))) (by exact b4.blkAt 2 rfl) (ro 29 rfl (gy 73 (wc ent27 b4 (K_L_ref02_Lower g7 (hG.hp0 b4)) fun l4 e1 => ?_)))))))))
 refine wl (acg (by exact ⟨abh.out rfl, abh.out rfl, abh.out rfl, abh.out rfl, abh.out rfl, abh.out rfl, abh.new (e1.blkAt 2 rfl), trivial⟩) (adl krf (gy 73 (bi a8 fun l5 g8 a8 => wc ent27 e1 (K_L_ref02_Lower g8 (hG.hp0 e1)) fun l6 g9 => wp 2 (wl (ql ?_))))))
 obtain rfl := oi a8
 exact je (Hp.front (Hp.front (Hp.front g9 2 _ rfl) 2 _ rfl) 2 _ rfl).kp
 replace a8 := ifn d3 a8
 refine aen 32 (fun j_ w_ w_' => abh (Zz18) (fun w' => w'.heap[a6]? = some (.cells (Zz5 a0.1.1 a0.1.2.1 a0.1.2.2.1 a0.1.2.2.2.1 a4 a0.1.2.2.2.2.length a5).toArray 24 (0, 0))) j_ w_ w_' ∧ abh (Zz13) (fun w' => w'.heap[a6]? = some (.cells (Zz5 a0.1.1 a0.1.2.1 a0.1.2.2.1 a0.1.2.2.2.1 a4 a0.1.2.2.2.2.length a5).toArray 24 (0, 0))) j_ w_ w_' ∧ abh (Zz13) (fun w' => w'.heap[b1]? = some (.cells (Zz5 a1.1 a1.2.1 a1.2.2.1 a1.2.2.2.1 a2 a1.2.2.2.2.length a3).toArray 24 (0, 0))) j_ w_ w_' ∧ abh (Zz29) (fun w' => w'.heap[a6]? = some (.cells (Zz5 a0.1.1 a0.1.2.1 a0.1.2.2.1 a0.1.2.2.2.1 a4 a0.1.2.2.2.2.length a5).toArray 24 (0, 0))) j_ w_ w_' ∧ abh (Zz29) (fun w' => w'.heap[b1]? = some (.cells (Zz5 a1.1 a1.2.1 a1.2.2.1 a1.2.2.2.1 a2 a1.2.2.2.2.length a3).toArray 24 (0, 0))) j_ w_ w_' ∧ abh [29, 32, 33, 34] (fun w' => w'.heap[a6]? = some (.cells (Zz5 a0.1.1 a0.1.2.1 a0.1.2.2.1 a0.1.2.2.2.1 a4 a0.1.2.2.2.2.length a5).toArray 24 (0, 0))) j_ w_ w_' ∧ abh [32, 33, 34] (fun w' => w'.heap[b1]? = some (.cells (Zz5 a1.1 a1.2.1 a1.2.2.1 a1.2.2.2.1 a2 a1.2.2.2.2.length a3).toArray 24 (0, 0))) j_ w_ w_' ∧ True) (Zz14) (fun _ _ => ⟨abh.same, abh.same, abh.same, abh.same, abh.same, abh.same, abh.same, trivial⟩) krf krf c2 rfl (aba (adg acu)) fun l7 c7 => rp 31 [0] (rt 1 (Vb (!decide (a0.2 = (0 : UInt8)))) rfl rfl (aaz rfl (by intro w hS_; exact (x8_neq a0.2 (0 : UInt8) krf krf))) (rt 2 (Vb false) rfl rfl (aaz rfl (by intro w hS_; exact Eq.trans (b := Result.ok (Next.value (.bool (!decide (a0.2 = (0 : UInt8))))) w) krf (congrArg (fun b => Result.ok (Next.value (.bool b)) w) (by rw [decide_eq_true b6]; rfl)))) (rp 26 [3, 4, 5] (rt 6 (Vb false) rfl rfl (aaz rfl (by intro w hS_; exact Eq.trans (b := Result.ok (Next.value (.bool (!b3.2))) w) krf (congrArg (fun b => Result.ok (Next.value (.bool b)) w) b7))) (rp 24 [7] (aau (Zz21) 8 55 (str a0.1.2.1) (Zz18) (fun _ _ _ h => h.1) _ rfl rfl krf krf krf krf krf rfl (agf 53 krf krf krf (by intro w hS_; exact (age a6 1 (Zz5 a0.1.1 a0.1.2.1 a0.1.2.2.1 a0.1.2.2.2.1 a4 a0.1.2.2.2.2.length a5) 24 (str a0.1.2.1) hS_ rfl krf krf))) (by exact c7.blkAt 0 rfl) (rp 20 [9, 10, 11] (rt 12 (Vb false) rfl rfl (aaz rfl (by intro w hS_; exact Eq.trans (b := Result.ok (Next.value (.bool (!decide (a0.1.2.1 = b3.1)))) w) krf (congrArg (fun b => Result.ok (Next.value (.bool b)) w) (by rw [decide_eq_true c6]; rfl)))) ?_))))))))
 refine rp 18 [13] (aau (Zz32) 14 61 (Vi .i64 a0.1.2.2.1) (Zz13) (fun _ _ _ h => h.2.1) _ rfl rfl krf krf krf krf krf rfl (agf 59 krf krf krf (by intro w hS_; exact (age a6 2 (Zz5 a0.1.1 a0.1.2.1 a0.1.2.2.1 a0.1.2.2.2.1 a4 a0.1.2.2.2.2.length a5) 24 (Vi .i64 a0.1.2.2.1) hS_ rfl krf krf))) (by exact c7.blkAt 0 rfl) (rp 16 [15] (aau (Zz34) 16 63 (Vi .i64 a1.2.2.1) (Zz13) (fun _ _ _ h => h.2.2.1) _ rfl rfl krf krf krf krf krf rfl (agf 59 krf krf krf (by intro w hS_; exact (age b1 2 (Zz5 a1.1 a1.2.1 a1.2.2.1 a1.2.2.2.1 a2 a1.2.2.2.2.length a3) 24 (Vi .i64 a1.2.2.1) hS_ rfl krf krf))) (by exact c7.blkAt 2 rfl) (rp 13 [17, 18] (rt 19 (Vb false) rfl rfl (aaz rfl (by intro w hS_; exact Eq.trans (b := Result.ok (Next.value (.bool (!decide (a0.1.2.2.1 = a1.2.2.1)))) w) krf (congrArg (fun b => Result.ok (Next.value (.bool b)) w) (by rw [decide_eq_true d0]; rfl)))) (rp 11 [20] (aau (Zz54) 21 68 (str a0.1.2.2.2.1) (Zz29) (fun _ _ _ h => h.2.2.2.1) _ rfl rfl krf krf krf krf krf rfl (agf 66 krf krf krf (by intro w hS_; exact (age a6 3 (Zz5 a0.1.1 a0.1.2.1 a0.1.2.2.1 a0.1.2.2.2.1 a4 a0.1.2.2.2.2.length a5) 24 (str a0.1.2.2.2.1) hS_ rfl krf krf))) (by exact c7.blkAt 0 rfl) (rp 9 [22] (aau (Zz55) 23 70 (str a1.2.2.2.1) (Zz29) (fun _ _ _ h => h.2.2.2.2.1) _ rfl rfl krf krf krf krf krf rfl (agf 66 krf krf krf (by intro w hS_; exact (age b1 3 (Zz5 a1.1 a1.2.1 a1.2.2.1 a1.2.2.2.1 a2 a1.2.2.2.2.length a3) 24 (str a1.2.2.2.1) hS_ rfl krf krf))) (by exact c7.blkAt 2 rfl) ?_)))))))))
 refine rp 6 [24, 25] (rt 26 (Vb true) rfl rfl (aaz rfl (by intro w hS_; exact Eq.trans (b := Result.ok (Next.value (.bool (!decide (a0.1.2.2.2.1 = a1.2.2.2.1)))) w) krf (congrArg (fun b => Result.ok (Next.value (.bool b)) w) (by rw [decide_eq_false d3]; rfl)))) (rp 1 [27, 28, 30, 31] (ro 29 rfl (wp 1 (wl (acg (by exact ⟨abh.same, abh.same, abh.same, abh.same, abh.same, abh.same, abh.same, trivial⟩) (adl krf (wp 3 (wl ?_)))))))))
 refine ql ?_
 obtain rfl := oi a8
 exact je (Hp.front (Hp.front (Hp.front c7 2 _ rfl) 2 _ rfl) 2 _ rfl).kp
 replace a8 := ifn d0 a8
 refine aen 32 (fun j_ w_ w_' => abh (Zz18) (fun w' => w'.heap[a6]? = some (.cells (Zz5 a0.1.1 a0.1.2.1 a0.1.2.2.1 a0.1.2.2.2.1 a4 a0.1.2.2.2.2.length a5).toArray 24 (0, 0))) j_ w_ w_' ∧ abh (Zz13) (fun w' => w'.heap[a6]? = some (.cells (Zz5 a0.1.1 a0.1.2.1 a0.1.2.2.1 a0.1.2.2.2.1 a4 a0.1.2.2.2.2.length a5).toArray 24 (0, 0))) j_ w_ w_' ∧ abh (Zz13) (fun w' => w'.heap[b1]? = some (.cells (Zz5 a1.1 a1.2.1 a1.2.2.1 a1.2.2.2.1 a2 a1.2.2.2.2.length a3).toArray 24 (0, 0))) j_ w_ w_' ∧ abh (Zz29) (fun w' => w'.heap[a6]? = some (.cells (Zz5 a0.1.1 a0.1.2.1 a0.1.2.2.1 a0.1.2.2.2.1 a4 a0.1.2.2.2.2.length a5).toArray 24 (0, 0))) j_ w_ w_' ∧ abh (Zz29) (fun w' => w'.heap[b1]? = some (.cells (Zz5 a1.1 a1.2.1 a1.2.2.1 a1.2.2.2.1 a2 a1.2.2.2.2.length a3).toArray 24 (0, 0))) j_ w_ w_' ∧ abh [29, 32, 33, 34] (fun w' => w'.heap[a6]? = some (.cells (Zz5 a0.1.1 a0.1.2.1 a0.1.2.2.1 a0.1.2.2.2.1 a4 a0.1.2.2.2.2.length a5).toArray 24 (0, 0))) j_ w_ w_' ∧ abh [32, 33, 34] (fun w' => w'.heap[b1]? = some (.cells (Zz5 a1.1 a1.2.1 a1.2.2.1 a1.2.2.2.1 a2 a1.2.2.2.2.length a3).toArray 24 (0, 0))) j_ w_ w_' ∧ True) (Zz14) (fun _ _ => ⟨abh.same, abh.same, abh.same, abh.same, abh.same, abh.same, abh.same, trivial⟩) krf krf c2 rfl (aba (adg acu)) fun l8 d4 => rp 31 [0] (rt 1 (Vb (!decide (a0.2 = (0 : UInt8)))) rfl rfl (aaz rfl (by intro w hS_; exact (x8_neq a0.2 (0 : UInt8) krf krf))) (rt 2 (Vb false) rfl rfl (aaz rfl (by intro w hS_; exact Eq.trans (b := Result.ok (Next.value (.bool (!decide (a0.2 = (0 : UInt8))))) w) krf (congrArg (fun b => Result.ok (Next.value (.bool b)) w) (by rw [decide_eq_true b6]; rfl)))) (rp 26 [3, 4, 5] (rt 6 (Vb false) rfl rfl (aaz rfl (by intro w hS_; exact Eq.trans (b := Result.ok (Next.value (.bool (!b3.2))) w) krf (congrArg (fun b => Result.ok (Next.value (.bool b)) w) b7))) (rp 24 [7] (aau (Zz21) 8 55 (str a0.1.2.1) (Zz18) (fun _ _ _ h => h.1) _ rfl rfl krf krf krf krf krf rfl (agf 53 krf krf krf (by intro w hS_; exact (age a6 1 (Zz5 a0.1.1 a0.1.2.1 a0.1.2.2.1 a0.1.2.2.2.1 a4 a0.1.2.2.2.2.length a5) 24 (str a0.1.2.1) hS_ rfl krf krf))) (by exact d4.blkAt 0 rfl) (rp 20 [9, 10, 11] (rt 12 (Vb false) rfl rfl (aaz rfl (by intro w hS_; exact Eq.trans (b := Result.ok (Next.value (.bool (!decide (a0.1.2.1 = b3.1)))) w) krf (congrArg (fun b => Result.ok (Next.value (.bool b)) w) (by rw [decide_eq_true c6]; rfl)))) ?_))))))))
 refine rp 18 [13] (aau (Zz32) 14 61 (Vi .i64 a0.1.2.2.1) (Zz13) (fun _ _ _ h => h.2.1) _ rfl rfl krf krf krf krf krf rfl (agf 59 krf krf krf (by intro w hS_; exact (age a6 2 (Zz5 a0.1.1 a0.1.2.1 a0.1.2.2.1 a0.1.2.2.2.1 a4 a0.1.2.2.2.2.length a5) 24 (Vi .i64 a0.1.2.2.1) hS_ rfl krf krf))) (by exact d4.blkAt 0 rfl) (rp 16 [15] (aau (Zz34) 16 63 (Vi .i64 a1.2.2.1) (Zz13) (fun _ _ _ h => h.2.2.1) _ rfl rfl krf krf krf krf krf rfl (agf 59 krf krf krf (by intro w hS_; exact (age b1 2 (Zz5 a1.1 a1.2.1 a1.2.2.1 a1.2.2.2.1 a2 a1.2.2.2.2.length a3) 24 (Vi .i64 a1.2.2.1) hS_ rfl krf krf))) (by exact d4.blkAt 2 rfl) (rp 13 [17, 18] (rt 19 (Vb true) rfl rfl (aaz rfl (by intro w hS_; exact Eq.trans (b := Result.ok (Next.value (.bool (!decide (a0.1.2.2.1 = a1.2.2.1)))) w) krf (congrArg (fun b => Result.ok (Next.value (.bool b)) w) (by rw [decide_eq_false d0]; rfl)))) (rp 1 [20, 21, 22, 23, 24, 25, 26, 27, 28, 30, 31] (ro 29 rfl (wp 1 (wl ?_)))))))))
 refine acg (by exact ⟨abh.same, abh.same, abh.same, abh.same, abh.same, abh.same, abh.same, trivial⟩) (adl krf (wp 3 (wl (ql ?_))))
 obtain rfl := oi a8
 exact je (Hp.front (Hp.front (Hp.front d4 2 _ rfl) 2 _ rfl) 2 _ rfl).kp
 replace a8 := ifn c6 a8
 refine aen 32 (fun j_ w_ w_' => abh (Zz18) (fun w' => w'.heap[a6]? = some (.cells (Zz5 a0.1.1 a0.1.2.1 a0.1.2.2.1 a0.1.2.2.2.1 a4 a0.1.2.2.2.2.length a5).toArray 24 (0, 0))) j_ w_ w_' ∧ abh (Zz13) (fun w' => w'.heap[a6]? = some (.cells (Zz5 a0.1.1 a0.1.2.1 a0.1.2.2.1 a0.1.2.2.2.1 a4 a0.1.2.2.2.2.length a5).toArray 24 (0, 0))) j_ w_ w_' ∧ abh (Zz13) (fun w' => w'.heap[b1]? = some (.cells (Zz5 a1.1 a1.2.1 a1.2.2.1 a1.2.2.2.1 a2 a1.2.2.2.2.length a3).toArray 24 (0, 0))) j_ w_ w_' ∧ abh (Zz29) (fun w' => w'.heap[a6]? = some (.cells (Zz5 a0.1.1 a0.1.2.1 a0.1.2.2.1 a0.1.2.2.2.1 a4 a0.1.2.2.2.2.length a5).toArray 24 (0, 0))) j_ w_ w_' ∧ abh (Zz29) (fun w' => w'.heap[b1]? = some (.cells (Zz5 a1.1 a1.2.1 a1.2.2.1 a1.2.2.2.1 a2 a1.2.2.2.2.length a3).toArray 24 (0, 0))) j_ w_ w_' ∧ abh [29, 32, 33, 34] (fun w' => w'.heap[a6]? = some (.cells (Zz5 a0.1.1 a0.1.2.1 a0.1.2.2.1 a0.1.2.2.2.1 a4 a0.1.2.2.2.2.length a5).toArray 24 (0, 0))) j_ w_ w_' ∧ abh [32, 33, 34] (fun w' => w'.heap[b1]? = some (.cells (Zz5 a1.1 a1.2.1 a1.2.2.1 a1.2.2.2.1 a2 a1.2.2.2.2.length a3).toArray 24 (0, 0))) j_ w_ w_' ∧ True) (Zz14) (fun _ _ => ⟨abh.same, abh.same, abh.same, abh.same, abh.same, abh.same, abh.same, trivial⟩) krf krf c2 rfl (aba (adg acu)) fun l9 e5 => rp 31 [0] (rt 1 (Vb (!decide (a0.2 = (0 : UInt8)))) rfl rfl (aaz rfl (by intro w hS_; exact (x8_neq a0.2 (0 : UInt8) krf krf))) (rt 2 (Vb false) rfl rfl (aaz rfl (by intro w hS_; exact Eq.trans (b := Result.ok (Next.value (.bool (!decide (a0.2 = (0 : UInt8))))) w) krf (congrArg (fun b => Result.ok (Next.value (.bool b)) w) (by rw [decide_eq_true b6]; rfl)))) (rp 26 [3, 4, 5] (rt 6 (Vb false) rfl rfl (aaz rfl (by intro w hS_; exact Eq.trans (b := Result.ok (Next.value (.bool (!b3.2))) w) krf (congrArg (fun b => Result.ok (Next.value (.bool b)) w) b7))) (rp 24 [7] (aau (Zz21) 8 55 (str a0.1.2.1) (Zz18) (fun _ _ _ h => h.1) _ rfl rfl krf krf krf krf krf rfl (agf 53 krf krf krf (by intro w hS_; exact (age a6 1 (Zz5 a0.1.1 a0.1.2.1 a0.1.2.2.1 a0.1.2.2.2.1 a4 a0.1.2.2.2.2.length a5) 24 (str a0.1.2.1) hS_ rfl krf krf))) (by exact e5.blkAt 0 rfl) (rp 20 [9, 10, 11] (rt 12 (Vb true) rfl rfl (aaz rfl (by intro w hS_; exact Eq.trans (b := Result.ok (Next.value (.bool (!decide (a0.1.2.1 = b3.1)))) w) krf (congrArg (fun b => Result.ok (Next.value (.bool b)) w) (by rw [decide_eq_false c6]; rfl)))) ?_))))))))
 refine rp 1 [13, 14, 15, 16, 17, 18, 19, 20, 21, 22, 23, 24, 25, 26, 27, 28, 30, 31] (ro 29 rfl (wp 1 (wl (acg (by exact ⟨abh.same, abh.same, abh.same, abh.same, abh.same, abh.same, abh.same, trivial⟩) (adl krf (wp 3 (wl (ql ?_))))))))
 obtain rfl := oi a8
 exact je (Hp.front (Hp.front (Hp.front e5 2 _ rfl) 2 _ rfl) 2 _ rfl).kp
 replace a8 := ifn b6 a8
 refine aen 32 (fun j_ w_ w_' => abh (Zz18) (fun w' => w'.heap[a6]? = some (.cells (Zz5 a0.1.1 a0.1.2.1 a0.1.2.2.1 a0.1.2.2.2.1 a4 a0.1.2.2.2.2.length a5).toArray 24 (0, 0))) j_ w_ w_' ∧ abh (Zz13) (fun w' => w'.heap[a6]? = some (.cells (Zz5 a0.1.1 a0.1.2.1 a0.1.2.2.1 a0.1.2.2.2.1 a4 a0.1.2.2.2.2.length a5).toArray 24 (0, 0))) j_ w_ w_' ∧ abh (Zz13) (fun w' => w'.heap[b1]? = some (.cells (Zz5 a1.1 a1.2.1 a1.2.2.1 a1.2.2.2.1 a2 a1.2.2.2.2.length a3).toArray 24 (0, 0))) j_ w_ w_' ∧ abh (Zz29) (fun w' => w'.heap[a6]? = some (.cells (Zz5 a0.1.1 a0.1.2.1 a0.1.2.2.1 a0.1.2.2.2.1 a4 a0.1.2.2.2.2.length a5).toArray 24 (0, 0))) j_ w_ w_' ∧ abh (Zz29) (fun w' => w'.heap[b1]? = some (.cells (Zz5 a1.1 a1.2.1 a1.2.2.1 a1.2.2.2.1 a2 a1.2.2.2.2.length a3).toArray 24 (0, 0))) j_ w_ w_' ∧ abh [29, 32, 33, 34] (fun w' => w'.heap[a6]? = some (.cells (Zz5 a0.1.1 a0.1.2.1 a0.1.2.2.1 a0.1.2.2.2.1 a4 a0.1.2.2.2.2.length a5).toArray 24 (0, 0))) j_ w_ w_' ∧ abh [32, 33, 34] (fun w' => w'.heap[b1]? = some (.cells (Zz5 a1.1 a1.2.1 a1.2.2.1 a1.2.2.2.1 a2 a1.2.2.2.2.length a3).toArray 24 (0, 0))) j_ w_ w_' ∧ True) (Zz14) (fun _ _ => ⟨abh.same, abh.same, abh.same, abh.same, abh.same, abh.same, abh.same, trivial⟩) krf krf c2 rfl (aba (adg acu)) fun m0 h0 => rp 31 [0] (rt 1 (Vb (!decide (a0.2 = (0 : UInt8)))) rfl rfl (aaz rfl (by intro w hS_; exact (x8_neq a0.2 (0 : UInt8) krf krf))) (rt 2 (Vb true) rfl rfl (aaz rfl (by intro w hS_; exact Eq.trans (b := Result.ok (Next.value (.bool (!decide (a0.2 = (0 : UInt8))))) w) krf (congrArg (fun b => Result.ok (Next.value (.bool b)) w) (by rw [decide_eq_false b6]; rfl)))) (rp 1 [3, 4, 5, 6, 7, 8, 9, 10, 11, 12, 13, 14, 15, 16, 17, 18, 19, 20, 21, 22, 23, 24, 25, 26, 27, 28, 30, 31] (ro 29 rfl (wp 1 (wl (acg (by exact ⟨abh.same, abh.same, abh.same, abh.same, abh.same, abh.same, abh.same, trivial⟩) (adl krf ?_))))))))
 refine wp 3 (wl (ql ?_))
 obtain rfl := oi a8
 exact je (Hp.front (Hp.front (Hp.front h0 2 _ rfl) 2 _ rfl) 2 _ rfl).kp
 intro m1 G e2
 refine cb hr (fun h1 hr => ?_) (fun h1 hr => ?_)
 refine sr (wp 1 (nq (ct (st ?_))))
 obtain rfl := oi hr
 exact rv e2.kp
 refine ck (qn (sr (wp 1 (nq (bi hr fun h2 h3 hr => cut1 e2 h2 [1, 2, 3, 5, 9] (fun d1 => [(9, (Vi .i64 d1))]) ?_ ?_)))))
 refine sr (wp 1 (nq (ce (lpS (fun e6 ⟨c3, a9⟩ => acq fu a1 a0 e6 c3 a9) ((0 : Int), (0 : Int)) e2 h3 [1, 2, 3, 5, 9, 10] (fun ⟨c3, a9⟩ => [(9, (Vi .i64 c3)), (10, (Vi .i64 a9))]) (fun _ => rfl) ?_))))
 rintro e6 ⟨c3, a9⟩ m2 G c4 a7
 dsimp only at a7
 rw [acq.eq_2] at a7
 refine cs (sr (wp 2 (acm c4 2 b1 4 (Zz5 a1.1 a1.2.1 a1.2.2.1 a1.2.2.2.1 a2 a1.2.2.2.2.length a3) 24 (Vs a2 a1.2.2.2.2.length a3) rfl rfl krf krf (wp 2 (nq (cd a7 (fun h5 a7 => ?_) (fun h5 a7 => ?_)))))))
 refine ck (qn (cs (ce (cs (sr (wp 1 (acm c4 2 b1 4 (Zz5 a1.1 a1.2.1 a1.2.2.1 a1.2.2.2.1 a2 a1.2.2.2.2.length a3) 24 (Vs a2 a1.2.2.2.2.length a3) rfl rfl krf krf (wp 1 ?_))))))))
 refine gi a7 fun h6 a7 => ahq a2 a1.2.2.2.2.length a3 46 3 .i64 a9 underlying22 krf krf krf a1.2.2.2.2 rfl h6 (b9.hp c4) aab (by decide) (w_fldE a2 ((a9).toNat * 3) 0 krf krf (gi a7 fun h7 a7 => w_ldF a2 aaa a1.2.2.2.2 3 a9 0 aab (b9.hp c4) (str ((el a1.2.2.2.2 a9).1)) h7 (by decide) krf krf krf (wp 1 (nq (cd a7 (fun h8 a7 => ?_) (fun h8 a7 => ?_))))))
 refine acw (acv (acx (qn (cr (wp 1 (gi a7 fun h9 a7 => aak a9 (1 : Int) krf krf h9 (wp 1 (wl ?_))))))))
 exact ql (le' (c3, a9 + (1 : Int)) (Hp.front (Hp.front (Hp.front c4 2 _ rfl) 2 _ rfl) 2 _ rfl).kp a7)
 refine ck (qn (sr (wp 1 (gi a7 fun i0 a7 => aak c3 (1 : Int) krf krf i0 (wp 1 (nq ?_))))))
 refine cs (gi a7 fun i1 a7 => gi a7 fun i2 a7 => bi a7 fun m3 i3 a7 => aen 13 (fun j_ w_ w_' => abh [8, 9, 10, 11, 12, 13] (fun w' => w'.heap[a6]? = some (.cells (Zz5 a0.1.1 a0.1.2.1 a0.1.2.2.1 a0.1.2.2.2.1 a4 a0.1.2.2.2.2.length a5).toArray 24 (0, 0))) j_ w_ w_' ∧ abh [5, 6, 7, 8, 9, 10, 11, 12, 13] (fun w' => w'.heap[b1]? = some (.cells (Zz5 a1.1 a1.2.1 a1.2.2.1 a1.2.2.2.1 a2 a1.2.2.2.2.length a3).toArray 24 (0, 0))) j_ w_ w_' ∧ abh [6, 7, 8, 9, 10, 11, 12, 13] (fun w' => Rd w' a2 (zak aaa a1.2.2.2.2)) j_ w_ w_' ∧ abh [8, 9, 10, 11, 12, 13] (fun w' => Rd w' a2 (zak aaa a1.2.2.2.2)) j_ w_ w_' ∧ True) (Zz47) (fun _ _ => ⟨abh.same, abh.same, abh.same, abh.same, trivial⟩) krf krf c4 rfl (adg (aaw (adg (aba (aaw (aba acu)))))) fun m4 b8 => rp 12 [0] (aau [true, true, false, false, false, false, false, false, false, false, false, false, false, false] 1 100 (Vs a4 a0.1.2.2.2.2.length a5) [8, 9, 10, 11, 12, 13] (fun _ _ _ h => h.1) _ rfl rfl krf krf krf krf krf rfl (aaz rfl (by intro w hS_; exact (age a6 4 (Zz5 a0.1.1 a0.1.2.1 a0.1.2.2.1 a0.1.2.2.2.1 a4 a0.1.2.2.2.2.length a5) 24 (Vs a4 a0.1.2.2.2.2.length a5) hS_ rfl krf krf))) (by exact b8.blkAt 0 rfl) (rp 10 [2] (aau [true, true, true, true, false, false, false, false, false, false, false, false, false, false] 3 102 (Vs a2 a1.2.2.2.2.length a3) [5, 6, 7, 8, 9, 10, 11, 12, 13] (fun _ _ _ h => h.2.1) _ rfl rfl krf krf krf krf krf rfl (aaz rfl (by intro w hS_; exact (age b1 4 (Zz5 a1.1 a1.2.1 a1.2.2.1 a1.2.2.2.1 a2 a1.2.2.2.2.length a3) 24 (Vs a2 a1.2.2.2.2.length a3) hS_ rfl krf krf))) (by exact b8.blkAt 2 rfl) (rp 8 [4] ?_)))))
 refine aau (Zz51) 5 104 (Vp (some (ea a2 (a9.toNat * 3)))) [6, 7, 8, 9, 10, 11, 12, 13] (fun _ _ _ h => h.2.2.1) _ rfl rfl krf krf krf krf krf rfl (aaz rfl (by intro w hS_; exact (x_ixT a2 a1.2.2.2.2.length a3 46 3 .i64 a9 underlying22 krf krf krf a1.2.2.2.2 rfl i1 hS_ aab (by decide)))) (by exact (b9.hp b8)) (rt 6 (Vp (some (ea a2 (a9.toNat * 3 + 0)))) rfl rfl (aaz rfl (by intro w hS_; exact (x_fldE a2 ((a9).toNat * 3) 0 krf krf))) (aau [true, true, true, true, true, true, true, true, false, false, false, false, false, false] 7 106 (str ((el a1.2.2.2.2 a9).1)) [8, 9, 10, 11, 12, 13] (fun _ _ _ h => h.2.2.2.1) _ rfl rfl krf krf krf krf krf rfl (aaz rfl (by intro w hS_; exact (x_ldF a2 aaa a1.2.2.2.2 3 a9 0 aab hS_ (str ((el a1.2.2.2.2 a9).1)) i2 (by decide) krf krf krf))) (by exact (b9.hp b8)) (ro 8 rfl (wc ent28 b8 (K_L_address_Get a4 a0.1.2.2.2.2.length a5 i3 (hG.hp0 b8) rfl (b8.rdrw 1 rfl) (b8.rwcap 1 rfl)) fun m5 c8 => wl (acg (by exact ⟨abh.out rfl, abh.out rfl, abh.out rfl, abh.out rfl, trivial⟩) (rp 0 [9, 10, 11, 12] (adl krf (wp 1 ?_))))))))
 refine nq (bi a7 fun i4 b5 a7 => ait c8 [1, 2, 3, 5, 9, 10, 121] [(121, (Vb i4))] ?_ ?_)
 refine cr (wp 2 (wb b5 (fun i5 b5 => ?_) (fun i5 b5 => ?_)))
 refine wp 9 (wl (ql ?_))
 obtain rfl := oi b5
 exact je (Hp.front (Hp.front (Hp.front c8 2 _ rfl) 2 _ rfl) 2 _ rfl).kp
 refine wp 2 (gy 112 (acm c8 2 b1 4 (Zz5 a1.1 a1.2.1 a1.2.2.1 a1.2.2.2.1 a2 a1.2.2.2.2.length a3) 24 (Vs a2 a1.2.2.2.2.length a3) rfl rfl krf krf (wp 1 (gy 112 (gi b5 fun i6 b5 => ahq a2 a1.2.2.2.2.length a3 46 3 .i64 a9 underlying22 krf krf krf a1.2.2.2.2 rfl i6 (b9.hp c8) aab (by decide) (gy 112 (w_fldE a2 ((a9).toNat * 3) 1 krf krf (gy 112 ?_))))))))
 refine gi b5 fun i7 b5 => w_ldF a2 aaa a1.2.2.2.2 3 a9 1 aab (b9.hp c8) (str ((el a1.2.2.2.2 a9).2.1)) i7 (by decide) krf krf krf (wp 2 (wl (ql ?_)))
 obtain rfl := oi b5
 exact je (Hp.front (Hp.front (Hp.front c8 2 _ rfl) 2 _ rfl) 2 _ rfl).kp
 intro m6 G e7
 refine cb a7 (fun i9 a7 => ?_) (fun i9 a7 => ?_)
 refine sr (wp 1 (nq (ct (bt_ (st (afg (bt_ ?_)))))))
 refine afg ?_
 obtain rfl := oi a7
 obtain rfl := oi hr
 exact rv e7.kp
 exact ck (bn (qn (cr (wp 1 (gi a7 fun j0 a7 => aak a9 (1 : Int) krf krf j0 (wp 1 (wl (ql (le' (c3 + (1 : Int), a9 + (1 : Int)) (Hp.front (Hp.front (Hp.front e7 2 _ rfl) 2 _ rfl) 2 _ rfl).kp a7)))))))))
 refine acw (acv (adf (acx (ql ?_))))
 obtain rfl := oi a7
 exact je1 rfl (Hp.front (Hp.front (Hp.front c4 2 _ rfl) 2 _ rfl) 2 _ rfl).kp
 rintro d1 m7 G e3 rfl
 refine bi hr fun j1 c5 hr => cut (σ := Int) [2, 3, 5, 9] (fun d5 => [(9, (Vi .i64 d5))]) (fun d5 w' => Hp w [] [blk a6 (Zz5 a0.1.1 a0.1.2.1 a0.1.2.2.1 a0.1.2.2.2.1 a4 a0.1.2.2.2.2.length a5) 24, rwt aaa 46 3 d9 a4 a5 a0.1.2.2.2.2] w' ∧ d5 = j1) ?_ ?_
 refine sr (wp 1 (acm e3 2 b1 3 (Zz5 a1.1 a1.2.1 a1.2.2.1 a1.2.2.2.1 a2 a1.2.2.2.2.length a3) 24 (str a1.2.2.2.1) rfl rfl krf krf (wp 1 (nq (cn c5 (fun j2 c5 => ?_) (fun j2 c5 => ?_))))))
 refine cr (wp 1 (gi c5 fun j3 c5 => aak d1 (1 : Int) krf krf j3 (wp 1 (wl (ql ?_)))))
 obtain rfl := oi c5
 exact ⟨d1 + (1 : Int), _, rfl, by kernel_rfl, (Hp.front (Hp.front e3 1 _ rfl) 1 _ rfl).kp, rfl⟩
 refine ck (ql ?_)
 obtain rfl := oi c5
 exact ⟨d1, _, rfl, by kernel_rfl, (Hp.front (Hp.front e3 1 _ rfl) 1 _ rfl).kp, rfl⟩
 rintro d5 m8 G ⟨d2, rfl⟩
 refine sr (amh d2 0 a6 0 5 (Zz5 a0.1.1 a0.1.2.1 a0.1.2.2.1 a0.1.2.2.2.1 a4 a0.1.2.2.2.2.length a5) (Zz5 a0.1.1 a0.1.2.1 a0.1.2.2.1 a0.1.2.2.2.1 a4 a0.1.2.2.2.2.length a5) 24 rfl rfl rfl krf krf krf (bi hr fun j4 j5 hr => wc ent17 d2 (amu a4 a0.1.2.2.2.2.length a5 j5 (hG.hp0 d2) rfl (d2.rdrw 1 rfl) (d2.rwcap 1 rfl)) fun m9 c9 => wp 5 (nq (bi hr fun j6 b0 hr => cut (σ := Bool) [2] (fun d6 => [(2, (Vb d6))]) (fun d6 w' => Hp w [] [] w' ∧ d6 = j6) ?_ ?_))))
 refine cr (wp 1 (acm c9 0 a6 4 (Zz5 a0.1.1 a0.1.2.1 a0.1.2.2.1 a0.1.2.2.2.1 a4 a0.1.2.2.2.2.length a5) 24 (Vs a4 a0.1.2.2.2.2.length a5) rfl rfl krf krf (wp 3 (wd b0 (fun j7 b0 => ?_) (fun j7 b0 => ?_)))))
 refine wp 1 (gy 137 (aee j4.2 (0 : UInt8) krf krf (wp 1 (wd b0 (fun j8 b0 => ?_) (fun j8 b0 => ?_)))))
 refine wp 4 (wd b0 (fun j9 b0 => ?_) (fun j9 b0 => ?_))
 refine gy 146 (bi b0 fun k0 k1 b0 => wc ent14 c9 (amt k1 (hG.hp0 c9)) fun n0 k2 => wp 2 (wl (ql ?_)))
 obtain rfl := oi b0
 exact ⟨k0, _, rfl, by kernel_rfl, k2.kp, rfl⟩
 refine wp 3 (wl (ql ?_))
 obtain rfl := oi b0
 exact ⟨false, _, rfl, by kernel_rfl, c9.kp, rfl⟩
 refine wp 8 (wl (ql ?_))
 obtain rfl := oi b0
 exact ⟨false, _, rfl, by kernel_rfl, c9.kp, rfl⟩
 refine wp 12 (wl (ql ?_))
 obtain rfl := oi b0
 exact ⟨false, _, rfl, by kernel_rfl, c9.kp, rfl⟩
 rintro d6 n1 G ⟨k3, rfl⟩
 refine ct ?_
 obtain rfl := oi hr
 exact rv k3.kp
end Go.Proofs
