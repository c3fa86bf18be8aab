/-
  The law HeaderItemBack holds, second form: for every item of at most 1048576 values and letters the call returns true; no condition beyond the statement's own (part 6 of 7).
-/
import Derived.Test.YtbfppjfgcjpknaaGreatDoorHl5
import Derived.Test.YtbfppjfgcjpknaaGreatDoorProg
set_option linter.unusedVariables false
set_option linter.unusedSimpArgs false
set_option maxRecDepth 20000
set_option maxHeartbeats 1000000
namespace Go.Proofs
open Go.Wk Go.Px
open Go.Value renaming slice → Vs, int → Vi, bool → Vb, pointer → Vp
open Go.Lib renaming indexAny → zar
open Go.Value renaming agg → zal, func → zao, tuple → zaj
open Int renaming toNat → zac
open List renaming drop → zak, flatMap → zae, take → zas
open Nat renaming lt_of_lt_of_le → zag, lt_succ_self → zad
open Tryz
theorem ent15 : Wk.Enters prog 15 := ⟨f15, _, func15, rfl, krf⟩
theorem ent25 : Wk.Enters prog 25 := ⟨f25, _, func25, rfl, krf⟩
theorem ent28 : Wk.Enters prog 28 := ⟨f28, _, func28, rfl, krf⟩
theorem ent32 : Wk.Enters prog 32 := ⟨f32, _, func32, rfl, krf⟩
theorem ent57 : Wk.Enters prog 57 := ⟨f57, _, func57, rfl, krf⟩
theorem ent58 : Wk.Enters prog 58 := ⟨f58, _, func58, rfl, krf⟩
theorem ent86 : Wk.Enters prog 86 := ⟨f86, _, func86, rfl, krf⟩
theorem ent109 : Wk.Enters prog 109 := ⟨f109, _, func109, rfl, krf⟩
theorem K_L_header_cutPort {fu : Nat} {s_0 : Str} {w : World} {r : PQ} (hr : alm fu s_0 = some r) (hG : Gl w) : CR prog 57 [(str s_0)] w fun v w' => v = (zaj #[(str r.1), (str r.2.1), (Vb r.2.2)]) ∧ Hp w [] [] w' := by
 have hH := Hp.refl w
 refine enter (k := 30) func57 rfl rfl nbe ?_
 unfold alm at hr
 refine sr (wp 3 (nq (sr (wp 1 (gi hr fun g4 hr => aas 109 #[] [(str s_0), (bt (58 : UInt8))] _ ent109 krf krf (sh_LastIndexByte s_0 (58 : UInt8) w g4) ?_)))))
 rintro _ w1 ⟨rfl, a2⟩
 have a1 := hH.call a2; clear a2
 refine wp 1 (nq (cs (bi hr fun b4 a0 hr => aij a1 [0, 2, 3, 4, 5, 21] [(21, (Vb false))] ?_ ?_)))
 refine cr (wp 2 (wd a0 (fun a4 a0 => ?_) (fun a4 a0 => ?_)))
 exact nzz a0
 refine wp 2 (gy 10 (gi a0 fun a5 a0 => aly s_0 .i64 (lixb (· == (58 : UInt8)) s_0) underlying9 krf krf a5 (gy 10 (gi a0 fun a6 a0 => aas 110 #[] [(str (zas (zac (lixb (· == (58 : UInt8)) s_0)) s_0)), (str ([91] : Str))] _ ent110 krf krf (sh_Contains (zas (zac (lixb (· == (58 : UInt8)) s_0)) s_0) ([91] : Str) w1 a6 (hG.hp0 a1)) ?_))))
 rintro _ b5 ⟨rfl, a3⟩
 have a7 := a1.call a3; clear a3
 refine gy 10 (wb a0 (fun a8 a0 => ?_) (fun a8 a0 => ?_))
 exact nzz a0
 refine wp 6 (wl (ql ?_))
 obtain rfl := oi a0
 exact je a7.kp
 intro b6 G a9
 refine amr krf (ck (qn (cs (gi hr fun b0 hr => gi hr fun b1 hr => gi hr fun b2 hr => cdr 8 a9 (adc aco) fun b7 b3 => rp 6 [0, 1] (rt 2 (str (zas (zac (lixb (· == (58 : UInt8)) s_0)) s_0)) rfl rfl (abc rfl (by intro w hS_; exact (x_slice_to s_0 .i64 (lixb (· == (58 : UInt8)) s_0) underlying9 krf krf b0))) ?_)))))
 refine rp 3 [3, 4] (rt 5 (Vi .i64 ((lixb (· == (58 : UInt8)) s_0) + (1 : Int))) rfl rfl (abc rfl (by intro w hS_; exact (ajt (lixb (· == (58 : UInt8)) s_0) (1 : Int) krf krf b1))) (rt 6 (str (zak (zac ((lixb (· == (58 : UInt8)) s_0) + (1 : Int))) s_0)) rfl rfl (abc rfl (by intro w hS_; exact (ali s_0 .i64 ((lixb (· == (58 : UInt8)) s_0) + (1 : Int)) underlying9 krf krf b2))) (rp 0 [7] (adf krf (wp 2 (nq (ct ?_)))))))
 obtain rfl := oi hr
 exact rv b3.kp
theorem K_L_lexis_Number {fu : Nat} {s_0 : Str} {w : World} {r : (Int × UInt8)} (hr : alg fu s_0 = some r) (hG : Gl w) : CR prog 58 [(str s_0)] w fun v w' => v = (zaj #[(Vi .i64 r.1), (bt r.2)]) ∧ Hp w [] [] w' := by
 have hH := Hp.refl w
 refine enter (k := 41) func58 rfl rfl nbe ?_
 unfold alg at hr
 refine sr (wp 2 (nq (cs (bi hr fun v4 a4 hr => aij hH [0, 2, 3, 13] [(13, (Vb (decide ((10 : Int) < (s_0.length : Int)))))] ?_ ?_))))
 refine cr (wp 3 (wd a4 (fun h5 a4 => ?_) (fun h5 a4 => ?_)))
 exact nzz a4
 refine wp 4 (wl (ql ?_))
 obtain rfl := oi a4
 exact je hH.kp
 intro w6 G a6
 refine cd hr (fun h8 hr => ?_) (fun h8 hr => ?_)
 exact nzz hr
 refine ck (qn (sr (wp 1 (nq (bi hr fun a8 a9 hr => aij a6 [2, 3, 4] [(4, (Vi .i64 a8))] ?_ ?_)))))
 refine sr (wp 3 (nq (ce (lpS (fun a7 ⟨a3, a1⟩ => aiu fu s_0 a7 a3 a1) ((0 : Int), (0 : Int)) a6 a9 [0, 2, 3, 4, 15, 16] (fun ⟨a3, a1⟩ => [(4, (Vi .i64 a3)), (16, (Vi .i64 a1))]) (fun _ => rfl) ?_))))
 rintro a7 ⟨a3, a1⟩ c2 G a5 a0
 dsimp only at a0
 rw [aiu.eq_2] at a0
 refine sr (wp 1 (nq (cs (cd a0 (fun b0 a0 => ?_) (fun b0 a0 => ?_)))))
 refine ck (qn (cs (ce (sr (wp 2 (nq (cs ?_)))))))
 refine bi a0 fun c3 a2 a0 => aij a5 [0, 2, 3, 4, 5, 15, 16, 28] [(28, (Vb (decide ((57 : UInt8) < (at_ s_0 a1)))))] ?_ ?_
 refine cr (wp 2 (gi a2 fun b1 a2 => aey s_0 .i64 a1 underlying9 krf krf b1 (w8_lss (at_ s_0 a1) (48 : UInt8) krf krf (wd a2 (fun b2 a2 => ?_) (fun b2 a2 => ?_)))))
 exact nzz a2
 refine wp 2 (gy 23 (gi a2 fun b3 a2 => aey s_0 .i64 a1 underlying9 krf krf b3 (gy 23 (w8_gtr (at_ s_0 a1) (57 : UInt8) krf krf (wp 1 (wl (ql ?_)))))))
 obtain rfl := oi a2
 exact je a5.kp
 intro c4 G b4
 refine cd a0 (fun b5 a0 => ?_) (fun b5 a0 => ?_)
 exact nzz a0
 refine ck (qn (cr (wp 1 (gi a0 fun b6 a0 => amq (10 : Int) a3 krf krf b6 (wp 2 (gi a0 fun b7 a0 => aey s_0 .i64 a1 underlying9 krf krf b7 (w8_sub (at_ s_0 a1) (48 : UInt8) krf krf ?_)))))))
 refine w_convx .i64 .u8 (((at_ s_0 a1) - (48 : UInt8)).toNat : Int) underlying5 underlying2 krf (wrap_u8_i64 _) (gi a0 fun b8 a0 => aap ((10 : Int) * a3) (((at_ s_0 a1) - (48 : UInt8)).toNat : Int) krf krf b8 (wp 1 (wl (bn (qn (cr (gi a0 fun b9 a0 => aap a1 (1 : Int) krf krf b9 ?_)))))))
 exact wp 1 (wl (ql (le' (((10 : Int) * a3) + (((at_ s_0 a1) - (48 : UInt8)).toNat : Int), a1 + (1 : Int)) b4.kp a0)))
 refine acq (acp (acx (acr (ql ?_))))
 obtain rfl := oi a0
 exact je a5.kp
 intro c5 G c0
 refine cs (sr (wp 2 (nq (cd hr (fun c1 hr => ?_) (fun c1 hr => ?_)))))
 exact nzz hr
 refine ck (qn (sr (wp 3 (nq (ct ?_)))))
 obtain rfl := oi hr
 exact rv c0.kp
theorem K_L_address_Get {fu : Nat} {a0 : List PQ} {a8 : Str} (a2 : Option Addr) (a4 : Nat) (a5 : Nat) {w : World} {r : (Str × Bool)} (hr : ant fu a0 a8 = some r) (hG : Gl w) (b2 : a4 = a0.length) (a9 : Rd w a2 (zae aaa a0)) (c1 : a4 ≤ a5) : CR prog 28 [(Vs a2 a4 a5), (str a8)] w fun v w' => v = (zaj #[(str r.1), (Vb r.2)]) ∧ Hp w [] [] w' := by
 subst b2
 have hH := Hp.refl w
 refine enter (k := 24) func28 rfl rfl nbe ?_
 unfold ant at hr
 refine sr (wp 2 (nq (sr (wp 1 (bi hr fun y1 b3 hr => wc ent84 hH (ade b3 (hG.hp0 hH)) fun w3 b4 => ?_)))))
 refine wp 1 (nq (cs (sr (wp 3 (nq (ce ?_))))))
 refine lpS (fun b0 (_ : Unit) => alb fu a0 y1 b0) () b4 hr [1, 4, 5, 10, 11, 12] (fun (_ : Unit) => []) (fun _ => rfl) ?_
 rintro b0 _ c2 G a6 a1
 rw [alb.eq_2] at a1
 refine sr (wp 1 (nq (cs (cd a1 (fun b5 a1 => ?_) (fun b5 a1 => ?_)))))
 refine ck (qn (cs (ce (sr (gi a1 fun b6 a1 => aiy a2 a0.length a5 46 3 .i64 (0 : Int) underlying22 krf krf krf a0 rfl b6 (a9.hp a6) aab (by decide) (gi a1 fun b7 a1 => ahv a2 aaa a0 3 (0 : Int) aab (a9.hp a6) (Zz38 a0) b7 krf krf krf krf (by decide) ?_))))))
 refine ael a6 (Zz6) 46 (fun b => (Vp (some ⟨b, 0, none⟩))) rfl rfl krf fun a3 c3 b8 => aho b8 0 a3 0 (Zz6) (Zz38 a0) 46 [blk a3 (Zz38 a0) 46] rfl nbe krf krf rfl krf rfl fun c4 a7 => nq (sr (wp 1 (acn a7 0 a3 0 (Zz38 a0) 46 (str ((el a0 (0 : Int)).1)) rfl rfl krf krf (bi a1 fun c5 b9 a1 => wc ent84 a7 (ade b9 (hG.hp0 a7)) fun c6 b1 => ?_))))
 refine wp 2 (nq (cd a1 (fun c0 a1 => ?_) (fun c0 a1 => ?_)))
 refine sr (wp 1 (acn b1 0 a3 1 (Zz38 a0) 46 (str ((el a0 (0 : Int)).2.1)) rfl rfl krf krf (wp 2 (nq (ct (bt_ (st ?_)))))))
 refine aff (bt_ (st ?_))
 obtain rfl := oi a1
 exact rv b1.kp
 exact nzz a1
 exact nzz a1
theorem K_L_header_Via {fu : Nat} {b7 : Str} {w : World} {r : ((Str × Str × Int × Str × (List PQ)) × UInt8)} (hr : L_header_Via fu b7 = some r) (hG : Gl w) : CR prog 15 [(str b7)] w fun v w' => ∃ (o0 : Option Nat), ∃ (a0 : Option Addr), ∃ (cap0 : Nat), v = (zaj #[(zal #[(str r.1.1), (str r.1.2.1), (Vi .i64 r.1.2.2.1), (str r.1.2.2.2.1), (Vs a0 r.1.2.2.2.2.length cap0)]), (bt r.2)]) ∧ Hp w [] [rwt aaa 46 3 o0 a0 cap0 r.1.2.2.2.2] w' := by
 have hH := Hp.refl w
 refine enter (k := 120) func15 rfl rfl nbe ?_
 unfold L_header_Via at hr
 refine sr (ael hH (Zz11) 24 (fun b => (Vp (some ⟨b, 0, none⟩))) rfl rfl krf fun b1 w2 b8 => wp 1 (nq (sr (wp 1 (bi hr fun y4 d4 hr => ?_)))))
 refine wc ent51 b8 (aje d4 (hG.hp0 b8)) fun w6 b6 => wp 1 (nq (cs (bi hr fun d5 b0 hr => aij b6 [0, 2, 3, 30] [(30, (Vb d5))] ?_ ?_)))
 refine cr (wp 3 (wd b0 (fun d6 b0 => ?_) (fun d6 b0 => ?_)))
 exact nzz b0
 refine wp 1 (gy 25 (gi b0 fun d7 b0 => aly y4 .i64 (8 : Int) underlying9 krf krf d7 (gy 25 (bi b0 fun h3 d8 b0 => wc ent52 b6 (agf d8 (hG.hp0 b6)) fun h4 d9 => wp 2 (wl (ql ?_))))))
 obtain rfl := oi b0
 exact je d9.kp
 intro h5 G b9
 refine cb hr (fun e0 hr => ?_) (fun e0 hr => ?_)
 exact nzz hr
 refine ck (qn (sr (wp 1 (bi hr fun c0 e1 hr => wc ent54 b9 (ahc e1 (hG.hp0 b9)) fun h6 c1 => wp 1 (nq ?_)))))
 refine sr (wp 2 (bi hr fun a7 e2 hr => wc ent55 c1 (akb e2 (hG.hp0 c1)) fun h7 c2 => wp 1 (nq (cs (bi hr fun h8 b3 hr => aij c2 [0, 2, 3, 4, 5, 43] [(43, (Vb (decide (a7 = c0))))] ?_ ?_)))))
 refine cr (wp 2 (wd b3 (fun e3 b3 => ?_) (fun e3 b3 => ?_)))
 exact nzz b3
 refine wp 4 (wl (ql ?_))
 obtain rfl := oi b3
 exact je c2.kp
 intro h9 G c3
 refine cd hr (fun e4 hr => ?_) (fun e4 hr => ?_)
 exact nzz hr
 refine ck (qn (sr (wp 2 (gi hr fun e5 hr => w_slice y4 .i64 .i64 (8 : Int) c0 underlying9 krf krf krf e5 (bi hr fun a1 e6 hr => wc ent52 c3 (agf e6 (hG.hp0 c3)) fun i0 e7 => wp 1 ?_)))))
 refine ael e7 (Zz11) 24 (fun b => (Vp (some ⟨b, 0, none⟩))) rfl rfl krf fun a8 i1 e8 => aho e8 0 a8 0 (Zz11) (Zz64 a1) 24 [blk a8 (Zz64 a1) 24, blk b1 (Zz11) 24] rfl nbe krf krf rfl krf rfl fun e9 c4 => nq (sr (wp 2 (gi hr fun f0 hr => aja y4 .i64 a7 underlying9 krf krf f0 (wp 2 ?_))))
 refine nq (cs (sr (wp 1 (gi hr fun f1 hr => aas 56 #[] [(str (zak (zac a7) y4)), (str ([59, 32, 9] : Str))] _ ent56 krf krf (sh_IndexAnyW (zak (zac a7) y4) ([59, 32, 9] : Str) e9 f1 (hG.hp0 c4)) ?_))))
 rintro _ i2 ⟨rfl, c5⟩
 have f2 := c4.call c5; clear c5
 refine wp 1 (nq (sr (wp 2 (nq (cd hr (fun f3 hr => ?_) (fun f3 hr => ?_))))))
 refine gi hr fun f4 hr => gi hr fun f5 hr => cdr 7 f2 (adc aco) fun i3 c6 => rp 5 [0, 1] (rt 2 (str (zas (zac (zar (zak (zac a7) y4) ([59, 32, 9] : Str))) (zak (zac a7) y4))) rfl rfl (abc rfl (by intro w hS_; exact (x_slice_to (zak (zac a7) y4) .i64 (zar (zak (zac a7) y4) ([59, 32, 9] : Str)) underlying9 krf krf f4))) (rp 2 [3, 4] (rt 5 (str (zak (zac (zar (zak (zac a7) y4) ([59, 32, 9] : Str))) (zak (zac a7) y4))) rfl rfl (abc rfl (by intro w hS_; exact (ali (zak (zac a7) y4) .i64 (zar (zak (zac a7) y4) ([59, 32, 9] : Str)) underlying9 krf krf f5))) (rp 0 [6] (adf krf (wp 1 ?_))))))
 refine nq (sr (wp 1 (bi hr fun i4 f6 hr => wc ent57 c6 (K_L_header_cutPort f6 (hG.hp0 c6)) fun i5 c7 => wp 7 (nq ?_))))
 refine sr (wp 1 (bi hr fun a3 f7 hr => wc ent26 c7 (ags f7 (hG.hp0 c7)) fun i6 f8 => wp 5 (nq (cs (cs ?_)))))
 refine cr (wp 2 (nq (cb hr (fun f9 hr => ?_) (fun f9 hr => ?_))))
 exact nzz hr
 refine ck (qn (sr (wp 2 (agu f8 0 a8 1 (Zz64 a1) 24 (str a3.1) [blk a8 [(str a1), (str a3.1), (Vi .i64 (0 : Int)), (str ([] : Str)), (Vs none 0 0)] 24, blk b1 (Zz11) 24] rfl (zag (zad _) nbe) krf krf rfl krf rfl fun i7 c8 => nq (cs (cs ?_))))))
 refine cr (wp 1 (nq (cb hr (fun g0 hr => ?_) (fun g0 hr => ?_))))
 refine sr (wp 1 (bi hr fun a2 g1 hr => wc ent58 c8 (K_L_lexis_Number g1 (hG.hp0 c8)) fun i9 c9 => wp 5 (nq (cs (bi hr fun j0 b2 hr => aij c9 [2, 3, 6, 8, 15, 16, 94] [(94, (Vb (decide ((65535 : Int) < a2.1))))] ?_ ?_)))))
 refine cr (wp 1 (ady a2.2 (0 : UInt8) krf krf (wd b2 (fun g2 b2 => ?_) (fun g2 b2 => ?_))))
 refine wp 2 (gy 87 (wd b2 (fun g3 b2 => ?_) (fun g3 b2 => ?_)))
 exact nzz b2
 refine wp 4 (wl (ql ?_))
 obtain rfl := oi b2
 exact je (Hp.front (Hp.front c9 1 _ rfl) 1 _ rfl).kp
 exact nzz b2
 intro j1 G g4
 refine cd hr (fun g5 hr => ?_) (fun g5 hr => ?_)
 exact nzz hr
 refine ck (qn (cs (sr (wp 1 (ahi a2.2 (0 : UInt8) krf krf (nq (cn hr (fun g6 hr => ?_) (fun g6 hr => ?_))))))))
 exact nzz hr
 refine ck (qn (cr (wp 2 (agu g4 0 a8 2 [(str a1), (str a3.1), (Vi .i64 (0 : Int)), (str ([] : Str)), (Vs none 0 0)] 24 (Vi .i64 a2.1) [blk a8 (Zz63 a1 a3.1 a2.1) 24, blk b1 (Zz11) 24] rfl (zag (zad _) nbe) krf krf rfl krf rfl fun j2 d0 => nq (sr (wp 1 ?_))))))
 refine bi hr fun a4 g7 hr => aas 59 #[] [(str (zak (zac (zar (zak (zac a7) y4) ([59, 32, 9] : Str))) (zak (zac a7) y4)))] _ ent59 krf krf (akr g7 (hG.hp0 d0)) ?_
 rintro _ g8 ⟨b4, a5, a6, rfl, d1⟩
 have g9 : Hp w [] [rwt aaa 46 3 b4 a5 a6 a4.1, blk a8 (Zz63 a1 a3.1 a2.1) 24, blk b1 (Zz11) 24] g8 := Hp.callK (L1 := []) (L2 := [blk a8 (Zz63 a1 a3.1 a2.1) 24, blk b1 (Zz11) 24]) d0 d1; clear d1
 refine wp 7 (nq (cs (sr (wp 1 (ahi a4.2.2 (0 : UInt8) krf krf (nq (cn hr (fun h0 hr => ?_) (fun h0 hr => ?_))))))))
 exact nzz hr
 refine ck (qn (sr (wp 2 (agu g9 1 a8 4 (Zz63 a1 a3.1 a2.1) 24 (Vs a5 a4.1.length a6) [rwt aaa 46 3 b4 a5 a6 a4.1, blk a8 [(str a1), (str a3.1), (Vi .i64 a2.1), (str ([] : Str)), (Vs a5 a4.1.length a6)] 24, blk b1 (Zz11) 24] rfl (zag (zad _) nbe) krf krf rfl krf rfl fun j3 b5 => nq (sr ?_)))))
 refine wp 1 (bi hr fun a9 h1 hr => wc ent28 b5 (K_L_address_Get a5 a4.1.length a6 h1 (hG.hp0 b5) rfl (b5.rdrw 0 rfl) (b5.rwcap 0 rfl)) fun j4 h2 => wp 4 (agu h2 1 a8 3 [(str a1), (str a3.1), (Vi .i64 a2.1), (str ([] : Str)), (Vs a5 a4.1.length a6)] 24 (str a9.1) [rwt aaa 46 3 b4 a5 a6 a4.1, blk a8 (Zz34 a1 a3.1 a2.1 a9.1 a5 a4.1.length a6) 24, blk b1 (Zz11) 24] rfl (zag (zad _) nbe) krf krf rfl krf rfl fun j5 d2 => nq (sr (ami d2 1 a8 0 5 (Zz34 a1 a3.1 a2.1 a9.1 a5 a4.1.length a6) (Zz34 a1 a3.1 a2.1 a9.1 a5 a4.1.length a6) 24 rfl rfl rfl krf krf krf ?_))))
 refine aho d2 2 b1 0 (Zz11) (Zz34 a1 a3.1 a2.1 a9.1 a5 a4.1.length a6) 24 [rwt aaa 46 3 b4 a5 a6 a4.1, blk a8 (Zz34 a1 a3.1 a2.1 a9.1 a5 a4.1.length a6) 24, blk b1 (Zz34 a1 a3.1 a2.1 a9.1 a5 a4.1.length a6) 24] rfl nbe krf krf rfl krf rfl fun j6 d3 => wp 1 (nq (ct ?_))
 obtain rfl := oi hr
 refine ani _ [(zal #[(str a1), (str a3.1), (Vi .i64 a2.1), (str a9.1), (Vs a5 a4.1.length a6)]), (bt (0 : UInt8))] (zaj #[(zal #[(str a1), (str a3.1), (Vi .i64 a2.1), (str a9.1), (Vs a5 a4.1.length a6)]), (bt (0 : UInt8))]) rfl rfl (abs (ahy d3 2 b1 24 (Zz34 a1 a3.1 a2.1 a9.1 a5 a4.1.length a6) rfl krf krf krf) (abs (afe krf) agj)) rfl ?_
 exact ⟨b4, a5, a6, (by first | rfl | (simp; done) | (simp; omega)), d3.kp⟩
 exact nzz hr
 exact nzz hr
theorem K_L_header_numbered {fu : Nat} {s_0 : Str} {w : World} {r : (Int × Str × UInt8)} (hr : aky fu s_0 = some r) (hG : Gl w) : CR prog 86 [(str s_0)] w fun v w' => v = (zaj #[(Vi .i64 r.1), (str r.2.1), (bt r.2.2)]) ∧ Hp w [] [] w' := by
 have hH := Hp.refl w
 refine enter (k := 28) func86 rfl rfl nbe ?_
 unfold aky at hr
 refine sr (wp 3 (nq (sr (wp 1 (gi hr fun g4 hr => aas 56 #[] [(str s_0), (str ([32, 9] : Str))] _ ent56 krf krf (sh_IndexAnyW s_0 ([32, 9] : Str) w g4 (hG.hp0 hH)) ?_)))))
 rintro _ w1 ⟨rfl, a0⟩
 have a1 := hH.call a0; clear a0
 refine wp 1 (nq (cs (sr (wp 2 (nq (cd hr (fun h6 hr => ?_) (fun h6 hr => ?_)))))))
 exact nzz hr
 refine ck (qn (sr (wp 2 (gi hr fun g7 hr => aly s_0 .i64 (zar s_0 ([32, 9] : Str)) underlying9 krf krf g7 (bi hr fun y8 a4 hr => wc ent58 a1 (K_L_lexis_Number a4 (hG.hp0 a1)) fun a9 a5 => wp 5 ?_)))))
 refine nq (cs (bi hr fun a2 a6 hr => gi hr fun a7 hr => cdr 9 a5 (adc aco) fun b0 a3 => rp 4 [0, 1, 2, 3, 6] (ro 4 rfl (wc ent55 a3 (akb a6 (hG.hp0 a3)) fun b1 a8 => wl ?_))))
 refine ack (by exact trivial) (rt 5 (str (zak (zac a2) s_0)) rfl rfl (abc rfl (by intro w hS_; exact (ali s_0 .i64 a2 underlying9 krf krf a7))) (rp 0 [7, 8] (adf krf (wp 1 (nq (ct ?_))))))
 obtain rfl := oi hr
 exact rv a8.kp
theorem K_L_header_CSeq {fu : Nat} {a0 : Str} {w : World} {r : (Int × Str × UInt8)} (hr : ans fu a0 = some r) (hG : Gl w) : CR prog 32 [(str a0)] w fun v w' => v = (zaj #[(Vi .i64 r.1), (str r.2.1), (bt r.2.2)]) ∧ Hp w [] [] w' := by
 have hH := Hp.refl w
 refine enter (k := 23) func32 rfl rfl nbe ?_
 unfold ans at hr
 refine sr (wp 3 (nq (sr (wp 1 (bi hr fun y1 a3 hr => wc ent51 hH (aje a3 (hG.hp0 hH)) fun w3 a1 => ?_)))))
 refine bi hr fun y6 a4 hr => wc ent86 a1 (K_L_header_numbered a4 (hG.hp0 a1)) fun w8 a2 => wp 7 (nq (cs (sr (wp 1 (ahi y6.2.2 (0 : UInt8) krf krf ?_)))))
 refine nq (cn hr (fun a5 hr => ?_) (fun a5 hr => ?_))
 exact nzz hr
 refine ck (qn (cs (sr (wp 1 (bi hr fun a9 a6 hr => wc ent69 a2 (afw a6 (hG.hp0 a2)) fun b0 a7 => wp 1 (wl ?_))))))
 refine qn (cb hr (fun a8 hr => ?_) (fun a8 hr => ?_))
 exact nzz hr
 refine ck (qn (sr (wp 5 (nq (ct ?_)))))
 obtain rfl := oi hr
 exact rv a7.kp
theorem amf {fu : Nat} {w : World} {r : Bool} (hr : aji fu = some r) (hG : Gl w) : CR prog 14 [] w fun v w' => v = (Vb r) ∧ Hp w [] [] w' := by
 have hH := Hp.refl w
 refine enter (k := 77) func14 rfl rfl nbe ?_
 unfold aji at hr
 refine sr (wp 1 (nq (sr (bi hr fun y1 b3 hr => wc ent34 hH (K_L_header_Canon b3 (hG.hp0 hH)) fun w3 a7 => wp 5 ?_))))
 refine nq (sr (bi hr fun y6 b4 hr => wc ent25 a7 (K_L_header_Tidy b4 (hG.hp0 a7)) fun w8 a8 => wp 5 (nq (cs ?_))))
 refine cr (bi hr fun a1 b5 hr => aas 15 #[] [(str ([115, 105, 112, 47, 50, 46, 48, 47, 117, 100, 112, 32, 104, 58, 53, 48, 54, 48, 59, 98, 114, 97, 110, 99, 104, 61, 122, 57] : Str))] _ ent15 krf krf (K_L_header_Via b5 (hG.hp0 a8)) ?_)
 rintro _ b6 ⟨a9, a2, a3, rfl, b0⟩
 have b7 : Hp w [] (Zz8 a9 a2 a3 a1.1.2.2.2.2) b6 := Hp.callK (L1 := []) (L2 := []) a8 b0; clear b0
 refine wp 3 (ael b7 (Zz11) 24 (fun b => (Vp (some ⟨b, 0, none⟩))) rfl rfl krf fun a4 d3 b8 => aho b8 0 a4 0 (Zz11) (Zz34 a1.1.1 a1.1.2.1 a1.1.2.2.1 a1.1.2.2.2.1 a2 a1.1.2.2.2.2.length a3) 24 [blk a4 (Zz34 a1.1.1 a1.1.2.1 a1.1.2.2.1 a1.1.2.2.2.1 a2 a1.1.2.2.2.2.length a3) 24, rwt aaa 46 3 a9 a2 a3 a1.1.2.2.2.2] rfl nbe krf krf rfl krf rfl fun d4 b1 => wp 1 (nq (sr (bi hr fun b2 b9 hr => wc ent32 b1 (K_L_header_CSeq b9 (hG.hp0 b1)) fun d5 a5 => ?_))))
 refine wp 7 (nq (bi hr fun c0 a0 hr => cut (σ := Unit) [0] (fun a6 => [(0, (Vb (decide (b2.2.2 = (0 : UInt8)))))]) (fun a6 w' => Hp w [] [] w' ∧ a6 = c0) ?_ ?_))
 refine cr (wp 1 (ady y1.2 (0 : UInt8) krf krf (wd a0 (fun c1 a0 => ?_) (fun c1 a0 => ?_))))
 refine wp 3 (wd a0 (fun c2 a0 => ?_) (fun c2 a0 => ?_))
 refine wp 1 (gy 33 (ady y6.2 (0 : UInt8) krf krf (wp 1 (wd a0 (fun c3 a0 => ?_) (fun c3 a0 => ?_)))))
 refine wp 3 (wd a0 (fun c4 a0 => ?_) (fun c4 a0 => ?_))
 refine wp 1 (gy 41 (ady a1.2 (0 : UInt8) krf krf (wp 1 (wd a0 (fun c5 a0 => ?_) (fun c5 a0 => ?_)))))
 refine wp 1 (gy 45 (acn a5 0 a4 0 (Zz34 a1.1.1 a1.1.2.1 a1.1.2.2.1 a1.1.2.2.2.1 a2 a1.1.2.2.2.2.length a3) 24 (str a1.1.1) rfl rfl krf krf (wp 2 (wd a0 (fun c6 a0 => ?_) (fun c6 a0 => ?_)))))
 refine wp 1 (gy 50 (acn a5 0 a4 1 (Zz34 a1.1.1 a1.1.2.1 a1.1.2.2.1 a1.1.2.2.2.1 a2 a1.1.2.2.2.2.length a3) 24 (str a1.1.2.1) rfl rfl krf krf (wp 2 (wd a0 (fun c7 a0 => ?_) (fun c7 a0 => ?_)))))
 refine wp 1 (gy 55 (acn a5 0 a4 2 (Zz34 a1.1.1 a1.1.2.1 a1.1.2.2.1 a1.1.2.2.2.1 a2 a1.1.2.2.2.2.length a3) 24 (Vi .i64 a1.1.2.2.1) rfl rfl krf krf (wp 2 (wd a0 (fun c8 a0 => ?_) (fun c8 a0 => ?_)))))
 refine wp 1 (gy 60 (acn a5 0 a4 3 (Zz34 a1.1.1 a1.1.2.1 a1.1.2.2.1 a1.1.2.2.2.1 a2 a1.1.2.2.2.2.length a3) 24 (str a1.1.2.2.2.1) rfl rfl krf krf (wp 2 (wd a0 (fun c9 a0 => ?_) (fun c9 a0 => ?_)))))
 refine wp 3 (wd a0 (fun d0 a0 => ?_) (fun d0 a0 => ?_))
 refine wp 3 (wd a0 (fun d1 a0 => ?_) (fun d1 a0 => ?_))
 refine wp 1 (gy 73 (ady b2.2.2 (0 : UInt8) krf krf (wp 2 (wl (ql ?_)))))
 obtain rfl := oi a0
 exact ⟨(), _, rfl, by kernel_rfl, a5.kp, rfl⟩
 exact nzz a0
 exact nzz a0
 exact nzz a0
 exact nzz a0
 exact nzz a0
 exact nzz a0
 exact nzz a0
 exact nzz a0
 exact nzz a0
 exact nzz a0
 exact nzz a0
 rintro a6 d6 G ⟨d2, rfl⟩
 refine ct ?_
 obtain rfl := oi hr
 exact rv d2.kp
theorem anu {fu : Nat} {s_0 : List PQ} (a0 : Option Addr) (a2 : Nat) (a1 : Nat) {w : World} {r : List PQ} (hr : afu fu s_0 = some r) (hG : Gl w) (a3 : a2 = s_0.length) (a5 : Rd w a0 (zae aaa s_0)) (a6 : a2 ≤ a1) : CR prog 129 [(Vs a0 a2 a1)] w fun v w' => ∃ (b0 : Nat), v = (zao (.func 186) #[] #[(Vp (some ⟨b0, 0, none⟩))]) ∧ Hp w [] [blk b0 [(Vs a0 s_0.length a1)] 22] w' := by
 subst a3
 have hH := Hp.refl w
 refine enter (k := 4) func129 rfl rfl nbe ?_
 unfold afu at hr
 refine sr (ael hH [(Vs a0 s_0.length a1)] 22 (fun b => (Vp (some ⟨b, 0, none⟩))) rfl rfl krf fun b1 w2 a4 => wp 1 (nq (sr (wp 2 (wl ?_)))))
 refine qn (ct ?_)
 obtain rfl := oi hr
 refine r_one (zao (.func 186) #[] #[(Vp (some ⟨b1, 0, none⟩))]) rfl krf ?_
 exact ⟨b1, (by first | rfl | (simp; done) | (simp; omega)), a4.kp⟩
open List renaming flatMap → zae, length_take → zah, set → zaf
theorem ent130 : Wk.Enters prog 130 := ⟨f130, _, func130, rfl, krf⟩
theorem ent186 : Wk.Enters prog 186 := ⟨f186, _, func186, rfl, krf⟩
theorem ent218 : Wk.Enters prog 218 := ⟨f218, _, func218, rfl, krf⟩
theorem afg {fu : Nat} {a3 : List PQ} {a1 : List PQ} (a4 : Nat) (a8 : Loop) (a9 : Nat) (b6 : Option Nat) (a5 : Option Addr) (a6 : Nat) (b1 : Nat) (a7 : Option Addr) (d2 : Nat) (b0 : Nat) {w : World} {r : ((List PQ) × Nat)} (hr : abg fu a3 a1 = some r) (hG : Gl w) (e0 : d2 = a1.length) (d3 : Rd w a7 (zae aaa a1)) (f4 : d2 ≤ b0) (hM : Hp w (abf [afo a4 0 a8, blk a9 [(Vs a5 a3.length a6)] 22, blk b1 [(Vs a7 a1.length b0)] 22, rwt aaa 46 3 b6 a5 a6 a3]) [afo a4 0 a8, blk a9 [(Vs a5 a3.length a6)] 22, blk b1 [(Vs a7 a1.length b0)] 22, rwt aaa 46 3 b6 a5 a6 a3] w) (hS : ∀ b ∈ abf [afo a4 0 a8, blk a9 [(Vs a5 a3.length a6)] 22, blk b1 [(Vs a7 a1.length b0)] 22, rwt aaa 46 3 b6 a5 a6 a3], 9 ≤ b) (d4 : zae aaa a1 ≠ [] → ∀ p, a7 = some p → p.block ∉ abf [afo a4 0 a8, blk a9 [(Vs a5 a3.length a6)] 22, blk b1 [(Vs a7 a1.length b0)] 22, rwt aaa 46 3 b6 a5 a6 a3]) (e1 : ∀  (c4 : PQ) (c1 : List PQ) (d5 : Option Nat) (c5 : Option Addr) (c6 : Nat) (w_ : World), Hp w (abf [afo a4 0 a8, blk a9 [(Vs a5 a3.length a6)] 22, blk b1 [(Vs a7 a1.length b0)] 22, rwt aaa 46 3 b6 a5 a6 a3]) [afo a4 0 a8, blk a9 [(Vs c5 c1.length c6)] 22, rwt aaa 46 3 d5 c5 c6 c1] w_ → ∀ (yr : (Nat × (List PQ))), acl fu c4 c1 = some yr → YR prog a4 [(zal #[(str c4.1), (str c4.2.1), (Vb c4.2.2)])] w_ fun v e2 => ∃ (e3 : Option Nat), ∃ (d6 : Option Addr), ∃ (rcap0 : Nat), v = Vb (decide (yr.1 = 0)) ∧ Hp w_ (abf [afo a4 0 a8, blk a9 [(Vs c5 c1.length c6)] 22, rwt aaa 46 3 d5 c5 c6 c1]) [afo a4 yr.1 a8, blk a9 [(Vs d6 yr.2.length rcap0)] 22, rwt aaa 46 3 e3 d6 rcap0 yr.2] e2) : CR prog 186 [(zao (.yield a4) #[] #[]), (Vp (some ⟨b1, 0, none⟩))] w fun v w' => ∃ (o0 : Option Nat), ∃ (a0 : Option Addr), ∃ (cap0 : Nat), v = (zaj #[]) ∧ Hp w (abf [afo a4 0 a8, blk a9 [(Vs a5 a3.length a6)] 22, blk b1 [(Vs a7 a1.length b0)] 22, rwt aaa 46 3 b6 a5 a6 a3]) [blk a9 [(Vs a0 r.1.length cap0)] 22, blk b1 [(Vs a7 a1.length b0)] 22, rwt aaa 46 3 o0 a0 cap0 r.1, afo a4 r.2 a8] w' := by
 subst e0
 have hH : Hp w (abf [afo a4 0 a8, blk a9 [(Vs a5 a3.length a6)] 22, blk b1 [(Vs a7 a1.length b0)] 22, rwt aaa 46 3 b6 a5 a6 a3]) [afo a4 0 a8, blk a9 [(Vs a5 a3.length a6)] 22, blk b1 [(Vs a7 a1.length b0)] 22, rwt aaa 46 3 b6 a5 a6 a3] w := hM
 refine enterF (k := 16) func186 rfl rfl nbe ?_
 unfold abg at hr
 refine sr (acn hH 2 b1 0 [(Vs a7 a1.length b0)] 22 (Vs a7 a1.length b0) rfl rfl krf krf (wp 2 (nq (ce (lpG (σ := Nat × Int × (List PQ) × (Option Nat) × (Option Addr) × Nat) [0, 5, 6, 7] (fun ⟨c0, a2, b2, b7, b3, b4⟩ => [(7, (Vi .i64 a2))]) (fun ⟨c0, a2, b2, b7, b3, b4⟩ w' => Hp w (abf [afo a4 0 a8, blk a9 [(Vs a5 a3.length a6)] 22, blk b1 [(Vs a7 a1.length b0)] 22, rwt aaa 46 3 b6 a5 a6 a3]) [afo a4 0 a8, blk a9 [(Vs b3 b2.length b4)] 22, blk b1 [(Vs a7 a1.length b0)] 22, rwt aaa 46 3 b7 b3 b4 b2] w' ∧ aaf fu a1 c0 a2 b2 = some r) (fun ⟨c0, a2, b2, b7, b3, b4⟩ => c0) (fu, (0 : Int), a3, b6, a5, a6) (by exact ⟨(Hp.front (Hp.front (Hp.front (Hp.front hH 3 _ rfl) 3 _ rfl) 3 _ rfl) 3 _ rfl).kp, hr⟩) ?_)))))
 rintro ⟨_ | c0, a2, b2, b7, b3, b4⟩ f5 G ⟨c7, b5⟩
 · exact nzz b5
 rw [aaf.eq_2] at b5
 refine sr (wp 1 (nq (cs (cd b5 (fun e4 b5 => ?_) (fun e4 b5 => ?_)))))
 refine ck (qn (cs (ce (sr (gi b5 fun e5 b5 => aiy a7 a1.length b0 46 3 .i64 a2 underlying22 krf krf krf a1 rfl e5 (d3.hpN c7 d4) aab (by decide) (gi b5 fun e6 b5 => ahv a7 aaa a1 3 a2 aab (d3.hpN c7 d4) (Zz3 a1 a2) e6 krf krf krf krf (by decide) ?_))))))
 refine ael c7 (Zz6) 46 (fun b => (Vp (some ⟨b, 0, none⟩))) rfl rfl krf fun b8 f6 e7 => aho e7 0 b8 0 (Zz6) (Zz3 a1 a2) 46 [blk b8 (Zz3 a1 a2) 46, afo a4 0 a8, blk a9 [(Vs b3 b2.length b4)] 22, blk b1 [(Vs a7 a1.length b0)] 22, rwt aaa 46 3 b7 b3 b4 b2] rfl nbe krf krf rfl krf rfl fun c2 d7 => nq (sr (wp 1 (ami d7 0 b8 0 3 (Zz3 a1 a2) (Zz3 a1 a2) 46 rfl rfl rfl krf krf krf (bi b5 fun b9 e8 b5 => ?_))))
 have e9 : Hp w (abf [afo a4 0 a8, blk a9 [(Vs a5 a3.length a6)] 22, blk b1 [(Vs a7 a1.length b0)] 22, rwt aaa 46 3 b6 a5 a6 a3]) [rwt aaa 46 3 b7 b3 b4 b2, blk b8 (Zz3 a1 a2) 46, afo a4 0 a8, blk a9 [(Vs b3 b2.length b4)] 22, blk b1 [(Vs a7 a1.length b0)] 22] c2 := d7.front 4 _ rfl
 have f0 : Hp w (abf [afo a4 0 a8, blk a9 [(Vs a5 a3.length a6)] 22, blk b1 [(Vs a7 a1.length b0)] 22, rwt aaa 46 3 b6 a5 a6 a3]) [blk a9 [(Vs b3 b2.length b4)] 22, rwt aaa 46 3 b7 b3 b4 b2, blk b8 (Zz3 a1 a2) 46, afo a4 0 a8, blk b1 [(Vs a7 a1.length b0)] 22] c2 := e9.front 3 _ rfl
 have d8 : Hp w (abf [afo a4 0 a8, blk a9 [(Vs a5 a3.length a6)] 22, blk b1 [(Vs a7 a1.length b0)] 22, rwt aaa 46 3 b6 a5 a6 a3]) [afo a4 0 a8, blk a9 [(Vs b3 b2.length b4)] 22, rwt aaa 46 3 b7 b3 b4 b2, blk b8 (Zz3 a1 a2) 46, blk b1 [(Vs a7 a1.length b0)] 22] c2 := f0.front 3 _ rfl
 have f1 : Hp w (abf [afo a4 0 a8, blk a9 [(Vs a5 a3.length a6)] 22, blk b1 [(Vs a7 a1.length b0)] 22, rwt aaa 46 3 b6 a5 a6 a3]) [afo a4 0 a8, blk a9 [(Vs b3 b2.length b4)] 22, rwt aaa 46 3 b7 b3 b4 b2] c2 := Hp.keep (L1 := [afo a4 0 a8, blk a9 [(Vs b3 b2.length b4)] 22, rwt aaa 46 3 b7 b3 b4 b2]) (L2 := [blk b8 (Zz3 a1 a2) 46, blk b1 [(Vs a7 a1.length b0)] 22]) d8
 refine w_yield a4 [(zal #[(str ((el a1 a2).1)), (str ((el a1 a2).2.1)), (Vb ((el a1 a2).2.2))])] _ krf krf (e1 ((el a1 a2).1, (el a1 a2).2.1, ((el a1 a2).2.2)) b2 b7 b3 b4 c2 f1 b9 e8) ?_
 rintro _ f2 ⟨d0, c8, c9, rfl, d9⟩
 have d1 : Hp w (abf [afo a4 0 a8, blk a9 [(Vs a5 a3.length a6)] 22, blk b1 [(Vs a7 a1.length b0)] 22, rwt aaa 46 3 b6 a5 a6 a3]) [afo a4 b9.1 a8, blk a9 [(Vs c8 b9.2.length c9)] 22, rwt aaa 46 3 d0 c8 c9 b9.2, blk b8 (Zz3 a1 a2) 46, blk b1 [(Vs a7 a1.length b0)] 22] f2 := Hp.callK (L1 := [afo a4 0 a8, blk a9 [(Vs b3 b2.length b4)] 22, rwt aaa 46 3 b7 b3 b4 b2]) (L2 := [blk b8 (Zz3 a1 a2) 46, blk b1 [(Vs a7 a1.length b0)] 22]) d8 d9; clear d9
 by_cases c3 : b9.1 = 0
 replace b5 := ift c3 b5
 rw [c3] at d1
 rw [show decide (b9.1 = 0) = true from (decide_eq_true c3)]
 refine wp 1 (nq (amr krf (ck (bn (qn (cr (gi b5 fun f3 b5 => aap a2 (1 : Int) krf krf f3 ?_)))))))
 refine wp 1 (wl (ql ?_))
 exact ⟨(c0, a2 + (1 : Int), b9.2, d0, c8, c9), _, rfl, by kernel_rfl, ⟨(Hp.front (Hp.front (Hp.front (Hp.front d1 2 _ rfl) 4 _ rfl) 3 _ rfl) 3 _ rfl).kp, b5⟩, zad _⟩
 replace b5 := ifn c3 b5
 rw [show decide (b9.1 = 0) = false from (decide_eq_false c3)]
 refine wp 1 (nq (c_true krf (ct (bt_ (st (aff (bt_ ?_)))))))
 obtain rfl := oi b5
 refine r_none  rfl  ?_
 exact ⟨d0, c8, c9, (by first | rfl | (simp; done) | (simp; omega)), (Hp.front (Hp.front (Hp.front d1 2 _ rfl) 4 _ rfl) 3 _ rfl).kp⟩
 refine acq (acp (acx (acr ?_)))
 obtain rfl := oi b5
 refine ahp  rfl  ?_
 exact ⟨b7, b3, b4, (by first | rfl | (simp; done) | (simp; omega)), (Hp.front (Hp.front (Hp.front c7 3 _ rfl) 3 _ rfl) 3 _ rfl).kp⟩
theorem ajn {fu : Nat} {s_0 : List PQ} {a4 : List PQ} (a9 : Option Nat) (a2 : Option Addr) (a3 : Nat) (a5 : Nat) (a6 : Option Addr) (d2 : Nat) (a7 : Nat) {w : World} {r : List PQ} (hr : ads fu s_0 a4 = some r) (hG : Gl w) (e1 : d2 = a4.length) (d3 : Rd w a6 (zae aaa a4)) (e2 : d2 ≤ a7) (hM : Hp w (abf [blk a5 [(Vs a6 a4.length a7)] 22, rwt aaa 46 3 a9 a2 a3 s_0]) [blk a5 [(Vs a6 a4.length a7)] 22, rwt aaa 46 3 a9 a2 a3 s_0] w) (hS : ∀ b ∈ abf [blk a5 [(Vs a6 a4.length a7)] 22, rwt aaa 46 3 a9 a2 a3 s_0], 9 ≤ b) (d4 : zae aaa a4 ≠ [] → ∀ p, a6 = some p → p.block ∉ abf [blk a5 [(Vs a6 a4.length a7)] 22, rwt aaa 46 3 a9 a2 a3 s_0]) : CR prog 218 [(Vs a2 s_0.length a3), (zao (.func 186) #[] #[(Vp (some ⟨a5, 0, none⟩))])] w fun v w' => ∃ (o0 : Option Nat), ∃ (a0 : Option Addr), ∃ (cap0 : Nat), v = (Vs a0 r.length cap0) ∧ Hp w (abf [blk a5 [(Vs a6 a4.length a7)] 22, rwt aaa 46 3 a9 a2 a3 s_0]) [blk a5 [(Vs a6 a4.length a7)] 22, rwt aaa 46 3 o0 a0 cap0 r] w' := by
 subst e1
 have hH : Hp w (abf (Zz53 a5 a6 a4.length a7 a9 a2 a3 s_0)) (Zz53 a5 a6 a4.length a7 a9 a2 a3 s_0) w := hM
 refine enterM (k := 13) func218 rfl rfl nbe ?_
 unfold ads at hr
 refine sr (ael hH [(Vs a2 s_0.length a3)] 22 (fun b => (Vp (some ⟨b, 0, none⟩))) rfl rfl krf fun b1 w2 e3 => wp 1 (nq (cs (sr (wp 1 ?_)))))
 refine nq (ce (c_rangeFunc e3 186 (Zz33 a5) krf ent186 fun b5 l4 b0 c0 e4 e5 e6 e7 e8 => bi hr fun b4 e9 hr => ?_))
 have f0 : Hp w (abf (Zz53 a5 a6 a4.length a7 a9 a2 a3 s_0)) [rwt aaa 46 3 a9 a2 a3 s_0, afo l4 0 b0, dfr b5, blk b1 [(Vs a2 s_0.length a3)] 22, blk a5 [(Vs a6 a4.length a7)] 22] c0 := e8.front 4 _ rfl
 have f1 : Hp w (abf (Zz53 a5 a6 a4.length a7 a9 a2 a3 s_0)) [blk a5 [(Vs a6 a4.length a7)] 22, rwt aaa 46 3 a9 a2 a3 s_0, afo l4 0 b0, dfr b5, blk b1 [(Vs a2 s_0.length a3)] 22] c0 := f0.front 4 _ rfl
 have f2 : Hp w (abf (Zz53 a5 a6 a4.length a7 a9 a2 a3 s_0)) [blk b1 [(Vs a2 s_0.length a3)] 22, blk a5 [(Vs a6 a4.length a7)] 22, rwt aaa 46 3 a9 a2 a3 s_0, afo l4 0 b0, dfr b5] c0 := f1.front 4 _ rfl
 have b9 : Hp w (abf (Zz53 a5 a6 a4.length a7 a9 a2 a3 s_0)) [afo l4 0 b0, blk b1 [(Vs a2 s_0.length a3)] 22, blk a5 [(Vs a6 a4.length a7)] 22, rwt aaa 46 3 a9 a2 a3 s_0, dfr b5] c0 := f2.front 3 _ rfl
 have HY6 : ∀  (a1 : PQ) (a8 : List PQ) (b8 : Option Nat) (b2 : Option Addr) (b3 : Nat) (w_ : World), Hp c0 (abf [afo l4 0 b0, blk b1 [(Vs a2 s_0.length a3)] 22, blk a5 [(Vs a6 a4.length a7)] 22, rwt aaa 46 3 a9 a2 a3 s_0]) [afo l4 0 b0, blk b1 [(Vs b2 a8.length b3)] 22, rwt aaa 46 3 b8 b2 b3 a8] w_ → ∀ (yr : (Nat × (List PQ))), acl fu a1 a8 = some yr → YR prog l4 [(zal #[(str a1.1), (str a1.2.1), (Vb a1.2.2)])] w_ fun v f3 => ∃ (f4 : Option Nat), ∃ (d5 : Option Addr), ∃ (rcap0 : Nat), v = Vb (decide (yr.1 = 0)) ∧ Hp w_ (abf [afo l4 0 b0, blk b1 [(Vs b2 a8.length b3)] 22, rwt aaa 46 3 b8 b2 b3 a8]) [afo l4 yr.1 b0, blk b1 [(Vs d5 yr.2.length rcap0)] 22, rwt aaa 46 3 f4 d5 rcap0 yr.2] f3 := by
  intro a1 a8 b8 b2 b3 c7 c4 yr hyr
  have hH0_ := Hp.callK (L1 := [afo l4 0 b0, blk b1 [(Vs a2 s_0.length a3)] 22, blk a5 [(Vs a6 a4.length a7)] 22, rwt aaa 46 3 a9 a2 a3 s_0]) (L2 := [dfr b5]) b9 c4
  have hG0_ := hG; replace hG := hG.hp hH0_ hS
  have hS_ := Hp.highs hH0_ hG0_ hS 3 rfl
  unfold acl at hyr
  refine yr_intro (Hp.hand (L1 := [afo l4 0 b0, blk b1 [(Vs b2 a8.length b3)] 22, rwt aaa 46 3 b8 b2 b3 a8]) (L2 := []) (by simpa using c4)) 0 rfl e4 e5 e6 e7 rfl ?_
  have hH : Hp c7 (abf [afo l4 0 b0, blk b1 [(Vs b2 a8.length b3)] 22, rwt aaa 46 3 b8 b2 b3 a8]) [afo l4 0 b0, blk b1 [(Vs b2 a8.length b3)] 22, rwt aaa 46 3 b8 b2 b3 a8] c7 := Hp.hand (L1 := [afo l4 0 b0, blk b1 [(Vs b2 a8.length b3)] 22, rwt aaa 46 3 b8 b2 b3 a8]) (L2 := []) (by simpa using c4)
  clear hH0_ c4
  refine cr (ael hH (Zz6) 46 (fun b => (Vp (some ⟨b, 0, none⟩))) rfl rfl krf fun c1 g4 f5 => aho f5 0 c1 0 (Zz6) (Zz37 a1.1 a1.2.1 a1.2.2) 46 [blk c1 (Zz37 a1.1 a1.2.1 a1.2.2) 46, afo l4 0 b0, blk b1 [(Vs b2 a8.length b3)] 22, rwt aaa 46 3 b8 b2 b3 a8] rfl nbe krf krf rfl krf rfl fun g5 f6 => wl (asg_next f6 1 rfl fun g6 c8 => ce (cr (acn c8 2 b1 0 [(Vs b2 a8.length b3)] 22 (Vs b2 a8.length b3) rfl rfl krf krf (ami c8 0 c1 0 3 (Zz37 a1.1 a1.2.1 a1.2.2) (Zz37 a1.1 a1.2.1 a1.2.2) 46 rfl rfl rfl krf krf krf (ael c8 (Zz37 a1.1 a1.2.1 a1.2.2) 46 (fun b => (Vs (some ⟨b, 0, none⟩) 1 1)) rfl rfl krf fun c5 g7 d6 => ?_))))))
  refine gi hyr fun f7 hyr => aez d6 4 b8 b2 (some ⟨c5, 0, none⟩) b3 1 46 3 40 a8 ([a1] : List PQ) aab rfl underlying22 (by unfold TI; kernel_rfl) (by decide) (by decide) krf (Eq.trans (b := (Vs (some ⟨c5, 0, none⟩) 1 1)) krf (aak (by first | rfl | (simp; done) | omega | (simp; omega) | (rw [zah]; omega)))) (d6.rdblk 0 rfl) f7 fun c9 c2 c3 f8 d0 => ?_
  replace d0 : Hp c7 (abf [afo l4 0 b0, blk b1 [(Vs b2 a8.length b3)] 22, rwt aaa 46 3 b8 b2 b3 a8]) [blk c5 (Zz37 a1.1 a1.2.1 a1.2.2) 46, blk c1 (Zz37 a1.1 a1.2.1 a1.2.2) 46, lbusy l4 b0, blk b1 [(Vs b2 a8.length b3)] 22, rwt aaa 46 3 c9 c2 c3 (a8 ++ ([a1] : List PQ))] f8 := d0
  refine agu d0 3 b1 0 [(Vs b2 a8.length b3)] 22 (Vs c2 ((a8 ++ ([a1] : List PQ)).length) c3) [blk c5 (Zz37 a1.1 a1.2.1 a1.2.2) 46, blk c1 (Zz37 a1.1 a1.2.1 a1.2.2) 46, lbusy l4 b0, blk b1 [(Vs c2 ((a8 ++ ([a1] : List PQ)).length) c3)] 22, rwt aaa 46 3 c9 c2 c3 (a8 ++ ([a1] : List PQ))] rfl (zag (zad _) nbe) krf krf rfl krf rfl fun g8 f9 => wl (bn ?_)
  obtain rfl := oi hyr
  refine rnd_normal f9 2 rfl fun g9 g0 => ?_
  exact ⟨c9, c2, c3, (by first | rfl | (simp; done) | (simp; omega)), (Hp.front (Hp.front (Hp.front g0 4 _ rfl) 4 _ rfl) 4 _ rfl).kp⟩
 refine CR.mono (afg l4 b0 b1 a9 a2 a3 a5 a6 a4.length a7 e9 (hG.hp b9 hS) rfl (d3.hpN b9 d4) e2 (b9.hand (L1 := [afo l4 0 b0, blk b1 [(Vs a2 s_0.length a3)] 22, blk a5 [(Vs a6 a4.length a7)] 22, rwt aaa 46 3 a9 a2 a3 s_0]) (L2 := [dfr b5])) (b9.highs hG hS 4 rfl) (b9.apartRd 4 d3 d4 rfl) HY6) ?_
 rintro _ d7 ⟨c6, b6, b7, rfl, d8⟩
 have g1 : Hp w (abf (Zz53 a5 a6 a4.length a7 a9 a2 a3 s_0)) [blk b1 [(Vs b6 b4.1.length b7)] 22, blk a5 [(Vs a6 a4.length a7)] 22, rwt aaa 46 3 c6 b6 b7 b4.1, afo l4 b4.2 b0, dfr b5] d7 := Hp.callK (L1 := [afo l4 0 b0, blk b1 [(Vs a2 s_0.length a3)] 22, blk a5 [(Vs a6 a4.length a7)] 22, rwt aaa 46 3 a9 a2 a3 s_0]) (L2 := [dfr b5]) b9 d8; clear d8
 have g2 : Hp w (abf (Zz53 a5 a6 a4.length a7 a9 a2 a3 s_0)) [afo l4 b4.2 b0, blk b1 [(Vs b6 b4.1.length b7)] 22, blk a5 [(Vs a6 a4.length a7)] 22, rwt aaa 46 3 c6 b6 b7 b4.1, dfr b5] d7 := g1.front 3 _ rfl
 refine ⟨b4.2, [blk b1 [(Vs b6 b4.1.length b7)] 22, blk a5 [(Vs a6 a4.length a7)] 22, rwt aaa 46 3 c6 b6 b7 b4.1, dfr b5], g2, ?_⟩
 intro h0 d9
 by_cases d1 : b4.2 = 0
 replace hr := ift d1 hr
 refine rg0 d1 (bn (qn (sr (acn d9 0 b1 0 [(Vs b6 b4.1.length b7)] 22 (Vs b6 b4.1.length b7) rfl rfl krf krf (wp 1 (nq (ct ?_)))))))
 obtain rfl := oi hr
 refine m_fin1 d9 3 b5 rfl _ [(Vs b6 b4.1.length b7)] (Vs b6 b4.1.length b7) rfl rfl (fun g3 e0 => (abs (afe krf) agj)) rfl fun g3 e0 => ?_
 exact ⟨c6, b6, b7, (by first | rfl | (simp; done) | (simp; omega)), (Hp.front (Hp.front e0 2 _ rfl) 2 _ rfl).kp⟩
 replace hr := ifn d1 hr
 exact nzz hr
theorem ajy {fu : Nat} {a1 : List PQ} (a2 : Nat) (a3 : Option Addr) (a9 : Nat) (a4 : Nat) {w : World} {r : List PQ} (hr : acz fu a1 = some r) (hG : Gl w) (b3 : a9 = a1.length) (b0 : Rd w a3 (zae aaa a1)) (b4 : a9 ≤ a4) (hM : Hp w (abf [blk a2 [(Vs a3 a1.length a4)] 22]) [blk a2 [(Vs a3 a1.length a4)] 22] w) (hS : ∀ b ∈ abf [blk a2 [(Vs a3 a1.length a4)] 22], 9 ≤ b) (b1 : zae aaa a1 ≠ [] → ∀ p, a3 = some p → p.block ∉ abf [blk a2 [(Vs a3 a1.length a4)] 22]) : CR prog 185 [(zao (.func 186) #[] #[(Vp (some ⟨a2, 0, none⟩))])] w fun v w' => ∃ (o0 : Option Nat), ∃ (a0 : Option Addr), ∃ (cap0 : Nat), v = (Vs a0 r.length cap0) ∧ Hp w (abf [blk a2 [(Vs a3 a1.length a4)] 22]) [blk a2 [(Vs a3 a1.length a4)] 22, rwt aaa 46 3 o0 a0 cap0 r] w' := by
 subst b3
 have hH : Hp w (abf (Zz73 a2 a3 a1.length a4)) (Zz73 a2 a3 a1.length a4) w := hM
 refine enter (k := 5) func185 rfl rfl nbe ?_
 unfold acz at hr
 refine sr (wp 1 (nq (sr (wp 1 ?_))))
 have a6 := hH.nilrw aaa 46 3 none
 replace a6 : Hp w (abf (Zz73 a2 a3 a1.length a4)) [rwt aaa 46 3 none none 0 ([] : List PQ), blk a2 [(Vs a3 a1.length a4)] 22] w := a6
 refine bi hr fun y1 b5 hr => ?_
 have a5 : Hp w (abf (Zz73 a2 a3 a1.length a4)) [blk a2 [(Vs a3 a1.length a4)] 22, rwt aaa 46 3 none none 0 ([] : List PQ)] w := a6.front 1 _ rfl
 refine aas 218 #[] [(Vs none 0 0), (zao (.func 186) #[] #[(Vp (some ⟨a2, 0, none⟩))])] _ ent218 krf krf (ajn (s_0 := ([] : List PQ)) none none 0 a2 a3 a1.length a4 b5 (hG.hp a5 hS) rfl (b0.hpN a5 b1) b4 (a5.hand (L1 := [blk a2 [(Vs a3 a1.length a4)] 22, rwt aaa 46 3 none none 0 ([] : List PQ)]) (L2 := [])) (a5.highs hG hS 2 rfl) (a5.apartRd 2 b0 b1 rfl)) ?_
 rintro _ w3 ⟨o9, a7, a8, rfl, b2⟩
 have b6 : Hp w (abf (Zz73 a2 a3 a1.length a4)) (Zz53 a2 a3 a1.length a4 o9 a7 a8 y1) w3 := Hp.callK (L1 := [blk a2 [(Vs a3 a1.length a4)] 22, rwt aaa 46 3 none none 0 ([] : List PQ)]) (L2 := []) a5 b2; clear b2
 refine wp 1 (nq (ct ?_))
 obtain rfl := oi hr
 refine r_one (Vs a7 y1.length a8) rfl krf ?_
 exact ⟨o9, a7, a8, (by first | rfl | (simp; done) | (simp; omega)), (Hp.front (Hp.front b6 1 _ rfl) 1 _ rfl).kp⟩
theorem aig {fu : Nat} {a0 : PQ} {a1 : PQ} {w : World} {r : Int} (hr : afb fu a0 a1 = some r) (hG : Gl w) : CR prog 130 [(zal #[(str a0.1), (str a0.2.1), (Vb a0.2.2)]), (zal #[(str a1.1), (str a1.2.1), (Vb a1.2.2)])] w fun v w' => v = (Vi .i64 r) ∧ Hp w [] [] w' := by
 have hH := Hp.refl w
 refine enter (k := 10) func130 rfl rfl nbe ?_
 unfold afb at hr
 refine sr (ael hH (Zz37 a0.1 a0.2.1 a0.2.2) 46 (fun b => (Vp (some ⟨b, 0, none⟩))) rfl rfl krf fun b1 w2 a3 => ael a3 (Zz37 a1.1 a1.2.1 a1.2.2) 46 (fun b => (Vp (some ⟨b, 0, none⟩))) rfl rfl krf fun b4 w5 a2 => wp 1 (nq (sr (wp 1 ?_))))
 refine acn a2 1 b1 0 (Zz37 a0.1 a0.2.1 a0.2.2) 46 (str a0.1) rfl rfl krf krf (wp 1 (acn a2 0 b4 0 (Zz37 a1.1 a1.2.1 a1.2.2) 46 (str a1.1) rfl rfl krf krf (bi hr fun y7 a4 hr => wc ent131 a2 (akv a4 (hG.hp0 a2)) fun w9 a5 => wp 1 (nq (ct ?_)))))
 obtain rfl := oi hr
 exact rv a5.kp
theorem aej {fu : Nat} {a6 : List PQ} {b0 : Int} {c0 : Int} (a5 : Option Nat) (a2 : Option Addr) (a3 : Nat) {w : World} {r : List PQ} (hr : aai fu a6 b0 c0 = some r) (hG : Gl w) (hM : Hp w (abf [rwt aaa 46 3 a5 a2 a3 a6]) [rwt aaa 46 3 a5 a2 a3 a6] w) (hS : ∀ b ∈ abf [rwt aaa 46 3 a5 a2 a3 a6], 9 ≤ b) : CR prog 241 [(Vs a2 a6.length a3), (Vi .i64 b0), (Vi .i64 c0), (zao (.func 130) #[] #[])] w fun v w' => v = (zaj #[]) ∧ r.length = a6.length ∧ Hp w (abf [rwt aaa 46 3 a5 a2 a3 a6]) [rwt aaa 46 3 a5 a2 a3 r] w' := by
 have hH : Hp w (abf (Zz8 a5 a2 a3 a6)) (Zz8 a5 a2 a3 a6) w := hM
 refine enter (k := 53) func241 rfl rfl nbe ?_
 unfold aai at hr
 refine sr (wp 1 (gi hr fun g1 hr => aap b0 (1 : Int) krf krf g1 (wp 1 (nq (ce (lpG (σ := Nat × (List PQ) × Int) [0, 1, 2, 3, 8] (fun ⟨b5, a9, b2⟩ => [(0, (Vs a2 a9.length a3)), (8, (Vi .i64 b2))]) (fun ⟨b5, a9, b2⟩ w' => Hp w (abf (Zz8 a5 a2 a3 a6)) (Zz8 a5 a2 a3 a9) w' ∧ a9.length = a6.length ∧ aac fu b0 c0 b5 a9 b2 = some r) (fun ⟨b5, a9, b2⟩ => b5) (fu, a6, b0 + (1 : Int)) (by exact ⟨hH.kp, lsz, hr⟩) ?_))))))
 rintro ⟨_ | b5, a9, b2⟩ g0 G ⟨c6, g2, a8⟩
 · exact nzz a8
 rw [aac.eq_2] at a8
 refine cs (sr (wp 3 (nq (cd a8 (fun d4 a8 => ?_) (fun d4 a8 => ?_)))))
 refine ck (qn (bi a8 fun c7 d5 a8 => cut (σ := (List PQ)) [0, 1, 2, 3, 8] (fun b3 => [(0, (Vs a2 b3.length a3))]) (fun b3 w' => Hp w (abf (Zz8 a5 a2 a3 a6)) (Zz8 a5 a2 a3 b3) w' ∧ b3.length = a9.length ∧ b3 = c7) ?_ ?_))
 refine ce (sr (wp 2 (nq (ce (lpG (σ := Nat × (List PQ) × Int) [0, 1, 2, 3, 8, 9] (fun ⟨b4, a1, a0⟩ => [(0, (Vs a2 a1.length a3)), (9, (Vi .i64 a0))]) (fun ⟨b4, a1, a0⟩ w' => Hp w (abf (Zz8 a5 a2 a3 a6)) (Zz8 a5 a2 a3 a1) w' ∧ a1.length = a9.length ∧ aae fu b0 b4 a1 a0 = some c7) (fun ⟨b4, a1, a0⟩ => b4) (fu, a9, b2) (by exact ⟨c6.kp, lsz, d5⟩) ?_)))))
 rintro ⟨_ | b4, a1, a0⟩ g3 G ⟨c1, g4, a4⟩
 · exact nzz a4
 rw [aae.eq_2] at a4
 refine cs (bi a4 fun d6 a7 a4 => aij c1 [0, 1, 2, 3, 8, 9, 34] [(34, (Vb d6))] ?_ ?_)
 by_cases b9 : b0 < a0
 replace a7 := ift b9 a7
 refine gi a7 fun d7 a7 => gi a7 fun d8 a7 => gi a7 fun d9 a7 => gi a7 fun e0 a7 => gi a7 fun e1 a7 => aeg 14 (fun j_ w_ w_' => acg [8, 14, 15, 16] (fun w' => Rd w' a2 (zae aaa a1)) j_ w_ w_' ∧ acg [14, 15, 16] (fun w' => Rd w' a2 (zae aaa a1)) j_ w_ w_' ∧ acg [13, 14, 15, 16] (fun w' => Rd w' a2 (zae aaa a1)) j_ w_ w_' ∧ True) (Zz25) (fun _ _ => ⟨acg.same, acg.same, acg.same, trivial⟩) krf krf c1 rfl (aaw (adc (aaw (aaq (aaq (aaw (aaw (aaq aco)))))))) fun g5 b6 => rp 11 [0, 1, 2] (rt 3 (Vb true) rfl rfl (abc rfl (by intro w hS_; exact Eq.trans (b := Result.ok (Next.value (.bool (decide (b0 < a0)))) w) krf (congrArg (fun b => Result.ok (Next.value (.bool b)) w) (decide_eq_true b9)))) (rp 7 [4, 5, 6] (aaz (Zz76) 7 25 (Vp (some (ea a2 (a0.toNat * 3)))) [8, 14, 15, 16] (fun _ _ _ h => h.1) _ rfl rfl krf krf krf krf krf rfl (afz 21 krf krf krf (by intro w hS_; exact (amp a2 a1.length a3 46 3 .i64 a0 underlying22 krf krf krf a1 rfl d7 hS_ aab (by decide)))) (by exact (b6.rdrw 0 rfl)) ?_)))
 refine aaz (Zz49) 8 26 (zal #[(str ((el a1 a0).1)), (str ((el a1 a0).2.1)), (Vb ((el a1 a0).2.2))]) [14, 15, 16] (fun _ _ _ h => h.2.1) _ rfl rfl krf krf krf krf krf rfl (afz 21 krf krf krf (by intro w hS_; exact (anf a2 aaa a1 3 a0 aab hS_ (Zz3 a1 a0) d8 krf krf krf krf (by decide)))) (by exact (b6.rdrw 0 rfl)) (rp 3 [9, 10] (rt 11 (Vi .i64 (a0 - (1 : Int))) rfl rfl (afz 21 krf krf krf (by intro w hS_; exact (ajr a0 (1 : Int) krf krf d9))) (aaz (Zz77) 12 30 (Vp (some (ea a2 ((a0 - (1 : Int)).toNat * 3)))) [13, 14, 15, 16] (fun _ _ _ h => h.2.2.1) _ rfl rfl krf krf krf krf krf rfl (afz 21 krf krf krf (by intro w hS_; exact (amp a2 a1.length a3 46 3 .i64 (a0 - (1 : Int)) underlying22 krf krf krf a1 rfl e0 hS_ aab (by decide)))) (by exact (b6.rdrw 0 rfl)) (aaz (Zz79) 13 31 (zal #[(str ((el a1 (a0 - (1 : Int))).1)), (str ((el a1 (a0 - (1 : Int))).2.1)), (Vb ((el a1 (a0 - (1 : Int))).2.2))]) [14, 15, 16] (fun _ _ _ h => h.2.1) _ rfl rfl krf krf krf krf krf rfl (afz 21 krf krf krf (by intro w hS_; exact (anf a2 aaa a1 3 (a0 - (1 : Int)) aab hS_ (Zz7 a1 a0) e1 krf krf krf krf (by decide)))) (by exact (b6.rdrw 0 rfl)) (adf krf (gy 21 (bi a7 fun g6 e2 a7 => wc ent130 b6 (aig e2 (hG.hp b6 hS)) fun g7 e3 => wp 2 ?_)))))))
 refine wl (ql ?_)
 obtain rfl := oi a7
 exact je e3.kp
 replace a7 := ifn b9 a7
 refine aeg 14 (fun j_ w_ w_' => acg [8, 14, 15, 16] (fun w' => Rd w' a2 (zae aaa a1)) j_ w_ w_' ∧ acg [14, 15, 16] (fun w' => Rd w' a2 (zae aaa a1)) j_ w_ w_' ∧ acg [13, 14, 15, 16] (fun w' => Rd w' a2 (zae aaa a1)) j_ w_ w_' ∧ True) (Zz25) (fun _ _ => ⟨acg.same, acg.same, acg.same, trivial⟩) krf krf c1 rfl (aaw (adc (aaw (aaq (aaq (aaw (aaw (aaq aco)))))))) fun g8 e4 => rp 11 [0, 1, 2] (rt 3 (Vb false) rfl rfl (abc rfl (by intro w hS_; exact Eq.trans (b := Result.ok (Next.value (.bool (decide (b0 < a0)))) w) krf (congrArg (fun b => Result.ok (Next.value (.bool b)) w) (decide_eq_false b9)))) (rp 0 [4, 5, 6, 7, 8, 9, 10, 11, 12, 13] (adf krf (wp 3 (wl (ql ?_))))))
 obtain rfl := oi a7
 exact je e4.kp
 intro g9 G b8
 refine cb a4 (fun e5 a4 => ?_) (fun e5 a4 => ?_)
 refine ck (qn (cs (ce (gi a4 fun e6 a4 => gi a4 fun e7 a4 => gi a4 fun c8 a4 => ?_))))
 have e8 := afd (b8.rdrw 0 rfl) aab (by decide) c8
 refine gi a4 fun c9 a4 => gi a4 fun d0 a4 => ?_
 have e9 := afd (b8.rdrw 0 rfl) aab (by decide) d0
 refine gi a4 fun d1 a4 => gi a4 fun c2 a4 => ?_
 have d2 := afd (b8.rdrw 0 rfl) aab (by decide) c2
 refine gi a4 fun d3 a4 => cdr 16 b8 (aaq (adc (aaw (aaq (aaq (aaw (aaw (aaq aco)))))))) fun h0 b7 => rp 12 [0, 1, 2, 3] (rt 4 (Vi .i64 (a0 - (1 : Int))) rfl rfl (abc rfl (by intro w hS_; exact (ajr a0 (1 : Int) krf krf e6))) (rp 9 [5, 6] (rt 7 (Vi .i64 (a0 - (1 : Int))) rfl rfl (abc rfl (by intro w hS_; exact (ajr a0 (1 : Int) krf krf e7))) (rt 8 (Vp (some (ea a2 ((a0 - (1 : Int)).toNat * 3)))) rfl rfl (abc rfl (by intro w hS_; exact (ajs a2 a1.length a3 46 3 .i64 (a0 - (1 : Int)) underlying22 krf krf krf (aew (l := a1) rfl c8) e8))) (rp 5 [10, 11] (rt 12 (Vp (some (ea a2 (a0.toNat * 3)))) rfl rfl (abc rfl (by intro w hS_; exact (ajs a2 a1.length a3 46 3 .i64 a0 underlying22 krf krf krf (aew (l := a1) rfl d0) e9))) (r_one2 (Zz18) (Zz23) 9 13 _ _ rfl rfl krf krf krf rfl rfl ?_ ?_)))))))
 refine ahv a2 aaa a1 3 (a0 - (1 : Int)) aab (b7.rdrw 0 rfl) (Zz7 a1 a0) c9 krf krf krf krf (by decide) (wl (ack (by exact trivial) (ro 13 rfl (ahv a2 aaa a1 3 a0 aab (b7.rdrw 0 rfl) (Zz3 a1 a0) d1 krf krf krf krf (by decide) (wl (ack (by exact trivial) (rt 14 (Vp (some (ea a2 (a0.toNat * 3)))) rfl rfl (abc rfl (by intro w hS_; exact (ajs a2 a1.length a3 46 3 .i64 a0 underlying22 krf krf krf (aew (l := a1) rfl c2) d2))) (ro 15 rfl (aju b7 0 a5 a2 a3 46 3 a0 a1 ((el a1 (a0 - (1 : Int))).1, (el a1 (a0 - (1 : Int))).2.1, ((el a1 (a0 - (1 : Int))).2.2)) rfl aab (Zz7 a1 a0) d3 krf krf krf (by decide) krf fun c3 b1 => ?_)))))))))
 replace b1 : Hp w (abf (Zz8 a5 a2 a3 a6)) (Zz13 a5 a2 a3 a1 a0) c3 := b1
 refine wl (ack (by exact trivial) (adf krf (gi a4 fun f0 a4 => aiy a2 a1.length a3 46 3 .i64 (a0 - (1 : Int)) underlying22 krf krf krf (zaf a1 (zac a0) ((el a1 (a0 - (1 : Int))).1, (el a1 (a0 - (1 : Int))).2.1, ((el a1 (a0 - (1 : Int))).2.2))) (by first | rfl | (simp; done) | omega | (simp; omega) | (rw [zah]; omega)) f0 (b1.rdrw 0 rfl) aab (by decide) (gi a4 fun f1 a4 => aju b1 0 a5 a2 a3 46 3 (a0 - (1 : Int)) (zaf a1 (zac a0) ((el a1 (a0 - (1 : Int))).1, (el a1 (a0 - (1 : Int))).2.1, ((el a1 (a0 - (1 : Int))).2.2))) ((el a1 a0).1, (el a1 a0).2.1, ((el a1 a0).2.2)) rfl aab (Zz3 a1 a0) f1 krf krf krf (by decide) krf fun f2 c4 => ?_))))
 replace c4 : Hp w (abf (Zz8 a5 a2 a3 a6)) (Zz9 a5 a2 a3 a1 a0) f2 := c4
 refine wl (bn (qn (cr (wp 1 (gi a4 fun f3 a4 => adm a0 (1 : Int) krf krf f3 (wp 1 (wl (ql ?_))))))))
 exact ⟨(b4, zaf (zaf a1 (zac a0) ((el a1 (a0 - (1 : Int))).1, (el a1 (a0 - (1 : Int))).2.1, ((el a1 (a0 - (1 : Int))).2.2))) (zac (a0 - (1 : Int))) ((el a1 a0).1, (el a1 a0).2.1, ((el a1 a0).2.2)), a0 - (1 : Int)), _, rfl, (mc (Eq.trans (b := (Vs a2 a1.length a3)) krf (aak lsy)) (mc krf (mc krf (mc krf (mc krf (mc krf rfl)))))), ⟨c4.kp, lsz, a4⟩, zad _⟩
 refine ahv a2 aaa a1 3 a0 aab (b7.rdrw 0 rfl) (Zz3 a1 a0) d1 krf krf krf krf (by decide) (wl (ack (by exact trivial) (ro 9 rfl (ahv a2 aaa a1 3 (a0 - (1 : Int)) aab (b7.rdrw 0 rfl) (Zz7 a1 a0) c9 krf krf krf krf (by decide) (wl (ack (by exact trivial) (rt 14 (Vp (some (ea a2 (a0.toNat * 3)))) rfl rfl (abc rfl (by intro w hS_; exact (ajs a2 a1.length a3 46 3 .i64 a0 underlying22 krf krf krf (aew (l := a1) rfl c2) d2))) (ro 15 rfl (aju b7 0 a5 a2 a3 46 3 a0 a1 ((el a1 (a0 - (1 : Int))).1, (el a1 (a0 - (1 : Int))).2.1, ((el a1 (a0 - (1 : Int))).2.2)) rfl aab (Zz7 a1 a0) d3 krf krf krf (by decide) krf fun c3 b1 => ?_)))))))))
 replace b1 : Hp w (abf (Zz8 a5 a2 a3 a6)) (Zz13 a5 a2 a3 a1 a0) c3 := b1
 refine wl (ack (by exact trivial) (adf krf (gi a4 fun f4 a4 => aiy a2 a1.length a3 46 3 .i64 (a0 - (1 : Int)) underlying22 krf krf krf (zaf a1 (zac a0) ((el a1 (a0 - (1 : Int))).1, (el a1 (a0 - (1 : Int))).2.1, ((el a1 (a0 - (1 : Int))).2.2))) (by first | rfl | (simp; done) | omega | (simp; omega) | (rw [zah]; omega)) f4 (b1.rdrw 0 rfl) aab (by decide) (gi a4 fun f5 a4 => aju b1 0 a5 a2 a3 46 3 (a0 - (1 : Int)) (zaf a1 (zac a0) ((el a1 (a0 - (1 : Int))).1, (el a1 (a0 - (1 : Int))).2.1, ((el a1 (a0 - (1 : Int))).2.2))) ((el a1 a0).1, (el a1 a0).2.1, ((el a1 a0).2.2)) rfl aab (Zz3 a1 a0) f5 krf krf krf (by decide) krf fun f6 c5 => ?_))))
 replace c5 : Hp w (abf (Zz8 a5 a2 a3 a6)) (Zz9 a5 a2 a3 a1 a0) f6 := c5
 refine wl (bn (qn (cr (wp 1 (gi a4 fun f7 a4 => adm a0 (1 : Int) krf krf f7 (wp 1 (wl (ql ?_))))))))
 exact ⟨(b4, zaf (zaf a1 (zac a0) ((el a1 (a0 - (1 : Int))).1, (el a1 (a0 - (1 : Int))).2.1, ((el a1 (a0 - (1 : Int))).2.2))) (zac (a0 - (1 : Int))) ((el a1 a0).1, (el a1 a0).2.1, ((el a1 a0).2.2)), a0 - (1 : Int)), _, rfl, (mc (Eq.trans (b := (Vs a2 a1.length a3)) krf (aak lsy)) (mc krf (mc krf (mc krf (mc krf (mc krf rfl)))))), ⟨c5.kp, lsz, a4⟩, zad _⟩
 refine acq (acp (acx (acr (bn (ql ?_)))))
 obtain rfl := oi a4
 exact ⟨a1, _, rfl, by kernel_rfl, b8.kp, lsz, rfl⟩
 rintro b3 h1 G ⟨f8, h2, rfl⟩
 refine cr (wp 1 (gi a8 fun f9 a8 => aap b2 (1 : Int) krf krf f9 (wp 1 (wl (ql ?_)))))
 exact ⟨(b5, b3, b2 + (1 : Int)), _, rfl, by kernel_rfl, ⟨f8.kp, lsz, a8⟩, zad _⟩
 refine acq (acp (acx (acr ?_)))
 obtain rfl := oi a8
 refine ahp  rfl  ?_
 exact ⟨(by first | rfl | (simp; done) | (simp; omega)), lsz, c6.kp⟩
theorem adb {fu : Nat} {a8 : List PQ} {a3 : Int} {a2 : Int} {b3 : Int} (a7 : Option Nat) (a5 : Option Addr) (a6 : Nat) {w : World} {r : List PQ} (hr : aay fu a8 a3 a2 b3 = some r) (hG : Gl w) (hM : Hp w (abf [rwt aaa 46 3 a7 a5 a6 a8]) [rwt aaa 46 3 a7 a5 a6 a8] w) (hS : ∀ b ∈ abf [rwt aaa 46 3 a7 a5 a6 a8], 9 ≤ b) : CR prog 270 [(Vs a5 a8.length a6), (Vi .i64 a3), (Vi .i64 a2), (Vi .i64 b3), (zao (.func 130) #[] #[])] w fun v w' => v = (zaj #[]) ∧ r.length = a8.length ∧ Hp w (abf [rwt aaa 46 3 a7 a5 a6 a8]) [rwt aaa 46 3 a7 a5 a6 r] w' := by
 have hH : Hp w (abf (Zz8 a7 a5 a6 a8)) (Zz8 a7 a5 a6 a8) w := hM
 refine enter (k := 38) func270 rfl rfl nbe ?_
 unfold aay at hr
 refine sr (wp 1 (nq (ce (lpG (σ := Nat × (List PQ) × Int) [0, 1, 2, 3, 10] (fun ⟨b0, a1, a0⟩ => [(0, (Vs a5 a1.length a6)), (10, (Vi .i64 a0))]) (fun ⟨b0, a1, a0⟩ w' => Hp w (abf (Zz8 a7 a5 a6 a8)) (Zz8 a7 a5 a6 a1) w' ∧ a1.length = a8.length ∧ aar fu a3 a2 b3 b0 a1 a0 = some r) (fun ⟨b0, a1, a0⟩ => b0) (fu, a8, (0 : Int)) (by exact ⟨hH.kp, lsz, hr⟩) ?_))))
 rintro ⟨_ | b0, a1, a0⟩ d9 G ⟨b2, e0, a4⟩
 · exact nzz a4
 rw [aar.eq_2] at a4
 refine cs (sr (wp 3 (nq (cd a4 (fun c4 a4 => ?_) (fun c4 a4 => ?_)))))
 refine ck (qn (cs (ce (gi a4 fun c5 a4 => gi a4 fun c6 a4 => gi a4 fun c7 a4 => gi a4 fun b8 a4 => ?_))))
 have c8 := afd (b2.rdrw 0 rfl) aab (by decide) b8
 refine gi a4 fun b9 a4 => gi a4 fun c9 a4 => gi a4 fun c0 a4 => ?_
 have d0 := afd (b2.rdrw 0 rfl) aab (by decide) c0
 refine gi a4 fun c1 a4 => gi a4 fun b4 a4 => ?_
 have c2 := afd (b2.rdrw 0 rfl) aab (by decide) b4
 refine gi a4 fun c3 a4 => cdr 22 b2 (aaq (adc (aaw (aaq aco)))) fun e1 b1 => rp 19 [0, 1, 2] (rt 3 (Vi .i64 (a3 + a0)) rfl rfl (abc rfl (by intro w hS_; exact (ajt a3 a0 krf krf c5))) (rp 15 [4, 5, 6] (rt 7 (Vi .i64 (a2 + a0)) rfl rfl (abc rfl (by intro w hS_; exact (ajt a2 a0 krf krf c6))) (rp 11 [8, 9, 10] (rt 11 (Vi .i64 (a2 + a0)) rfl rfl (abc rfl (by intro w hS_; exact (ajt a2 a0 krf krf c7))) (rt 12 (Vp (some (ea a5 ((a2 + a0).toNat * 3)))) rfl rfl (abc rfl (by intro w hS_; exact (ajs a5 a1.length a6 46 3 .i64 (a2 + a0) underlying22 krf krf krf (aew (l := a1) rfl b8) c8))) (rp 6 [14, 15, 16] ?_)))))))
 refine rt 17 (Vi .i64 (a3 + a0)) rfl rfl (abc rfl (by intro w hS_; exact (ajt a3 a0 krf krf c9))) (rt 18 (Vp (some (ea a5 ((a3 + a0).toNat * 3)))) rfl rfl (abc rfl (by intro w hS_; exact (ajs a5 a1.length a6 46 3 .i64 (a3 + a0) underlying22 krf krf krf (aew (l := a1) rfl c0) d0))) (r_one2 (Zz61) (Zz62) 13 19 _ _ rfl rfl krf krf krf rfl rfl ?_ ?_))
 refine ahv a5 aaa a1 3 (a2 + a0) aab (b1.rdrw 0 rfl) (Zz10 a1 a2 a0) b9 krf krf krf krf (by decide) (wl (ack (by exact trivial) (ro 19 rfl (ahv a5 aaa a1 3 (a3 + a0) aab (b1.rdrw 0 rfl) (Zz10 a1 a3 a0) c1 krf krf krf krf (by decide) (wl (ack (by exact trivial) (rt 20 (Vp (some (ea a5 ((a3 + a0).toNat * 3)))) rfl rfl (abc rfl (by intro w hS_; exact (ajs a5 a1.length a6 46 3 .i64 (a3 + a0) underlying22 krf krf krf (aew (l := a1) rfl b4) c2))) (ro 21 rfl (aju b1 0 a7 a5 a6 46 3 (a3 + a0) a1 ((el a1 (a2 + a0)).1, (el a1 (a2 + a0)).2.1, ((el a1 (a2 + a0)).2.2)) rfl aab (Zz10 a1 a2 a0) c3 krf krf krf (by decide) krf fun b5 a9 => ?_)))))))))
 replace a9 : Hp w (abf (Zz8 a7 a5 a6 a8)) (Zz44 a7 a5 a6 a1 a3 a0 a2) b5 := a9
 refine wl (ack (by exact trivial) (adf krf (gi a4 fun d1 a4 => aiy a5 a1.length a6 46 3 .i64 (a2 + a0) underlying22 krf krf krf (zaf a1 (zac (a3 + a0)) ((el a1 (a2 + a0)).1, (el a1 (a2 + a0)).2.1, ((el a1 (a2 + a0)).2.2))) (by first | rfl | (simp; done) | omega | (simp; omega) | (rw [zah]; omega)) d1 (a9.rdrw 0 rfl) aab (by decide) (gi a4 fun d2 a4 => aju a9 0 a7 a5 a6 46 3 (a2 + a0) (zaf a1 (zac (a3 + a0)) ((el a1 (a2 + a0)).1, (el a1 (a2 + a0)).2.1, ((el a1 (a2 + a0)).2.2))) ((el a1 (a3 + a0)).1, (el a1 (a3 + a0)).2.1, ((el a1 (a3 + a0)).2.2)) rfl aab (Zz10 a1 a3 a0) d2 krf krf krf (by decide) krf fun d3 b6 => ?_))))
 replace b6 : Hp w (abf (Zz8 a7 a5 a6 a8)) (Zz21 a7 a5 a6 a1 a3 a0 a2) d3 := b6
 refine wl (bn (qn (cr (wp 1 (gi a4 fun d4 a4 => aap a0 (1 : Int) krf krf d4 (wp 1 (wl (ql ?_))))))))
 exact ⟨(b0, zaf (zaf a1 (zac (a3 + a0)) ((el a1 (a2 + a0)).1, (el a1 (a2 + a0)).2.1, ((el a1 (a2 + a0)).2.2))) (zac (a2 + a0)) ((el a1 (a3 + a0)).1, (el a1 (a3 + a0)).2.1, ((el a1 (a3 + a0)).2.2)), a0 + (1 : Int)), _, rfl, (mc (Eq.trans (b := (Vs a5 a1.length a6)) krf (aak lsy)) (mc krf (mc krf (mc krf (mc krf rfl))))), ⟨b6.kp, lsz, a4⟩, zad _⟩
 refine ahv a5 aaa a1 3 (a3 + a0) aab (b1.rdrw 0 rfl) (Zz10 a1 a3 a0) c1 krf krf krf krf (by decide) (wl (ack (by exact trivial) (ro 13 rfl (ahv a5 aaa a1 3 (a2 + a0) aab (b1.rdrw 0 rfl) (Zz10 a1 a2 a0) b9 krf krf krf krf (by decide) (wl (ack (by exact trivial) (rt 20 (Vp (some (ea a5 ((a3 + a0).toNat * 3)))) rfl rfl (abc rfl (by intro w hS_; exact (ajs a5 a1.length a6 46 3 .i64 (a3 + a0) underlying22 krf krf krf (aew (l := a1) rfl b4) c2))) (ro 21 rfl (aju b1 0 a7 a5 a6 46 3 (a3 + a0) a1 ((el a1 (a2 + a0)).1, (el a1 (a2 + a0)).2.1, ((el a1 (a2 + a0)).2.2)) rfl aab (Zz10 a1 a2 a0) c3 krf krf krf (by decide) krf fun b5 a9 => ?_)))))))))
 replace a9 : Hp w (abf (Zz8 a7 a5 a6 a8)) (Zz44 a7 a5 a6 a1 a3 a0 a2) b5 := a9
 refine wl (ack (by exact trivial) (adf krf (gi a4 fun d5 a4 => aiy a5 a1.length a6 46 3 .i64 (a2 + a0) underlying22 krf krf krf (zaf a1 (zac (a3 + a0)) ((el a1 (a2 + a0)).1, (el a1 (a2 + a0)).2.1, ((el a1 (a2 + a0)).2.2))) (by first | rfl | (simp; done) | omega | (simp; omega) | (rw [zah]; omega)) d5 (a9.rdrw 0 rfl) aab (by decide) (gi a4 fun d6 a4 => aju a9 0 a7 a5 a6 46 3 (a2 + a0) (zaf a1 (zac (a3 + a0)) ((el a1 (a2 + a0)).1, (el a1 (a2 + a0)).2.1, ((el a1 (a2 + a0)).2.2))) ((el a1 (a3 + a0)).1, (el a1 (a3 + a0)).2.1, ((el a1 (a3 + a0)).2.2)) rfl aab (Zz10 a1 a3 a0) d6 krf krf krf (by decide) krf fun d7 b7 => ?_))))
 replace b7 : Hp w (abf (Zz8 a7 a5 a6 a8)) (Zz21 a7 a5 a6 a1 a3 a0 a2) d7 := b7
 refine wl (bn (qn (cr (wp 1 (gi a4 fun d8 a4 => aap a0 (1 : Int) krf krf d8 (wp 1 (wl (ql ?_))))))))
 exact ⟨(b0, zaf (zaf a1 (zac (a3 + a0)) ((el a1 (a2 + a0)).1, (el a1 (a2 + a0)).2.1, ((el a1 (a2 + a0)).2.2))) (zac (a2 + a0)) ((el a1 (a3 + a0)).1, (el a1 (a3 + a0)).2.1, ((el a1 (a3 + a0)).2.2)), a0 + (1 : Int)), _, rfl, (mc (Eq.trans (b := (Vs a5 a1.length a6)) krf (aak lsy)) (mc krf (mc krf (mc krf (mc krf rfl))))), ⟨b7.kp, lsz, a4⟩, zad _⟩
 refine acq (acp (acx (acr ?_)))
 obtain rfl := oi a4
 refine ahp  rfl  ?_
 exact ⟨(by first | rfl | (simp; done) | (simp; omega)), lsz, b2.kp⟩
theorem ahk {fu : Nat} {a6 : List PQ} {b2 : Int} {a4 : Int} {b3 : Int} (a3 : Option Nat) (a0 : Option Addr) (a1 : Nat) {w : World} {r : List PQ} (hr : abl fu a6 b2 a4 b3 = some r) (hG : Gl w) (hM : Hp w (abf [rwt aaa 46 3 a3 a0 a1 a6]) [rwt aaa 46 3 a3 a0 a1 a6] w) (hS : ∀ b ∈ abf [rwt aaa 46 3 a3 a0 a1 a6], 9 ≤ b) : CR prog 262 [(Vs a0 a6.length a1), (Vi .i64 b2), (Vi .i64 a4), (Vi .i64 b3), (zao (.func 130) #[] #[])] w fun v w' => v = (zaj #[]) ∧ r.length = a6.length ∧ Hp w (abf [rwt aaa 46 3 a3 a0 a1 a6]) [rwt aaa 46 3 a3 a0 a1 r] w' := by
 have hH : Hp w (abf (Zz8 a3 a0 a1 a6)) (Zz8 a3 a0 a1 a6) w := hM
 refine enter (k := 58) func262 rfl rfl nbe ?_
 unfold abl at hr
 refine sr (wp 2 (gi hr fun g1 hr => adm a4 b2 krf krf g1 (wp 1 (nq (sr ?_)))))
 refine wp 2 (gi hr fun g2 hr => adm b3 a4 krf krf g2 (wp 1 (nq (bi hr fun b5 c1 hr => cut (σ := ((List PQ) × Int)) [0, 2, 4, 10] (fun a9 => [(0, (Vs a0 a9.1.length a1)), (10, (Vi .i64 a9.2))]) (fun a9 w' => Hp w (abf (Zz8 a3 a0 a1 a6)) (Zz8 a3 a0 a1 a9.1) w' ∧ a9.1.length = a6.length ∧ a9 = b5) ?_ ?_))))
 refine ce (lpG (σ := Nat × (List PQ) × Int × Int) [0, 2, 4, 10, 11] (fun ⟨b1, a7, a5, a8⟩ => [(0, (Vs a0 a7.length a1)), (10, (Vi .i64 a5)), (11, (Vi .i64 a8))]) (fun ⟨b1, a7, a5, a8⟩ w' => Hp w (abf (Zz8 a3 a0 a1 a6)) (Zz8 a3 a0 a1 a7) w' ∧ a7.length = a6.length ∧ aax fu a4 b1 a7 a5 a8 = some b5) (fun ⟨b1, a7, a5, a8⟩ => b1) (fu, a6, a4 - b2, b3 - a4) (by exact ⟨hH.kp, lsz, c1⟩) ?_)
 rintro ⟨_ | b1, a7, a5, a8⟩ e1 G ⟨b0, e2, a2⟩
 · exact nzz a2
 rw [aax.eq_2] at a2
 refine cs (sr (wp 3 (nq (cn a2 (fun c2 a2 => ?_) (fun c2 a2 => ?_)))))
 refine ck (qn (ce (sr (wp 3 (nq (cd a2 (fun c3 a2 => ?_) (fun c3 a2 => ?_)))))))
 refine sr (wp 3 (gi a2 fun c4 a2 => adm a4 a5 krf krf c4 (wp 3 (bi a2 fun b6 c5 a2 => aas 270 #[] [(Vs a0 a7.length a1), (Vi .i64 (a4 - a5)), (Vi .i64 a4), (Vi .i64 a8), (zao (.func 130) #[] #[])] _ ent270 krf krf (adb a3 a0 a1 c5 (hG.hp b0 hS) (b0.hand (L1 := (Zz8 a3 a0 a1 a7)) (L2 := [])) (b0.highs hG hS 1 rfl)) ?_))))
 rintro _ c6 ⟨rfl, e3, b7⟩
 have c7 : Hp w (abf (Zz8 a3 a0 a1 a6)) (Zz8 a3 a0 a1 b6) c6 := Hp.callK (L1 := (Zz8 a3 a0 a1 a7)) (L2 := []) b0 b7; clear b7
 refine nq (cr (wp 2 (gi a2 fun c8 a2 => adm a5 a8 krf krf c8 (wp 1 (wl (bn (ql ?_)))))))
 exact ⟨(b1, b6, a5 - a8, a8), _, rfl, (mc (Eq.trans (b := (Vs a0 a7.length a1)) krf (aak lsy)) (mc krf (mc krf (mc krf (mc krf rfl))))), ⟨c7.kp, lsz, a2⟩, zad _⟩
 refine sr (wp 3 (gi a2 fun c9 a2 => adm a4 a5 krf krf c9 (wp 2 (gi a2 fun d0 a2 => aap a4 a8 krf krf d0 (wp 1 (gi a2 fun d1 a2 => ?_))))))
 refine adm (a4 + a8) a5 krf krf d1 (wp 2 (bi a2 fun b8 d2 a2 => aas 270 #[] [(Vs a0 a7.length a1), (Vi .i64 (a4 - a5)), (Vi .i64 ((a4 + a8) - a5)), (Vi .i64 a5), (zao (.func 130) #[] #[])] _ ent270 krf krf (adb a3 a0 a1 d2 (hG.hp b0 hS) (b0.hand (L1 := (Zz8 a3 a0 a1 a7)) (L2 := [])) (b0.highs hG hS 1 rfl)) ?_))
 rintro _ d3 ⟨rfl, e4, b9⟩
 have d4 : Hp w (abf (Zz8 a3 a0 a1 a6)) (Zz8 a3 a0 a1 b8) d3 := Hp.callK (L1 := (Zz8 a3 a0 a1 a7)) (L2 := []) b0 b9; clear b9
 refine nq (cr (wp 2 (gi a2 fun d5 a2 => adm a8 a5 krf krf d5 (wp 1 (wl (bn (ql ?_)))))))
 exact ⟨(b1, b8, a5, a8 - a5), _, rfl, (mc (Eq.trans (b := (Vs a0 a7.length a1)) krf (aak lsy)) (mc krf (mc krf (mc krf (mc krf rfl))))), ⟨d4.kp, lsz, a2⟩, zad _⟩
 refine acq (acp (acx (acr (ql ?_))))
 obtain rfl := oi a2
 exact ⟨(a7, a5), _, rfl, by kernel_rfl, b0.kp, lsz, rfl⟩
 rintro a9 e5 G ⟨b4, e6, rfl⟩
 refine cr (wp 3 (gi hr fun d6 hr => adm a4 a9.2 krf krf d6 (wp 3 (bi hr fun d7 d8 hr => aas 270 #[] [(Vs a0 a9.1.length a1), (Vi .i64 (a4 - a9.2)), (Vi .i64 a4), (Vi .i64 a9.2), (zao (.func 130) #[] #[])] _ ent270 krf krf (adb a3 a0 a1 d8 (hG.hp b4 hS) (b4.hand (L1 := (Zz8 a3 a0 a1 a9.1)) (L2 := [])) (b4.highs hG hS 1 rfl)) ?_))))
 rintro _ d9 ⟨rfl, e7, c0⟩
 have e0 : Hp w (abf (Zz8 a3 a0 a1 a6)) (Zz8 a3 a0 a1 d7) d9 := Hp.callK (L1 := (Zz8 a3 a0 a1 a9.1)) (L2 := []) b4 c0; clear c0
 refine wl ?_
 obtain rfl := oi hr
 refine ahp  rfl  ?_
 exact ⟨(by first | rfl | (simp; done) | (simp; omega)), lsz, e0.kp⟩
open Go.IntKind renaming wrap → zaa
open List renaming drop → zak, flatMap → zae, length_take → zah, set → zaf, take → zas
open Nat renaming lt_succ_self → zad
theorem ent71 : Wk.Enters prog 71 := ⟨f71, _, func71, rfl, krf⟩
theorem ent128 : Wk.Enters prog 128 := ⟨f128, _, func128, rfl, krf⟩
theorem ent129 : Wk.Enters prog 129 := ⟨f129, _, func129, rfl, krf⟩
theorem ent185 : Wk.Enters prog 185 := ⟨f185, _, func185, rfl, krf⟩
theorem aev : ∀ {fu : Nat} {a5 : List PQ} {a8 : Int} {a9 : Int} {b2 : Int} (a7 : Option Nat) (a0 : Option Addr) (a6 : Nat) {w : World} {r : List PQ} (hr : aaj fu a5 a8 a9 b2 = some r) (hG : Gl w) (hM : Hp w (abf [rwt aaa 46 3 a7 a0 a6 a5]) [rwt aaa 46 3 a7 a0 a6 a5] w) (hS : ∀ b ∈ abf [rwt aaa 46 3 a7 a0 a6 a5], 9 ≤ b), CR prog 242 [(Vs a0 a5.length a6), (Vi .i64 a8), (Vi .i64 a9), (Vi .i64 b2), (zao (.func 130) #[] #[])] w fun v w' => v = (zaj #[]) ∧ r.length = a5.length ∧ Hp w (abf [rwt aaa 46 3 a7 a0 a6 a5]) [rwt aaa 46 3 a7 a0 a6 r] w' := by
 intro fu
 induction fu with
 | zero =>
  intro a5 a8 a9 b2 a7 a0 a6 w r hr hG hM hS
  exact nzz hr
 | succ fu ih =>
 intro a5 a8 a9 b2 a7 a0 a6 w r hr hG hM hS
 have hH : Hp w (abf (Zz8 a7 a0 a6 a5)) (Zz8 a7 a0 a6 a5) w := hM
 refine enter (k := 220) func242 rfl rfl nbe ?_
 rw [aaj.eq_2] at hr
 refine bi hr fun j5 c3 hr => cut1 hH j5 [0, 1, 2, 3, 4] (fun j6 => []) ?_ ?_
 refine sr (wp 2 (gi c3 fun j7 c3 => adm a9 a8 krf krf j7 (wp 1 (nq (cd c3 (fun j8 c3 => ?_) (fun j8 c3 => ?_))))))
 refine sr (wp 2 (nq (sr (wp 2 (nq ?_)))))
 refine bi c3 fun f1 j9 c3 => aij hH [0, 1, 2, 3, 4, 10] [(10, (Vi .i64 f1))] ?_ ?_
 refine ce (lpS (fun g4 ⟨b8, b9⟩ => aan fu a5 a8 g4 b8 b9) (a9, b2) hH j9 [0, 1, 2, 3, 4, 10, 11] (fun ⟨b8, b9⟩ => [(10, (Vi .i64 b8)), (11, (Vi .i64 b9))]) (fun _ => rfl) ?_)
 rintro g4 ⟨b8, b9⟩ t4 G g5 b6
 dsimp only at b6
 rw [aan.eq_2] at b6
 refine cs (sr (wp 3 (nq (cd b6 (fun k0 b6 => ?_) (fun k0 b6 => ?_)))))
 refine ck (qn (ce (sr (wp 2 (gi b6 fun k1 b6 => aap b8 b9 krf krf k1 (alq .u64 .i64 (b8 + b9) underlying3 underlying172 krf (w_shr .u64 .u64 (zaa .u64 (b8 + b9)) (1 : Int) 2 krf krf (by decide) (by decide) (by decide) ?_)))))))
 refine alq .i64 .u64 ((zaa .u64 (b8 + b9)) / 2) underlying172 underlying3 krf (wp 1 (nq (cs (gi b6 fun k2 b6 => gi b6 fun k3 b6 => gi b6 fun k4 b6 => gi b6 fun k5 b6 => aeg 9 (fun j_ w_ w_' => acg [4, 9, 10] (fun w' => Rd w' a0 (zae aaa a5)) j_ w_ w_' ∧ acg [9, 10] (fun w' => Rd w' a0 (zae aaa a5)) j_ w_ w_' ∧ acg [8, 9, 10] (fun w' => Rd w' a0 (zae aaa a5)) j_ w_ w_' ∧ True) [false, false, false, false, false, false, false, false, false, false, false] (fun _ _ => ⟨acg.same, acg.same, acg.same, trivial⟩) krf krf g5 rfl (adc (aaq (aaw (aaq (aaw (aaw aco)))))) fun t5 d3 => ?_))))
 refine rp 6 [0, 1, 2] (aaz [true, true, true, true, false, false, false, false, false, false, false] 3 43 (Vp (some (ea a0 ((zaa .i64 ((zaa .u64 (b8 + b9)) / 2)).toNat * 3)))) [4, 9, 10] (fun _ _ _ h => h.1) _ rfl rfl krf krf krf krf krf rfl (abc rfl (by intro w hS_; exact (amp a0 a5.length a6 46 3 .i64 (zaa .i64 ((zaa .u64 (b8 + b9)) / 2)) underlying22 krf krf krf a5 rfl k2 hS_ aab (by decide)))) (by exact (d3.rdrw 0 rfl)) (aaz [true, true, true, true, true, false, false, false, false, false, false] 4 44 (zal #[(str ((el a5 (zaa .i64 ((zaa .u64 (b8 + b9)) / 2))).1)), (str ((el a5 (zaa .i64 ((zaa .u64 (b8 + b9)) / 2))).2.1)), (Vb ((el a5 (zaa .i64 ((zaa .u64 (b8 + b9)) / 2))).2.2))]) [9, 10] (fun _ _ _ h => h.2.1) _ rfl rfl krf krf krf krf krf rfl (abc rfl (by intro w hS_; exact (anf a0 aaa a5 3 (zaa .i64 ((zaa .u64 (b8 + b9)) / 2)) aab hS_ [(str ((el a5 (zaa .i64 ((zaa .u64 (b8 + b9)) / 2))).1)), (str ((el a5 (zaa .i64 ((zaa .u64 (b8 + b9)) / 2))).2.1)), (Vb ((el a5 (zaa .i64 ((zaa .u64 (b8 + b9)) / 2))).2.2))] k3 krf krf krf krf (by decide)))) (by exact (d3.rdrw 0 rfl)) (rp 2 [5, 6] (aaz [true, true, true, true, true, true, true, true, false, false, false] 7 47 (Vp (some (ea a0 (a8.toNat * 3)))) [8, 9, 10] (fun _ _ _ h => h.2.2.1) _ rfl rfl krf krf krf krf krf rfl (abc rfl (by intro w hS_; exact (amp a0 a5.length a6 46 3 .i64 a8 underlying22 krf krf krf a5 rfl k4 hS_ aab (by decide)))) (by exact (d3.rdrw 0 rfl)) (aaz [true, true, true, true, true, true, true, true, true, false, false] 8 48 (zal #[(str ((el a5 a8).1)), (str ((el a5 a8).2.1)), (Vb ((el a5 a8).2.2))]) [9, 10] (fun _ _ _ h => h.2.1) _ rfl rfl krf krf krf krf krf rfl (abc rfl (by intro w hS_; exact (anf a0 aaa a5 3 a8 aab hS_ (Zz3 a5 a8) k5 krf krf krf krf (by decide)))) (by exact (d3.rdrw 0 rfl)) (adf krf (bi b6 fun t6 k6 b6 => wc ent130 d3 (aig k6 (hG.hp d3 hS)) fun t7 g6 => wp 1 ?_)))))))
 refine nq (cd b6 (fun k7 b6 => ?_) (fun k7 b6 => ?_))
 exact cr (wp 1 (gi b6 fun k8 b6 => aap (zaa .i64 ((zaa .u64 (b8 + b9)) / 2)) (1 : Int) krf krf k8 (wp 1 (wl (bn (ql (le' ((zaa .i64 ((zaa .u64 (b8 + b9)) / 2)) + (1 : Int), b9) g6.kp b6)))))))
 exact cr (wp 2 (wl (bn (ql (le' (b8, zaa .i64 ((zaa .u64 (b8 + b9)) / 2)) g6.kp b6)))))
 refine acq (acp (acx (acr (ql ?_))))
 obtain rfl := oi b6
 exact je g5.kp
 intro t8 G k9
 refine bi c3 fun g7 l0 c3 => cut (σ := (List PQ)) [0, 1, 2, 3, 4] (fun d4 => [(0, (Vs a0 d4.length a6))]) (fun d4 w' => Hp w (abf (Zz8 a7 a0 a6 a5)) (Zz8 a7 a0 a6 d4) w' ∧ d4.length = a5.length ∧ d4 = g7) ?_ ?_
 refine sr (wp 2 (nq (ce (lpG (σ := Nat × (List PQ) × Int) [0, 1, 2, 3, 4, 10, 13] (fun ⟨d0, a3, a1⟩ => [(0, (Vs a0 a3.length a6)), (13, (Vi .i64 a1))]) (fun ⟨d0, a3, a1⟩ w' => Hp w (abf (Zz8 a7 a0 a6 a5)) (Zz8 a7 a0 a6 a3) w' ∧ a3.length = a5.length ∧ aau fu f1 d0 a3 a1 = some g7) (fun ⟨d0, a3, a1⟩ => d0) (fu, a5, a8) (by exact ⟨k9.kp, lsz, l0⟩) ?_))))
 rintro ⟨_ | d0, a3, a1⟩ t9 G ⟨e1, u0, b0⟩
 · exact nzz b0
 rw [aau.eq_2] at b0
 refine cs (sr (wp 2 (gi b0 fun l1 b0 => adm f1 (1 : Int) krf krf l1 (wp 1 (nq (cd b0 (fun l2 b0 => ?_) (fun l2 b0 => ?_)))))))
 refine ck (qn (cs (ce (gi b0 fun l3 b0 => gi b0 fun l4 b0 => gi b0 fun g8 b0 => ?_))))
 have l5 := afd (e1.rdrw 0 rfl) aab (by decide) g8
 refine gi b0 fun g9 b0 => gi b0 fun h0 b0 => ?_
 have l6 := afd (e1.rdrw 0 rfl) aab (by decide) h0
 refine gi b0 fun h1 b0 => gi b0 fun f2 b0 => ?_
 have h2 := afd (e1.rdrw 0 rfl) aab (by decide) f2
 refine gi b0 fun h3 b0 => cdr 16 e1 (aaq (adc (aaw (aaq (aaw (aaw aco)))))) fun u1 d5 => rp 12 [0, 1, 2, 3] (rt 4 (Vi .i64 (a1 + (1 : Int))) rfl rfl (abc rfl (by intro w hS_; exact (ajt a1 (1 : Int) krf krf l3))) (rp 9 [5, 6] (rt 7 (Vi .i64 (a1 + (1 : Int))) rfl rfl (abc rfl (by intro w hS_; exact (ajt a1 (1 : Int) krf krf l4))) (rt 8 (Vp (some (ea a0 ((a1 + (1 : Int)).toNat * 3)))) rfl rfl (abc rfl (by intro w hS_; exact (ajs a0 a3.length a6 46 3 .i64 (a1 + (1 : Int)) underlying22 krf krf krf (aew (l := a3) rfl g8) l5))) (rp 5 [10, 11] (rt 12 (Vp (some (ea a0 (a1.toNat * 3)))) rfl rfl (abc rfl (by intro w hS_; exact (ajs a0 a3.length a6 46 3 .i64 a1 underlying22 krf krf krf (aew (l := a3) rfl h0) l6))) (r_one2 (Zz18) (Zz23) 9 13 _ _ rfl rfl krf krf krf rfl rfl ?_ ?_)))))))
 refine ahv a0 aaa a3 3 (a1 + (1 : Int)) aab (d5.rdrw 0 rfl) (Zz17 a3 a1) g9 krf krf krf krf (by decide) (wl (ack (by exact trivial) (ro 13 rfl (ahv a0 aaa a3 3 a1 aab (d5.rdrw 0 rfl) (Zz3 a3 a1) h1 krf krf krf krf (by decide) (wl (ack (by exact trivial) (rt 14 (Vp (some (ea a0 (a1.toNat * 3)))) rfl rfl (abc rfl (by intro w hS_; exact (ajs a0 a3.length a6 46 3 .i64 a1 underlying22 krf krf krf (aew (l := a3) rfl f2) h2))) (ro 15 rfl (aju d5 0 a7 a0 a6 46 3 a1 a3 ((el a3 (a1 + (1 : Int))).1, (el a3 (a1 + (1 : Int))).2.1, ((el a3 (a1 + (1 : Int))).2.2)) rfl aab (Zz17 a3 a1) h3 krf krf krf (by decide) krf fun f3 c5 => ?_)))))))))
 replace c5 : Hp w (abf (Zz8 a7 a0 a6 a5)) (Zz36 a7 a0 a6 a3 a1) f3 := c5
 refine wl (ack (by exact trivial) (adf krf (gi b0 fun l7 b0 => aiy a0 a3.length a6 46 3 .i64 (a1 + (1 : Int)) underlying22 krf krf krf (zaf a3 (zac a1) ((el a3 (a1 + (1 : Int))).1, (el a3 (a1 + (1 : Int))).2.1, ((el a3 (a1 + (1 : Int))).2.2))) (by first | rfl | (simp; done) | omega | (simp; omega) | (rw [zah]; omega)) l7 (c5.rdrw 0 rfl) aab (by decide) (gi b0 fun l8 b0 => aju c5 0 a7 a0 a6 46 3 (a1 + (1 : Int)) (zaf a3 (zac a1) ((el a3 (a1 + (1 : Int))).1, (el a3 (a1 + (1 : Int))).2.1, ((el a3 (a1 + (1 : Int))).2.2))) ((el a3 a1).1, (el a3 a1).2.1, ((el a3 a1).2.2)) rfl aab (Zz3 a3 a1) l8 krf krf krf (by decide) krf fun l9 f4 => ?_))))
 replace f4 : Hp w (abf (Zz8 a7 a0 a6 a5)) (Zz20 a7 a0 a6 a3 a1) l9 := f4
 refine wl (bn (qn (cr (wp 1 (gi b0 fun m0 b0 => aap a1 (1 : Int) krf krf m0 (wp 1 (wl (ql ?_))))))))
 exact ⟨(d0, zaf (zaf a3 (zac a1) ((el a3 (a1 + (1 : Int))).1, (el a3 (a1 + (1 : Int))).2.1, ((el a3 (a1 + (1 : Int))).2.2))) (zac (a1 + (1 : Int))) ((el a3 a1).1, (el a3 a1).2.1, ((el a3 a1).2.2)), a1 + (1 : Int)), _, rfl, (mc (Eq.trans (b := (Vs a0 a3.length a6)) krf (aak lsy)) (mc krf (mc krf (mc krf (mc krf (mc krf (mc krf rfl))))))), ⟨f4.kp, lsz, b0⟩, zad _⟩
 refine ahv a0 aaa a3 3 a1 aab (d5.rdrw 0 rfl) (Zz3 a3 a1) h1 krf krf krf krf (by decide) (wl (ack (by exact trivial) (ro 9 rfl (ahv a0 aaa a3 3 (a1 + (1 : Int)) aab (d5.rdrw 0 rfl) (Zz17 a3 a1) g9 krf krf krf krf (by decide) (wl (ack (by exact trivial) (rt 14 (Vp (some (ea a0 (a1.toNat * 3)))) rfl rfl (abc rfl (by intro w hS_; exact (ajs a0 a3.length a6 46 3 .i64 a1 underlying22 krf krf krf (aew (l := a3) rfl f2) h2))) (ro 15 rfl (aju d5 0 a7 a0 a6 46 3 a1 a3 ((el a3 (a1 + (1 : Int))).1, (el a3 (a1 + (1 : Int))).2.1, ((el a3 (a1 + (1 : Int))).2.2)) rfl aab (Zz17 a3 a1) h3 krf krf krf (by decide) krf fun f3 c5 => ?_)))))))))
 replace c5 : Hp w (abf (Zz8 a7 a0 a6 a5)) (Zz36 a7 a0 a6 a3 a1) f3 := c5
 refine wl (ack (by exact trivial) (adf krf (gi b0 fun m1 b0 => aiy a0 a3.length a6 46 3 .i64 (a1 + (1 : Int)) underlying22 krf krf krf (zaf a3 (zac a1) ((el a3 (a1 + (1 : Int))).1, (el a3 (a1 + (1 : Int))).2.1, ((el a3 (a1 + (1 : Int))).2.2))) (by first | rfl | (simp; done) | omega | (simp; omega) | (rw [zah]; omega)) m1 (c5.rdrw 0 rfl) aab (by decide) (gi b0 fun m2 b0 => aju c5 0 a7 a0 a6 46 3 (a1 + (1 : Int)) (zaf a3 (zac a1) ((el a3 (a1 + (1 : Int))).1, (el a3 (a1 + (1 : Int))).2.1, ((el a3 (a1 + (1 : Int))).2.2))) ((el a3 a1).1, (el a3 a1).2.1, ((el a3 a1).2.2)) rfl aab (Zz3 a3 a1) m2 krf krf krf (by decide) krf fun m3 f5 => ?_))))
 replace f5 : Hp w (abf (Zz8 a7 a0 a6 a5)) (Zz20 a7 a0 a6 a3 a1) m3 := f5
 refine wl (bn (qn (cr (wp 1 (gi b0 fun m4 b0 => aap a1 (1 : Int) krf krf m4 (wp 1 (wl (ql ?_))))))))
 exact ⟨(d0, zaf (zaf a3 (zac a1) ((el a3 (a1 + (1 : Int))).1, (el a3 (a1 + (1 : Int))).2.1, ((el a3 (a1 + (1 : Int))).2.2))) (zac (a1 + (1 : Int))) ((el a3 a1).1, (el a3 a1).2.1, ((el a3 a1).2.2)), a1 + (1 : Int)), _, rfl, (mc (Eq.trans (b := (Vs a0 a3.length a6)) krf (aak lsy)) (mc krf (mc krf (mc krf (mc krf (mc krf (mc krf rfl))))))), ⟨f5.kp, lsz, b0⟩, zad _⟩
 refine acq (acp (acx (acr (ql ?_))))
 obtain rfl := oi b0
 exact ⟨a3, _, rfl, by kernel_rfl, e1.kp, lsz, rfl⟩
 rintro d4 u2 G ⟨m5, u3, rfl⟩
 refine ct (aff ?_)
 obtain rfl := oi c3
 obtain rfl := oi hr
 refine r_none  rfl  ?_
 exact ⟨(by first | rfl | (simp; done) | (simp; omega)), lsz, m5.kp⟩
 refine ck (ql ?_)
 obtain rfl := oi c3
 exact je1 rfl hH.kp
 rintro j6 u4 G e9 rfl
 refine bi hr fun m6 c4 hr => cut1 e9 m6 [0, 1, 2, 3, 4] (fun m7 => []) ?_ ?_
 refine sr (wp 2 (gi c4 fun m8 c4 => adm b2 a9 krf krf m8 (wp 1 (nq (cd c4 (fun m9 c4 => ?_) (fun m9 c4 => ?_))))))
 refine sr (wp 2 (nq (sr (wp 2 (nq ?_)))))
 refine bi c4 fun h4 n0 c4 => aij e9 [0, 1, 2, 3, 4, 14] [(14, (Vi .i64 h4))] ?_ ?_
 refine ce (lpS (fun h5 ⟨c0, c1⟩ => aam fu a5 a9 h5 c0 c1) (a8, a9) e9 n0 [0, 1, 2, 3, 4, 14, 15] (fun ⟨c0, c1⟩ => [(14, (Vi .i64 c0)), (15, (Vi .i64 c1))]) (fun _ => rfl) ?_)
 rintro h5 ⟨c0, c1⟩ u5 G h6 b7
 dsimp only at b7
 rw [aam.eq_2] at b7
 refine cs (sr (wp 3 (nq (cd b7 (fun n1 b7 => ?_) (fun n1 b7 => ?_)))))
 refine ck (qn (ce (sr (wp 2 (gi b7 fun n2 b7 => aap c0 c1 krf krf n2 (alq .u64 .i64 (c0 + c1) underlying3 underlying172 krf (w_shr .u64 .u64 (zaa .u64 (c0 + c1)) (1 : Int) 2 krf krf (by decide) (by decide) (by decide) ?_)))))))
 refine alq .i64 .u64 ((zaa .u64 (c0 + c1)) / 2) underlying172 underlying3 krf (wp 1 (nq (cs (gi b7 fun n3 b7 => gi b7 fun n4 b7 => gi b7 fun n5 b7 => gi b7 fun n6 b7 => aeg 9 (fun j_ w_ w_' => acg [4, 9, 10, 11] (fun w' => Rd w' a0 (zae aaa a5)) j_ w_ w_' ∧ acg [9, 10, 11] (fun w' => Rd w' a0 (zae aaa a5)) j_ w_ w_' ∧ acg [8, 9, 10, 11] (fun w' => Rd w' a0 (zae aaa a5)) j_ w_ w_' ∧ True) (Zz39) (fun _ _ => ⟨acg.same, acg.same, acg.same, trivial⟩) krf krf h6 rfl (adc (aaq (aaw (aaq (aaw (aaw aco)))))) fun u6 d6 => ?_))))
 refine rp 6 [0, 1, 2] (aaz (Zz59) 3 95 (Vp (some (ea a0 (a9.toNat * 3)))) [4, 9, 10, 11] (fun _ _ _ h => h.1) _ rfl rfl krf krf krf krf krf rfl (abc rfl (by intro w hS_; exact (amp a0 a5.length a6 46 3 .i64 a9 underlying22 krf krf krf a5 rfl n3 hS_ aab (by decide)))) (by exact (d6.rdrw 0 rfl)) (aaz (Zz47) 4 96 (zal #[(str ((el a5 a9).1)), (str ((el a5 a9).2.1)), (Vb ((el a5 a9).2.2))]) [9, 10, 11] (fun _ _ _ h => h.2.1) _ rfl rfl krf krf krf krf krf rfl (abc rfl (by intro w hS_; exact (anf a0 aaa a5 3 a9 aab hS_ (Zz3 a5 a9) n4 krf krf krf krf (by decide)))) (by exact (d6.rdrw 0 rfl)) (rp 2 [5, 6] (aaz [true, true, true, true, true, true, true, true, false, false, false, false] 7 99 (Vp (some (ea a0 ((zaa .i64 ((zaa .u64 (c0 + c1)) / 2)).toNat * 3)))) [8, 9, 10, 11] (fun _ _ _ h => h.2.2.1) _ rfl rfl krf krf krf krf krf rfl (abc rfl (by intro w hS_; exact (amp a0 a5.length a6 46 3 .i64 (zaa .i64 ((zaa .u64 (c0 + c1)) / 2)) underlying22 krf krf krf a5 rfl n5 hS_ aab (by decide)))) (by exact (d6.rdrw 0 rfl)) (aaz (Zz50) 8 100 (zal #[(str ((el a5 (zaa .i64 ((zaa .u64 (c0 + c1)) / 2))).1)), (str ((el a5 (zaa .i64 ((zaa .u64 (c0 + c1)) / 2))).2.1)), (Vb ((el a5 (zaa .i64 ((zaa .u64 (c0 + c1)) / 2))).2.2))]) [9, 10, 11] (fun _ _ _ h => h.2.1) _ rfl rfl krf krf krf krf krf rfl (abc rfl (by intro w hS_; exact (anf a0 aaa a5 3 (zaa .i64 ((zaa .u64 (c0 + c1)) / 2)) aab hS_ [(str ((el a5 (zaa .i64 ((zaa .u64 (c0 + c1)) / 2))).1)), (str ((el a5 (zaa .i64 ((zaa .u64 (c0 + c1)) / 2))).2.1)), (Vb ((el a5 (zaa .i64 ((zaa .u64 (c0 + c1)) / 2))).2.2))] n6 krf krf krf krf (by decide)))) (by exact (d6.rdrw 0 rfl)) (adf krf (bi b7 fun u7 n7 b7 => wc ent130 d6 (aig n7 (hG.hp d6 hS)) fun u9 h7 => wp 2 ?_)))))))
 refine nq (cn b7 (fun n8 b7 => ?_) (fun n8 b7 => ?_))
 exact cr (wp 1 (gi b7 fun n9 b7 => aap (zaa .i64 ((zaa .u64 (c0 + c1)) / 2)) (1 : Int) krf krf n9 (wp 1 (wl (bn (ql (le' ((zaa .i64 ((zaa .u64 (c0 + c1)) / 2)) + (1 : Int), c1) h7.kp b7)))))))
 exact cr (wp 2 (wl (bn (ql (le' (c0, zaa .i64 ((zaa .u64 (c0 + c1)) / 2)) h7.kp b7)))))
 refine acq (acp (acx (acr (ql ?_))))
 obtain rfl := oi b7
 exact je h6.kp
 intro v0 G o0
 refine bi c4 fun h8 o1 c4 => cut (σ := (List PQ)) [0, 1, 2, 3, 4] (fun d7 => [(0, (Vs a0 d7.length a6))]) (fun d7 w' => Hp w (abf (Zz8 a7 a0 a6 a5)) (Zz8 a7 a0 a6 d7) w' ∧ d7.length = a5.length ∧ d7 = h8) ?_ ?_
 refine sr (wp 2 (nq (ce (lpG (σ := Nat × (List PQ) × Int) [0, 1, 2, 3, 4, 14, 17] (fun ⟨d1, a4, a2⟩ => [(0, (Vs a0 a4.length a6)), (17, (Vi .i64 a2))]) (fun ⟨d1, a4, a2⟩ w' => Hp w (abf (Zz8 a7 a0 a6 a5)) (Zz8 a7 a0 a6 a4) w' ∧ a4.length = a5.length ∧ aat fu h4 d1 a4 a2 = some h8) (fun ⟨d1, a4, a2⟩ => d1) (fu, a5, a9) (by exact ⟨o0.kp, lsz, o1⟩) ?_))))
 rintro ⟨_ | d1, a4, a2⟩ v1 G ⟨e2, v2, b1⟩
 · exact nzz b1
 rw [aat.eq_2] at b1
 refine cs (sr (wp 3 (nq (cd b1 (fun o2 b1 => ?_) (fun o2 b1 => ?_)))))
 refine ck (qn (cs (ce (gi b1 fun o3 b1 => gi b1 fun o4 b1 => gi b1 fun h9 b1 => ?_))))
 have o5 := afd (e2.rdrw 0 rfl) aab (by decide) h9
 refine gi b1 fun i0 b1 => gi b1 fun i1 b1 => ?_
 have o6 := afd (e2.rdrw 0 rfl) aab (by decide) i1
 refine gi b1 fun i2 b1 => gi b1 fun f6 b1 => ?_
 have i3 := afd (e2.rdrw 0 rfl) aab (by decide) f6
 refine gi b1 fun i4 b1 => cdr 16 e2 (aaq (adc (aaw (aaq (aaw (aaw aco)))))) fun v3 d8 => rp 12 [0, 1, 2, 3] (rt 4 (Vi .i64 (a2 - (1 : Int))) rfl rfl (abc rfl (by intro w hS_; exact (ajr a2 (1 : Int) krf krf o3))) (rp 9 [5, 6] (rt 7 (Vi .i64 (a2 - (1 : Int))) rfl rfl (abc rfl (by intro w hS_; exact (ajr a2 (1 : Int) krf krf o4))) (rt 8 (Vp (some (ea a0 ((a2 - (1 : Int)).toNat * 3)))) rfl rfl (abc rfl (by intro w hS_; exact (ajs a0 a4.length a6 46 3 .i64 (a2 - (1 : Int)) underlying22 krf krf krf (aew (l := a4) rfl h9) o5))) (rp 5 [10, 11] (rt 12 (Vp (some (ea a0 (a2.toNat * 3)))) rfl rfl (abc rfl (by intro w hS_; exact (ajs a0 a4.length a6 46 3 .i64 a2 underlying22 krf krf krf (aew (l := a4) rfl i1) o6))) (r_one2 (Zz18) (Zz23) 9 13 _ _ rfl rfl krf krf krf rfl rfl ?_ ?_)))))))
 refine ahv a0 aaa a4 3 (a2 - (1 : Int)) aab (d8.rdrw 0 rfl) (Zz7 a4 a2) i0 krf krf krf krf (by decide) (wl (ack (by exact trivial) (ro 13 rfl (ahv a0 aaa a4 3 a2 aab (d8.rdrw 0 rfl) (Zz3 a4 a2) i2 krf krf krf krf (by decide) (wl (ack (by exact trivial) (rt 14 (Vp (some (ea a0 (a2.toNat * 3)))) rfl rfl (abc rfl (by intro w hS_; exact (ajs a0 a4.length a6 46 3 .i64 a2 underlying22 krf krf krf (aew (l := a4) rfl f6) i3))) (ro 15 rfl (aju d8 0 a7 a0 a6 46 3 a2 a4 ((el a4 (a2 - (1 : Int))).1, (el a4 (a2 - (1 : Int))).2.1, ((el a4 (a2 - (1 : Int))).2.2)) rfl aab (Zz7 a4 a2) i4 krf krf krf (by decide) krf fun f7 c6 => ?_)))))))))
 replace c6 : Hp w (abf (Zz8 a7 a0 a6 a5)) (Zz13 a7 a0 a6 a4 a2) f7 := c6
 refine wl (ack (by exact trivial) (adf krf (gi b1 fun o7 b1 => aiy a0 a4.length a6 46 3 .i64 (a2 - (1 : Int)) underlying22 krf krf krf (zaf a4 (zac a2) ((el a4 (a2 - (1 : Int))).1, (el a4 (a2 - (1 : Int))).2.1, ((el a4 (a2 - (1 : Int))).2.2))) (by first | rfl | (simp; done) | omega | (simp; omega) | (rw [zah]; omega)) o7 (c6.rdrw 0 rfl) aab (by decide) (gi b1 fun o8 b1 => aju c6 0 a7 a0 a6 46 3 (a2 - (1 : Int)) (zaf a4 (zac a2) ((el a4 (a2 - (1 : Int))).1, (el a4 (a2 - (1 : Int))).2.1, ((el a4 (a2 - (1 : Int))).2.2))) ((el a4 a2).1, (el a4 a2).2.1, ((el a4 a2).2.2)) rfl aab (Zz3 a4 a2) o8 krf krf krf (by decide) krf fun o9 f8 => ?_))))
 replace f8 : Hp w (abf (Zz8 a7 a0 a6 a5)) (Zz9 a7 a0 a6 a4 a2) o9 := f8
 refine wl (bn (qn (cr (wp 1 (gi b1 fun p0 b1 => adm a2 (1 : Int) krf krf p0 (wp 1 (wl (ql ?_))))))))
 exact ⟨(d1, zaf (zaf a4 (zac a2) ((el a4 (a2 - (1 : Int))).1, (el a4 (a2 - (1 : Int))).2.1, ((el a4 (a2 - (1 : Int))).2.2))) (zac (a2 - (1 : Int))) ((el a4 a2).1, (el a4 a2).2.1, ((el a4 a2).2.2)), a2 - (1 : Int)), _, rfl, (mc (Eq.trans (b := (Vs a0 a4.length a6)) krf (aak lsy)) (mc krf (mc krf (mc krf (mc krf (mc krf (mc krf rfl))))))), ⟨f8.kp, lsz, b1⟩, zad _⟩
 refine ahv a0 aaa a4 3 a2 aab (d8.rdrw 0 rfl) (Zz3 a4 a2) i2 krf krf krf krf (by decide) (wl (ack (by exact trivial) (ro 9 rfl (ahv a0 aaa a4 3 (a2 - (1 : Int)) aab (d8.rdrw 0 rfl) (Zz7 a4 a2) i0 krf krf krf krf (by decide) (wl (ack (by exact trivial) (rt 14 (Vp (some (ea a0 (a2.toNat * 3)))) rfl rfl (abc rfl (by intro w hS_; exact (ajs a0 a4.length a6 46 3 .i64 a2 underlying22 krf krf krf (aew (l := a4) rfl f6) i3))) (ro 15 rfl (aju d8 0 a7 a0 a6 46 3 a2 a4 ((el a4 (a2 - (1 : Int))).1, (el a4 (a2 - (1 : Int))).2.1, ((el a4 (a2 - (1 : Int))).2.2)) rfl aab (Zz7 a4 a2) i4 krf krf krf (by decide) krf fun f7 c6 => ?_)))))))))
 replace c6 : Hp w (abf (Zz8 a7 a0 a6 a5)) (Zz13 a7 a0 a6 a4 a2) f7 := c6
 refine wl (ack (by exact trivial) (adf krf (gi b1 fun p1 b1 => aiy a0 a4.length a6 46 3 .i64 (a2 - (1 : Int)) underlying22 krf krf krf (zaf a4 (zac a2) ((el a4 (a2 - (1 : Int))).1, (el a4 (a2 - (1 : Int))).2.1, ((el a4 (a2 - (1 : Int))).2.2))) (by first | rfl | (simp; done) | omega | (simp; omega) | (rw [zah]; omega)) p1 (c6.rdrw 0 rfl) aab (by decide) (gi b1 fun p2 b1 => aju c6 0 a7 a0 a6 46 3 (a2 - (1 : Int)) (zaf a4 (zac a2) ((el a4 (a2 - (1 : Int))).1, (el a4 (a2 - (1 : Int))).2.1, ((el a4 (a2 - (1 : Int))).2.2))) ((el a4 a2).1, (el a4 a2).2.1, ((el a4 a2).2.2)) rfl aab (Zz3 a4 a2) p2 krf krf krf (by decide) krf fun p3 f9 => ?_))))
 replace f9 : Hp w (abf (Zz8 a7 a0 a6 a5)) (Zz9 a7 a0 a6 a4 a2) p3 := f9
 refine wl (bn (qn (cr (wp 1 (gi b1 fun p4 b1 => adm a2 (1 : Int) krf krf p4 (wp 1 (wl (ql ?_))))))))
 exact ⟨(d1, zaf (zaf a4 (zac a2) ((el a4 (a2 - (1 : Int))).1, (el a4 (a2 - (1 : Int))).2.1, ((el a4 (a2 - (1 : Int))).2.2))) (zac (a2 - (1 : Int))) ((el a4 a2).1, (el a4 a2).2.1, ((el a4 a2).2.2)), a2 - (1 : Int)), _, rfl, (mc (Eq.trans (b := (Vs a0 a4.length a6)) krf (aak lsy)) (mc krf (mc krf (mc krf (mc krf (mc krf (mc krf rfl))))))), ⟨f9.kp, lsz, b1⟩, zad _⟩
 refine acq (acp (acx (acr (ql ?_))))
 obtain rfl := oi b1
 exact ⟨a4, _, rfl, by kernel_rfl, e2.kp, lsz, rfl⟩
 rintro d7 v4 G ⟨p5, v5, rfl⟩
 refine ct (aff ?_)
 obtain rfl := oi c4
 obtain rfl := oi hr
 refine r_none  rfl  ?_
 exact ⟨(by first | rfl | (simp; done) | (simp; omega)), lsz, p5.kp⟩
 refine ck (ql ?_)
 obtain rfl := oi c4
 exact je1 rfl e9.kp
 rintro m7 v6 G g0 rfl
 refine sr (wp 2 (gi hr fun p6 hr => aap a8 b2 krf krf p6 (alq .u64 .i64 (a8 + b2) underlying3 underlying172 krf (w_shr .u64 .u64 (zaa .u64 (a8 + b2)) (1 : Int) 2 krf krf (by decide) (by decide) (by decide) (alq .i64 .u64 ((zaa .u64 (a8 + b2)) / 2) underlying172 underlying3 krf (wp 1 (wl ?_)))))))
 refine qn (sr (wp 2 (gi hr fun p7 hr => aap (zaa .i64 ((zaa .u64 (a8 + b2)) / 2)) a9 krf krf p7 (wp 1 (nq (cs ?_))))))
 refine cr (wp 2 (nq (bi hr fun f0 d2 hr => aij g0 [0, 1, 2, 3, 4, 18, 19, 20, 21] [(20, (Vi .i64 f0.1)), (21, (Vi .i64 f0.2))] ?_ ?_)))
 refine sr (wp 3 (nq (cd d2 (fun p8 d2 => ?_) (fun p8 d2 => ?_))))
 refine sr (wp 2 (gi d2 fun p9 d2 => adm ((zaa .i64 ((zaa .u64 (a8 + b2)) / 2)) + a9) b2 krf krf p9 (wp 1 (nq (cr (wp 2 ?_))))))
 refine wl (ql ?_)
 obtain rfl := oi d2
 exact je g0.kp
 refine sr (wp 2 (nq (cr (wp 2 (wl (ql ?_))))))
 obtain rfl := oi d2
 exact je g0.kp
 intro v7 G i5
 refine sr (wp 1 (gi hr fun q0 hr => adm ((zaa .i64 ((zaa .u64 (a8 + b2)) / 2)) + a9) (1 : Int) krf krf q0 (wp 1 (nq (bi hr fun d9 q1 hr => aij i5 [0, 1, 2, 3, 4, 18, 19, 20] [(20, (Vi .i64 d9))] ?_ ?_)))))
 refine ce (lpS (fun i6 ⟨b3, b4⟩ => aal fu a5 a8 a9 b2 i6 b3 b4) (f0.1, f0.2) i5 q1 [0, 1, 2, 3, 4, 18, 19, 20, 21, 22] (fun ⟨b3, b4⟩ => [(20, (Vi .i64 b3)), (21, (Vi .i64 b4))]) (fun _ => rfl) ?_)
 rintro i6 ⟨b3, b4⟩ v8 G i7 b5
 dsimp only at b5
 rw [aal.eq_2] at b5
 refine cs (sr (wp 3 (nq (cd b5 (fun q2 b5 => ?_) (fun q2 b5 => ?_)))))
 refine ck (qn (ce (sr (wp 2 (gi b5 fun q3 b5 => aap b3 b4 krf krf q3 (alq .u64 .i64 (b3 + b4) underlying3 underlying172 krf (w_shr .u64 .u64 (zaa .u64 (b3 + b4)) (1 : Int) 2 krf krf (by decide) (by decide) (by decide) ?_)))))))
 refine alq .i64 .u64 ((zaa .u64 (b3 + b4)) / 2) underlying172 underlying3 krf (wp 1 (nq (cs (gi b5 fun q4 b5 => gi b5 fun q5 b5 => gi b5 fun q6 b5 => gi b5 fun q7 b5 => gi b5 fun q8 b5 => ?_))))
 refine aeg 11 (fun j_ w_ w_' => acg [6, 11, 12, 13] (fun w' => Rd w' a0 (zae aaa a5)) j_ w_ w_' ∧ acg [11, 12, 13] (fun w' => Rd w' a0 (zae aaa a5)) j_ w_ w_' ∧ acg [10, 11, 12, 13] (fun w' => Rd w' a0 (zae aaa a5)) j_ w_ w_' ∧ True) (Zz54) (fun _ _ => ⟨acg.same, acg.same, acg.same, trivial⟩) krf krf i7 rfl (adc (aaq (aaw (aaq (aaw aco))))) fun v9 e0 => rp 7 [0, 1, 2, 3] (rt 4 (Vi .i64 ((((zaa .i64 ((zaa .u64 (a8 + b2)) / 2)) + a9) - (1 : Int)) - (zaa .i64 ((zaa .u64 (b3 + b4)) / 2)))) rfl rfl (abc rfl (by intro w hS_; exact (ajr (((zaa .i64 ((zaa .u64 (a8 + b2)) / 2)) + a9) - (1 : Int)) (zaa .i64 ((zaa .u64 (b3 + b4)) / 2)) krf krf q4))) (aaz (Zz56) 5 163 (Vp (some (ea a0 (((((zaa .i64 ((zaa .u64 (a8 + b2)) / 2)) + a9) - (1 : Int)) - (zaa .i64 ((zaa .u64 (b3 + b4)) / 2))).toNat * 3)))) [6, 11, 12, 13] (fun _ _ _ h => h.1) _ rfl rfl krf krf krf krf krf rfl (abc rfl (by intro w hS_; exact (amp a0 a5.length a6 46 3 .i64 ((((zaa .i64 ((zaa .u64 (a8 + b2)) / 2)) + a9) - (1 : Int)) - (zaa .i64 ((zaa .u64 (b3 + b4)) / 2))) underlying22 krf krf krf a5 rfl q5 hS_ aab (by decide)))) (by exact (e0.rdrw 0 rfl)) (aaz [true, true, true, true, true, true, true, false, false, false, false, false, false, false] 6 164 (zal #[(str ((el a5 ((((zaa .i64 ((zaa .u64 (a8 + b2)) / 2)) + a9) - (1 : Int)) - (zaa .i64 ((zaa .u64 (b3 + b4)) / 2)))).1)), (str ((el a5 ((((zaa .i64 ((zaa .u64 (a8 + b2)) / 2)) + a9) - (1 : Int)) - (zaa .i64 ((zaa .u64 (b3 + b4)) / 2)))).2.1)), (Vb ((el a5 ((((zaa .i64 ((zaa .u64 (a8 + b2)) / 2)) + a9) - (1 : Int)) - (zaa .i64 ((zaa .u64 (b3 + b4)) / 2)))).2.2))]) [11, 12, 13] (fun _ _ _ h => h.2.1) _ rfl rfl krf krf krf krf krf rfl (abc rfl (by intro w hS_; exact (anf a0 aaa a5 3 ((((zaa .i64 ((zaa .u64 (a8 + b2)) / 2)) + a9) - (1 : Int)) - (zaa .i64 ((zaa .u64 (b3 + b4)) / 2))) aab hS_ [(str ((el a5 ((((zaa .i64 ((zaa .u64 (a8 + b2)) / 2)) + a9) - (1 : Int)) - (zaa .i64 ((zaa .u64 (b3 + b4)) / 2)))).1)), (str ((el a5 ((((zaa .i64 ((zaa .u64 (a8 + b2)) / 2)) + a9) - (1 : Int)) - (zaa .i64 ((zaa .u64 (b3 + b4)) / 2)))).2.1)), (Vb ((el a5 ((((zaa .i64 ((zaa .u64 (a8 + b2)) / 2)) + a9) - (1 : Int)) - (zaa .i64 ((zaa .u64 (b3 + b4)) / 2)))).2.2))] q6 krf krf krf krf (by decide)))) (by exact (e0.rdrw 0 rfl)) (rp 2 [7, 8] (aaz (Zz57) 9 167 (Vp (some (ea a0 ((zaa .i64 ((zaa .u64 (b3 + b4)) / 2)).toNat * 3)))) [10, 11, 12, 13] (fun _ _ _ h => h.2.2.1) _ rfl rfl krf krf krf krf krf rfl (abc rfl (by intro w hS_; exact (amp a0 a5.length a6 46 3 .i64 (zaa .i64 ((zaa .u64 (b3 + b4)) / 2)) underlying22 krf krf krf a5 rfl q7 hS_ aab (by decide)))) (by exact (e0.rdrw 0 rfl)) (aaz [true, true, true, true, true, true, true, true, true, true, true, false, false, false] 10 168 (zal #[(str ((el a5 (zaa .i64 ((zaa .u64 (b3 + b4)) / 2))).1)), (str ((el a5 (zaa .i64 ((zaa .u64 (b3 + b4)) / 2))).2.1)), (Vb ((el a5 (zaa .i64 ((zaa .u64 (b3 + b4)) / 2))).2.2))]) [11, 12, 13] (fun _ _ _ h => h.2.1) _ rfl rfl krf krf krf krf krf rfl (abc rfl (by intro w hS_; exact (anf a0 aaa a5 3 (zaa .i64 ((zaa .u64 (b3 + b4)) / 2)) aab hS_ [(str ((el a5 (zaa .i64 ((zaa .u64 (b3 + b4)) / 2))).1)), (str ((el a5 (zaa .i64 ((zaa .u64 (b3 + b4)) / 2))).2.1)), (Vb ((el a5 (zaa .i64 ((zaa .u64 (b3 + b4)) / 2))).2.2))] q8 krf krf krf krf (by decide)))) (by exact (e0.rdrw 0 rfl)) (adf krf (bi b5 fun w0 q9 b5 => ?_))))))))
 refine wc ent130 e0 (aig q9 (hG.hp e0 hS)) fun w1 i9 => wp 2 (nq (cn b5 (fun r0 b5 => ?_) (fun r0 b5 => ?_)))
 exact cr (wp 1 (gi b5 fun r1 b5 => aap (zaa .i64 ((zaa .u64 (b3 + b4)) / 2)) (1 : Int) krf krf r1 (wp 1 (wl (bn (ql (le' ((zaa .i64 ((zaa .u64 (b3 + b4)) / 2)) + (1 : Int), b4) i9.kp b5)))))))
 exact cr (wp 2 (wl (bn (ql (le' (b3, zaa .i64 ((zaa .u64 (b3 + b4)) / 2)) i9.kp b5)))))
 refine acq (acp (acx (acr (ql ?_))))
 obtain rfl := oi b5
 exact je i7.kp
 intro w2 G g1
 refine sr (wp 2 (gi hr fun r2 hr => adm ((zaa .i64 ((zaa .u64 (a8 + b2)) / 2)) + a9) d9 krf krf r2 (wp 1 (nq (bi hr fun r3 c7 hr => cut (σ := (List PQ)) [0, 1, 3, 4, 18, 20, 24] (fun c2 => [(0, (Vs a0 c2.length a6))]) (fun c2 w' => Hp w (abf (Zz8 a7 a0 a6 a5)) (Zz8 a7 a0 a6 c2) w' ∧ c2.length = a5.length ∧ c2 = r3) ?_ ?_)))))
 refine bi c7 fun r4 e3 c7 => aij g1 [0, 1, 2, 3, 4, 18, 20, 24, 185] [(185, (Vb r4))] ?_ ?_
 refine cr (wp 3 (wd e3 (fun r5 e3 => ?_) (fun r5 e3 => ?_)))
 refine wp 4 (wl (ql ?_))
 obtain rfl := oi e3
 exact je g1.kp
 refine wp 4 (wl (ql ?_))
 obtain rfl := oi e3
 exact je g1.kp
 intro w3 G e4
 refine cb c7 (fun r6 c7 => ?_) (fun r6 c7 => ?_)
 refine cr (wp 5 (bi c7 fun j0 r7 c7 => aas 262 #[] [(Vs a0 a5.length a6), (Vi .i64 d9), (Vi .i64 a9), (Vi .i64 (((zaa .i64 ((zaa .u64 (a8 + b2)) / 2)) + a9) - d9)), (zao (.func 130) #[] #[])] _ ent262 krf krf (ahk a7 a0 a6 r7 (hG.hp e4 hS) (e4.hand (L1 := (Zz8 a7 a0 a6 a5)) (L2 := [])) (e4.highs hG hS 1 rfl)) ?_))
 rintro _ r8 ⟨rfl, w4, j1⟩
 have r9 : Hp w (abf (Zz8 a7 a0 a6 a5)) (Zz8 a7 a0 a6 j0) r8 := Hp.callK (L1 := (Zz8 a7 a0 a6 a5)) (L2 := []) e4 j1; clear j1
 refine wl (ql ?_)
 obtain rfl := oi c7
 exact ⟨j0, _, rfl, (mc (Eq.trans (b := (Vs a0 a5.length a6)) krf (aak lsy)) (mc krf (mc krf (mc krf (mc krf (mc krf (mc krf rfl))))))), r9.kp, lsz, rfl⟩
 refine ck (ql ?_)
 obtain rfl := oi c7
 exact ⟨a5, _, rfl, by kernel_rfl, e4.kp, lsz, rfl⟩
 rintro c2 w5 G ⟨g2, w6, rfl⟩
 refine bi hr fun s0 c8 hr => cut (σ := (List PQ)) [0, 3, 4, 18, 24] (fun c9 => [(0, (Vs a0 c9.length a6))]) (fun c9 w' => Hp w (abf (Zz8 a7 a0 a6 a5)) (Zz8 a7 a0 a6 c9) w' ∧ c9.length = c2.length ∧ c9 = s0) ?_ ?_
 refine bi c8 fun s1 e5 c8 => aij g2 [0, 1, 3, 4, 18, 20, 24, 199] [(199, (Vb s1))] ?_ ?_
 refine cr (wp 3 (wd e5 (fun s2 e5 => ?_) (fun s2 e5 => ?_)))
 refine wp 4 (wl (ql ?_))
 obtain rfl := oi e5
 exact je g2.kp
 refine wp 4 (wl (ql ?_))
 obtain rfl := oi e5
 exact je g2.kp
 intro w7 G e6
 refine cb c8 (fun s3 c8 => ?_) (fun s3 c8 => ?_)
 refine cr (wp 5 (bi c8 fun j2 s4 c8 => aas 242 #[] [(Vs a0 c2.length a6), (Vi .i64 a8), (Vi .i64 d9), (Vi .i64 (zaa .i64 ((zaa .u64 (a8 + b2)) / 2))), (zao (.func 130) #[] #[])] _ ent242 krf krf (ih a7 a0 a6 s4 (hG.hp e6 hS) (e6.hand (L1 := (Zz8 a7 a0 a6 c2)) (L2 := [])) (e6.highs hG hS 1 rfl)) ?_))
 rintro _ s5 ⟨rfl, w8, j3⟩
 have s6 : Hp w (abf (Zz8 a7 a0 a6 a5)) (Zz8 a7 a0 a6 j2) s5 := Hp.callK (L1 := (Zz8 a7 a0 a6 c2)) (L2 := []) e6 j3; clear j3
 refine wl (ql ?_)
 obtain rfl := oi c8
 exact ⟨j2, _, rfl, (mc (Eq.trans (b := (Vs a0 c2.length a6)) krf (aak lsy)) (mc krf (mc krf (mc krf (mc krf rfl))))), s6.kp, lsz, rfl⟩
 refine ck (ql ?_)
 obtain rfl := oi c8
 exact ⟨c2, _, rfl, by kernel_rfl, e6.kp, lsz, rfl⟩
 rintro c9 w9 G ⟨g3, x0, rfl⟩
 refine bi hr fun s7 e7 hr => aij g3 [0, 3, 4, 18, 24, 213] [(213, (Vb s7))] ?_ ?_
 refine cr (wp 3 (wd e7 (fun s8 e7 => ?_) (fun s8 e7 => ?_)))
 refine wp 4 (wl (ql ?_))
 obtain rfl := oi e7
 exact je g3.kp
 refine wp 4 (wl (ql ?_))
 obtain rfl := oi e7
 exact je g3.kp
 intro x2 G e8
 refine cb hr (fun s9 hr => ?_) (fun s9 hr => ?_)
 refine cr (wp 5 (bi hr fun t0 t1 hr => aas 242 #[] [(Vs a0 c9.length a6), (Vi .i64 (zaa .i64 ((zaa .u64 (a8 + b2)) / 2))), (Vi .i64 (((zaa .i64 ((zaa .u64 (a8 + b2)) / 2)) + a9) - d9)), (Vi .i64 b2), (zao (.func 130) #[] #[])] _ ent242 krf krf (ih a7 a0 a6 t1 (hG.hp e8 hS) (e8.hand (L1 := (Zz8 a7 a0 a6 c9)) (L2 := [])) (e8.highs hG hS 1 rfl)) ?_))
 rintro _ t2 ⟨rfl, x3, j4⟩
 have t3 : Hp w (abf (Zz8 a7 a0 a6 a5)) (Zz8 a7 a0 a6 t0) t2 := Hp.callK (L1 := (Zz8 a7 a0 a6 c9)) (L2 := []) e8 j4; clear j4
 refine wl ?_
 obtain rfl := oi hr
 refine ahp  rfl  ?_
 exact ⟨(by first | rfl | (simp; done) | (simp; omega)), lsz, t3.kp⟩
 refine ck ?_
 obtain rfl := oi hr
 refine ahp  rfl  ?_
 exact ⟨(by first | rfl | (simp; done) | (simp; omega)), lsz, e8.kp⟩
theorem ahj {fu : Nat} {a4 : List PQ} {b6 : Int} (a2 : Option Nat) (a0 : Option Addr) (a1 : Nat) {w : World} {r : List PQ} (hr : abx fu a4 b6 = some r) (hG : Gl w) (hM : Hp w (abf [rwt aaa 46 3 a2 a0 a1 a4]) [rwt aaa 46 3 a2 a0 a1 a4] w) (hS : ∀ b ∈ abf [rwt aaa 46 3 a2 a0 a1 a4], 9 ≤ b) : CR prog 209 [(Vs a0 a4.length a1), (Vi .i64 b6), (zao (.func 130) #[] #[])] w fun v w' => v = (zaj #[]) ∧ r.length = a4.length ∧ Hp w (abf [rwt aaa 46 3 a2 a0 a1 a4]) [rwt aaa 46 3 a2 a0 a1 r] w' := by
 have hH : Hp w (abf (Zz8 a2 a0 a1 a4)) (Zz8 a2 a0 a1 a4) w := hM
 refine enter (k := 63) func209 rfl rfl nbe ?_
 unfold abx at hr
 refine sr (wp 1 (nq (sr (wp 3 (nq ?_)))))
 refine bi hr fun c6 d6 hr => cut (σ := ((List PQ) × Int)) [0, 1, 2, 6, 7] (fun a8 => [(0, (Vs a0 a8.1.length a1)), (7, (Vi .i64 a8.2))]) (fun a8 w' => Hp w (abf (Zz8 a2 a0 a1 a4)) (Zz8 a2 a0 a1 a8.1) w' ∧ a8.1.length = a4.length ∧ a8 = c6) ?_ ?_
 refine ce (lpG (σ := Nat × (List PQ) × Int × Int) [0, 1, 2, 6, 7, 8] (fun ⟨b9, a9, b7, b3⟩ => (Zz86 a0 a9.length a1 b7 b3)) (fun ⟨b9, a9, b7, b3⟩ w' => Hp w (abf (Zz8 a2 a0 a1 a4)) (Zz8 a2 a0 a1 a9) w' ∧ a9.length = a4.length ∧ aah fu b6 b9 a9 b7 b3 = some c6) (fun ⟨b9, a9, b7, b3⟩ => b9) (fu, a4, (0 : Int), (20 : Int)) (by exact ⟨hH.kp, lsz, d6⟩) ?_)
 rintro ⟨_ | b9, a9, b7, b3⟩ g2 G ⟨c1, g3, b1⟩
 · exact nzz b1
 rw [aah.eq_2] at b1
 refine cs (sr (wp 3 (nq (cd b1 (fun d7 b1 => ?_) (fun d7 b1 => ?_)))))
 refine ck (qn (ce (sr (wp 4 (bi b1 fun c7 d8 b1 => aas 241 #[] [(Vs a0 a9.length a1), (Vi .i64 b7), (Vi .i64 b3), (zao (.func 130) #[] #[])] _ ent241 krf krf (aej a2 a0 a1 d8 (hG.hp c1 hS) (c1.hand (L1 := (Zz8 a2 a0 a1 a9)) (L2 := [])) (c1.highs hG hS 1 rfl)) ?_)))))
 rintro _ d9 ⟨rfl, g4, c8⟩
 have e0 : Hp w (abf (Zz8 a2 a0 a1 a4)) (Zz8 a2 a0 a1 c7) d9 := Hp.callK (L1 := (Zz8 a2 a0 a1 a9)) (L2 := []) c1 c8; clear c8
 refine nq (sr (wp 2 (nq (cr (wp 2 (gi b1 fun e1 b1 => ?_))))))
 refine aap b3 (20 : Int) krf krf e1 (wp 1 (wl (bn (ql ?_))))
 exact ⟨(b9, c7, b3, b3 + (20 : Int)), _, rfl, (mc (Eq.trans (b := (Vs a0 a9.length a1)) krf (aak lsy)) (mc krf (mc krf (mc krf (mc krf (mc krf rfl)))))), ⟨e0.kp, lsz, b1⟩, zad _⟩
 refine acq (acp (acx (acr (ql ?_))))
 obtain rfl := oi b1
 exact ⟨(a9, b7), _, rfl, by kernel_rfl, c1.kp, lsz, rfl⟩
 rintro a8 g5 G ⟨c4, g6, rfl⟩
 refine sr (wp 4 (bi hr fun c5 e2 hr => aas 241 #[] [(Vs a0 a8.1.length a1), (Vi .i64 a8.2), (Vi .i64 b6), (zao (.func 130) #[] #[])] _ ent241 krf krf (aej a2 a0 a1 e2 (hG.hp c4 hS) (c4.hand (L1 := (Zz8 a2 a0 a1 a8.1)) (L2 := [])) (c4.highs hG hS 1 rfl)) ?_))
 rintro _ e3 ⟨rfl, g7, c9⟩
 have e4 : Hp w (abf (Zz8 a2 a0 a1 a4)) (Zz8 a2 a0 a1 c5) e3 := Hp.callK (L1 := (Zz8 a2 a0 a1 a8.1)) (L2 := []) c4 c9; clear c9
 refine nq (ce (lpG (σ := Nat × (List PQ) × Int) [0, 1, 2, 6] (fun ⟨b8, b2, a5⟩ => [(0, (Vs a0 b2.length a1)), (6, (Vi .i64 a5))]) (fun ⟨b8, b2, a5⟩ w' => Hp w (abf (Zz8 a2 a0 a1 a4)) (Zz8 a2 a0 a1 b2) w' ∧ b2.length = c5.length ∧ aad fu b6 b8 b2 a5 = some r) (fun ⟨b8, b2, a5⟩ => b8) (fu, c5, (20 : Int)) (by exact ⟨e4.kp, lsz, hr⟩) ?_ (mc (Eq.trans (b := (Vs a0 a8.1.length a1)) krf (aak lsy)) (mc krf (mc krf (mc krf rfl))))))
 rintro ⟨_ | b8, b2, a5⟩ g8 G ⟨d0, g9, a3⟩
 · exact nzz a3
 rw [aad.eq_2] at a3
 refine cs (sr (wp 3 (nq (cd a3 (fun e5 a3 => ?_) (fun e5 a3 => ?_)))))
 refine ck (qn (ce (sr (wp 1 (gi a3 fun e6 a3 => amq (2 : Int) a5 krf krf e6 (wp 2 (wl ?_)))))))
 refine qn (bi a3 fun d1 e7 a3 => cut (σ := ((List PQ) × Int)) [0, 1, 2, 6, 7] (fun a6 => [(0, (Vs a0 a6.1.length a1)), (7, (Vi .i64 a6.2))]) (fun a6 w' => Hp w (abf (Zz8 a2 a0 a1 a4)) (Zz8 a2 a0 a1 a6.1) w' ∧ a6.1.length = b2.length ∧ a6 = d1) ?_ ?_)
 refine ce (lpG (σ := Nat × (List PQ) × Int × Int) [0, 1, 2, 6, 7, 8] (fun ⟨c0, b0, b4, b5⟩ => (Zz86 a0 b0.length a1 b4 b5)) (fun ⟨c0, b0, b4, b5⟩ w' => Hp w (abf (Zz8 a2 a0 a1 a4)) (Zz8 a2 a0 a1 b0) w' ∧ b0.length = b2.length ∧ aao fu b6 a5 c0 b0 b4 b5 = some d1) (fun ⟨c0, b0, b4, b5⟩ => c0) (fu, b2, (0 : Int), (2 : Int) * a5) (by exact ⟨d0.kp, lsz, e7⟩) ?_)
 rintro ⟨_ | c0, b0, b4, b5⟩ h0 G ⟨c2, h1, a7⟩
 · exact nzz a7
 rw [aao.eq_2] at a7
 refine cs (sr (wp 3 (nq (cd a7 (fun e8 a7 => ?_) (fun e8 a7 => ?_)))))
 refine ck (qn (ce (sr (wp 4 (gi a7 fun e9 a7 => aap b4 a5 krf krf e9 (wp 2 (bi a7 fun d2 f0 a7 => ?_)))))))
 refine aas 242 #[] [(Vs a0 b0.length a1), (Vi .i64 b4), (Vi .i64 (b4 + a5)), (Vi .i64 b5), (zao (.func 130) #[] #[])] _ ent242 krf krf (aev a2 a0 a1 f0 (hG.hp c2 hS) (c2.hand (L1 := (Zz8 a2 a0 a1 b0)) (L2 := [])) (c2.highs hG hS 1 rfl)) ?_
 rintro _ f1 ⟨rfl, h2, d3⟩
 have f2 : Hp w (abf (Zz8 a2 a0 a1 a4)) (Zz8 a2 a0 a1 d2) f1 := Hp.callK (L1 := (Zz8 a2 a0 a1 b0)) (L2 := []) c2 d3; clear d3
 refine nq (sr (wp 2 (nq (cr (wp 2 (gi a7 fun f3 a7 => ?_))))))
 refine amq (2 : Int) a5 krf krf f3 (gi a7 fun f4 a7 => aap b5 ((2 : Int) * a5) krf krf f4 (wp 1 (wl (bn (ql ?_)))))
 exact ⟨(c0, d2, b5, b5 + ((2 : Int) * a5)), _, rfl, (mc (Eq.trans (b := (Vs a0 b0.length a1)) krf (aak lsy)) (mc krf (mc krf (mc krf (mc krf (mc krf rfl)))))), ⟨f2.kp, lsz, a7⟩, zad _⟩
 refine acq (acp (acx (acr (ql ?_))))
 obtain rfl := oi a7
 exact ⟨(b0, b4), _, rfl, by kernel_rfl, c2.kp, lsz, rfl⟩
 rintro a6 h3 G ⟨c3, h4, rfl⟩
 refine cs (sr (wp 2 (gi a3 fun f5 a3 => aap a6.2 a5 krf krf f5 (wp 1 (nq (cs ?_))))))
 refine cr (wp 3 (nq (cd a3 (fun f6 a3 => ?_) (fun f6 a3 => ?_))))
 refine cr (wp 5 (bi a3 fun d4 f7 a3 => aas 242 #[] [(Vs a0 a6.1.length a1), (Vi .i64 a6.2), (Vi .i64 (a6.2 + a5)), (Vi .i64 b6), (zao (.func 130) #[] #[])] _ ent242 krf krf (aev a2 a0 a1 f7 (hG.hp c3 hS) (c3.hand (L1 := (Zz8 a2 a0 a1 a6.1)) (L2 := [])) (c3.highs hG hS 1 rfl)) ?_))
 rintro _ f8 ⟨rfl, h5, d5⟩
 have f9 : Hp w (abf (Zz8 a2 a0 a1 a4)) (Zz8 a2 a0 a1 d4) f8 := Hp.callK (L1 := (Zz8 a2 a0 a1 a6.1)) (L2 := []) c3 d5; clear d5
 refine nq (cr (wp 1 (gi a3 fun g0 a3 => amq a5 (2 : Int) krf krf g0 (wp 1 (wl (bn (ql ?_)))))))
 exact ⟨(b8, d4, a5 * (2 : Int)), _, rfl, (mc (Eq.trans (b := (Vs a0 a6.1.length a1)) krf (aak lsy)) (mc krf (mc krf (mc krf rfl)))), ⟨f9.kp, lsz, a3⟩, zad _⟩
 refine ck (qn (cr (wp 1 (gi a3 fun g1 a3 => amq a5 (2 : Int) krf krf g1 (wp 1 (wl (bn (ql ?_))))))))
 exact ⟨(b8, a6.1, a5 * (2 : Int)), _, rfl, by kernel_rfl, ⟨c3.kp, lsz, a3⟩, zad _⟩
 refine acq (acp (acx (acr ?_)))
 obtain rfl := oi a3
 refine ahp  rfl  ?_
 exact ⟨(by first | rfl | (simp; done) | (simp; omega)), lsz, d0.kp⟩
theorem ahh {fu : Nat} {a0 : List PQ} (a3 : Option Nat) (a1 : Option Addr) (a2 : Nat) {w : World} {r : List PQ} (hr : abw fu a0 = some r) (hG : Gl w) (hM : Hp w (abf [rwt aaa 46 3 a3 a1 a2 a0]) [rwt aaa 46 3 a3 a1 a2 a0] w) (hS : ∀ b ∈ abf [rwt aaa 46 3 a3 a1 a2 a0], 9 ≤ b) : CR prog 163 [(Vs a1 a0.length a2), (zao (.func 130) #[] #[])] w fun v w' => v = (zaj #[]) ∧ r.length = a0.length ∧ Hp w (abf [rwt aaa 46 3 a3 a1 a2 a0]) [rwt aaa 46 3 a3 a1 a2 r] w' := by
 have hH : Hp w (abf (Zz8 a3 a1 a2 a0)) (Zz8 a3 a1 a2 a0) w := hM
 refine enter (k := 9) func163 rfl rfl nbe ?_
 unfold abw at hr
 refine cr (wp 4 (bi hr fun y1 a5 hr => aas 209 #[] [(Vs a1 a0.length a2), (Vi .i64 (a0.length : Int)), (zao (.func 130) #[] #[])] _ ent209 krf krf (ahj a3 a1 a2 a5 (hG.hp hH hS) (hH.hand (L1 := (Zz8 a3 a1 a2 a0)) (L2 := [])) (hH.highs hG hS 1 rfl)) ?_))
 rintro _ w3 ⟨rfl, a7, a4⟩
 have a6 : Hp w (abf (Zz8 a3 a1 a2 a0)) (Zz8 a3 a1 a2 y1) w3 := Hp.callK (L1 := (Zz8 a3 a1 a2 a0)) (L2 := []) hH a4; clear a4
 refine wl ?_
 obtain rfl := oi hr
 refine ahp  rfl  ?_
 exact ⟨(by first | rfl | (simp; done) | (simp; omega)), lsz, a6.kp⟩
theorem afq {fu : Nat} {a1 : List PQ} (a2 : Nat) (a3 : Option Addr) (a6 : Nat) (a4 : Nat) {w : World} {r : List PQ} (hr : abb fu a1 = some r) (hG : Gl w) (b2 : a6 = a1.length) (a8 : Rd w a3 (zae aaa a1)) (b3 : a6 ≤ a4) (hM : Hp w (abf [blk a2 [(Vs a3 a1.length a4)] 22]) [blk a2 [(Vs a3 a1.length a4)] 22] w) (hS : ∀ b ∈ abf [blk a2 [(Vs a3 a1.length a4)] 22], 9 ≤ b) (a9 : zae aaa a1 ≠ [] → ∀ p, a3 = some p → p.block ∉ abf [blk a2 [(Vs a3 a1.length a4)] 22]) : CR prog 128 [(zao (.func 186) #[] #[(Vp (some ⟨a2, 0, none⟩))]), (zao (.func 130) #[] #[])] w fun v w' => ∃ (o0 : Option Nat), ∃ (a0 : Option Addr), ∃ (cap0 : Nat), v = (Vs a0 r.length cap0) ∧ Hp w (abf [blk a2 [(Vs a3 a1.length a4)] 22]) [blk a2 [(Vs a3 a1.length a4)] 22, rwt aaa 46 3 o0 a0 cap0 r] w' := by
 subst b2
 have hH : Hp w (abf (Zz73 a2 a3 a1.length a4)) (Zz73 a2 a3 a1.length a4) w := hM
 refine enter (k := 12) func128 rfl rfl nbe ?_
 unfold abb at hr
 refine sr (wp 1 (nq (sr (wp 1 (bi hr fun y1 b4 hr => aas 185 #[] [(zao (.func 186) #[] #[(Vp (some ⟨a2, 0, none⟩))])] _ ent185 krf krf (ajy a2 a3 a1.length a4 b4 (hG.hp hH hS) rfl (a8.hpN hH a9) b3 (hH.hand (L1 := (Zz73 a2 a3 a1.length a4)) (L2 := [])) (hH.highs hG hS 1 rfl) (hH.apartRd 1 a8 a9 rfl)) ?_)))))
 rintro _ w3 ⟨o6, a7, cap8, rfl, b0⟩
 have b5 : Hp w (abf (Zz73 a2 a3 a1.length a4)) (Zz53 a2 a3 a1.length a4 o6 a7 cap8 y1) w3 := Hp.callK (L1 := (Zz73 a2 a3 a1.length a4)) (L2 := []) hH b0; clear b0
 refine wp 1 (nq (sr (wp 2 (bi hr fun y9 b6 hr => ?_))))
 have a5 : Hp w (abf (Zz73 a2 a3 a1.length a4)) [rwt aaa 46 3 o6 a7 cap8 y1, blk a2 [(Vs a3 a1.length a4)] 22] w3 := b5.front 1 _ rfl
 refine aas 163 #[] [(Vs a7 y1.length cap8), (zao (.func 130) #[] #[])] _ ent163 krf krf (ahh o6 a7 cap8 b6 (hG.hp a5 hS) (a5.hand (L1 := (Zz8 o6 a7 cap8 y1)) (L2 := (Zz73 a2 a3 a1.length a4))) (a5.highs hG hS 1 rfl)) ?_
 rintro _ b7 ⟨rfl, b9, b1⟩
 have b8 : Hp w (abf (Zz73 a2 a3 a1.length a4)) [rwt aaa 46 3 o6 a7 cap8 y9, blk a2 [(Vs a3 a1.length a4)] 22] b7 := Hp.callK (L1 := (Zz8 o6 a7 cap8 y1)) (L2 := (Zz73 a2 a3 a1.length a4)) a5 b1; clear b1
 refine nq (sr (wp 2 (nq (ct ?_))))
 obtain rfl := oi hr
 refine r_one (Vs a7 y1.length cap8) rfl krf ?_
 exact ⟨o6, a7, cap8, (by first | rfl | (simp; done) | (simp; omega)), (Hp.front b8 1 _ rfl).kp⟩
theorem K_L_header_sorted {fu : Nat} {a1 : List PQ} (a2 : Option Addr) (a5 : Nat) (a3 : Nat) {w : World} {r : List PQ} (hr : afv fu a1 = some r) (hG : Gl w) (b3 : a5 = a1.length) (a6 : Rd w a2 (zae aaa a1)) (a9 : a5 ≤ a3) : CR prog 71 [(Vs a2 a5 a3)] w fun v w' => ∃ (o0 : Option Nat), ∃ (a0 : Option Addr), ∃ (cap0 : Nat), v = (Vs a0 r.length cap0) ∧ Hp w [] [rwt aaa 46 3 o0 a0 cap0 r] w' := by
 subst b3
 have hH := Hp.refl w
 refine enter (k := 6) func71 rfl rfl nbe ?_
 unfold afv at hr
 refine sr (wp 1 (nq (sr (wp 1 (bi hr fun y1 b4 hr => aas 129 #[] [(Vs a2 a1.length a3)] _ ent129 krf krf (anu a2 a1.length a3 b4 (hG.hp0 hH) rfl (a6.hp hH) a9) ?_)))))
 rintro _ w3 ⟨b6, rfl, b0⟩
 have a4 : Hp w [] (Zz73 b6 a2 a1.length a3) w3 := Hp.callK (L1 := []) (L2 := []) hH b0; clear b0
 refine bi hr fun y7 b5 hr => aas 128 #[] [(zao (.func 186) #[] #[(Vp (some ⟨b6, 0, none⟩))]), (zao (.func 130) #[] #[])] _ ent128 krf krf (afq b6 a2 a1.length a3 b5 (hG.hp0 a4) rfl (a6.hp a4) a9 (a4.hand (L1 := (Zz73 b6 a2 a1.length a3)) (L2 := [])) (a4.highs hG (fun _ h => absurd h (by simp)) 1 rfl) (a4.apartRd 1 a6 (fun _ _ _ h => absurd h (by simp)) rfl)) ?_
 rintro _ w9 ⟨b1, a7, a8, rfl, b2⟩
 have b7 : Hp w [] (Zz53 b6 a2 a1.length a3 b1 a7 a8 y7) w9 := Hp.callK (L1 := (Zz73 b6 a2 a1.length a3)) (L2 := []) a4 b2; clear b2
 refine wp 1 (nq (ct ?_))
 obtain rfl := oi hr
 refine r_one (Vs a7 y7.length a8) rfl krf ?_
 exact ⟨b1, a7, a8, (by first | rfl | (simp; done) | (simp; omega)), (Hp.front b7 1 _ rfl).kp⟩
theorem K_L_header_PrintItem {fu : Nat} {a0 : (Str × (List PQ))} (a2 : Option Addr) (a7 : Nat) (a3 : Nat) {w : World} {r : (Str × UInt8)} (hr : agy fu a0 = some r) (hG : Gl w) (b8 : a7 = a0.2.length) (b9 : Rd w a2 (zae aaa a0.2)) (c0 : a7 ≤ a3) : CR prog 22 [(zal #[(str a0.1), (Vs a2 a7 a3)])] w fun v w' => v = (zaj #[(str r.1), (bt r.2)]) ∧ Hp w [] [] w' := by
 subst b8
 have hH := Hp.refl w
 refine enter (k := 40) func22 rfl rfl nbe ?_
 unfold agy at hr
 refine sr (ael hH (Zz51 a0.1 a2 a0.2.length a3) 34 (fun b => (Vp (some ⟨b, 0, none⟩))) rfl rfl krf fun b1 w2 a8 => wp 2 (nq (sr (wp 1 (acn a8 0 b1 0 (Zz51 a0.1 a2 a0.2.length a3) 34 (str a0.1) rfl rfl krf krf ?_)))))
 refine gi hr fun g7 hr => aas 77 #[] [(str a0.1), (str ([47] : Str))] _ ent77 krf krf (sh_Cut a0.1 ([47] : Str) w2 g7 (hG.hp0 a8)) ?_
 rintro _ w4 ⟨rfl, b2⟩
 have a9 := a8.call b2; clear b2
 refine wp 7 (nq (cs (bi hr fun c1 a1 hr => aij a9 [1, 2, 3, 26] [(26, (Vb c1))] ?_ ?_)))
 refine cr (wp 1 (bi a1 fun d4 c2 a1 => wc ent69 a9 (afw c2 (hG.hp0 a9)) fun d5 a5 => wp 1 (wb a1 (fun c3 a1 => ?_) (fun c3 a1 => ?_))))
 refine wp 7 (wl (ql ?_))
 obtain rfl := oi a1
 exact je a5.kp
 refine wp 1 (gy 19 (wb a1 (fun c4 a1 => ?_) (fun c4 a1 => ?_)))
 refine wp 1 (gy 21 (bi a1 fun d6 c5 a1 => wc ent69 a5 (afw c5 (hG.hp0 a5)) fun d7 c6 => wp 3 (wl (ql ?_))))
 obtain rfl := oi a1
 exact je c6.kp
 refine wp 5 (wl (ql ?_))
 obtain rfl := oi a1
 exact je a5.kp
 intro d8 G a4
 refine cb hr (fun c7 hr => ?_) (fun c7 hr => ?_)
 refine sr (wp 2 (nq (ct (st ?_))))
 obtain rfl := oi hr
 exact rv a4.kp
 refine ck (qn (sr (wp 1 (acn a4 0 b1 1 (Zz51 a0.1 a2 a0.2.length a3) 34 (Vs a2 a0.2.length a3) rfl rfl krf krf (bi hr fun b3 c8 hr => aas 71 #[] [(Vs a2 a0.2.length a3)] _ ent71 krf krf (K_L_header_sorted a2 a0.2.length a3 c8 (hG.hp0 a4) rfl (b9.hp a4) c0) ?_)))))
 rintro _ c9 ⟨d0, b4, b5, rfl, b6⟩
 have a6 : Hp w [] [rwt aaa 46 3 d0 b4 b5 b3, blk b1 (Zz51 a0.1 a2 a0.2.length a3) 34] c9 := Hp.callK (L1 := []) (L2 := [blk b1 (Zz51 a0.1 a2 a0.2.length a3) 34]) a4 b6; clear b6
 refine bi hr fun b7 d1 hr => wc ent70 a6 (akq b4 b3.length b5 d1 (hG.hp0 a6) rfl (a6.rdrw 0 rfl) (a6.rwcap 0 rfl)) fun d9 b0 => wp 5 (nq (cs (sr (wp 1 (ahi b7.2 (0 : UInt8) krf krf ?_)))))
 refine nq (cn hr (fun d2 hr => ?_) (fun d2 hr => ?_))
 refine sr (wp 2 (nq (ct (st ?_))))
 obtain rfl := oi hr
 exact rv b0.kp
 refine ck (qn (sr (wp 1 (acn b0 1 b1 0 (Zz51 a0.1 a2 a0.2.length a3) 34 (str a0.1) rfl rfl krf krf (wp 1 (gi hr fun d3 hr => agt a0.1 b7.1 krf krf d3 (wp 2 ?_)))))))
 refine nq (ct ?_)
 obtain rfl := oi hr
 exact rv b0.kp
theorem K_L_header_Item {fu : Nat} {b0 : Str} {w : World} {r : ((Str × (List PQ)) × UInt8)} (hr : akn fu b0 = some r) (hG : Gl w) : CR prog 20 [(str b0)] w fun v w' => ∃ (o0 : Option Nat), ∃ (a0 : Option Addr), ∃ (cap0 : Nat), v = (zaj #[(zal #[(str r.1.1), (Vs a0 r.1.2.length cap0)]), (bt r.2)]) ∧ Hp w [] [rwt aaa 46 3 o0 a0 cap0 r.1.2] w' := by
 have hH := Hp.refl w
 refine enter (k := 53) func20 rfl rfl nbe ?_
 unfold akn at hr
 refine sr (ael hH (Zz27) 34 (fun b => (Vp (some ⟨b, 0, none⟩))) rfl rfl krf fun b1 w2 b2 => wp 1 (nq (sr (wp 1 (bi hr fun y4 c2 hr => ?_)))))
 refine wc ent51 b2 (aje c2 (hG.hp0 b2)) fun w6 b3 => wp 1 (nq (sr (wp 1 (bi hr fun y9 c3 hr => wc ent54 b3 (ahc c3 (hG.hp0 b3)) fun d9 a7 => wp 1 ?_))))
 refine nq (cs (sr (wp 2 (nq (cd hr (fun c4 hr => ?_) (fun c4 hr => ?_))))))
 refine sr (wp 1 (aho a7 0 b1 0 (Zz27) (Zz27) 34 [blk b1 (Zz27) 34] rfl nbe krf krf rfl krf rfl fun e0 b4 => wp 1 (nq (ct (st ?_)))))
 obtain rfl := oi hr
 refine ani _ [(zal #[(str ([] : Str)), (Vs none 0 0)]), (bt (5 : UInt8))] (zaj #[(zal #[(str ([] : Str)), (Vs none 0 0)]), (bt (5 : UInt8))]) rfl rfl (abs (ahy b4 0 b1 34 (Zz27) rfl krf krf krf) (abs (afe krf) agj)) rfl ?_
 exact ⟨none, none, 0, (by first | rfl | (simp; done) | (simp; omega)), (Hp.nilrw b4 aaa 46 3 none).kp⟩
 refine ck (qn (bi hr fun c5 a1 hr => cut1 a7 c5 [0, 2, 3, 4] (fun a3 => [(4, (Vi .i64 a3))]) ?_ ?_))
 refine bi a1 fun c6 a6 a1 => aij a7 [0, 2, 3, 4, 25] [(25, (Vb c6))] ?_ ?_
 refine cr (wp 4 (wd a6 (fun c7 a6 => ?_) (fun c7 a6 => ?_)))
 refine wp 2 (gy 20 (gi a6 fun c8 a6 => aey y4 .i64 y9 underlying9 krf krf c8 (gy 20 (ady (at_ y4 y9) (47 : UInt8) krf krf (wp 1 (wl (ql ?_)))))))
 obtain rfl := oi a6
 exact je a7.kp
 refine wp 5 (wl (ql ?_))
 obtain rfl := oi a6
 exact je a7.kp
 intro e1 G a9
 refine cb a1 (fun c9 a1 => ?_) (fun c9 a1 => ?_)
 refine sr (wp 2 (nq (sr (wp 2 (gi a1 fun d0 a1 => aap y9 (1 : Int) krf krf d0 ?_)))))
 refine bi a1 fun e2 d1 a1 => wc ent54 a9 (ahc d1 (hG.hp0 a9)) fun e3 b5 => wp 1 (nq (sr (wp 2 (gi a1 fun d2 a1 => aap y9 (1 : Int) krf krf d2 ?_))))
 refine wp 1 (nq (cd a1 (fun d3 a1 => ?_) (fun d3 a1 => ?_)))
 refine sr (wp 1 (aho b5 0 b1 0 (Zz27) (Zz27) 34 [blk b1 (Zz27) 34] rfl nbe krf krf rfl krf rfl fun e4 b6 => wp 1 (nq (ct (aff ?_)))))
 obtain rfl := oi a1
 obtain rfl := oi hr
 refine ani _ [(zal #[(str ([] : Str)), (Vs none 0 0)]), (bt (5 : UInt8))] (zaj #[(zal #[(str ([] : Str)), (Vs none 0 0)]), (bt (5 : UInt8))]) rfl rfl (abs (ahy b6 0 b1 34 (Zz27) rfl krf krf krf) (abs (afe krf) agj)) rfl ?_
 exact ⟨none, none, 0, (by first | rfl | (simp; done) | (simp; omega)), (Hp.nilrw b6 aaa 46 3 none).kp⟩
 refine ck (ql ?_)
 obtain rfl := oi a1
 exact je1 rfl b5.kp
 refine ck (ql ?_)
 obtain rfl := oi a1
 exact je1 rfl a9.kp
 rintro a3 e5 G b7 rfl
 refine sr (wp 2 (gi hr fun d4 hr => aja y4 .i64 a3 underlying9 krf krf d4 (bi hr fun a2 d5 hr => aas 59 #[] [(str (zak (zac a3) y4))] _ ent59 krf krf (akr d5 (hG.hp0 b7)) ?_)))
 rintro _ d6 ⟨a8, a4, a5, rfl, b8⟩
 have b9 : Hp w [] [rwt aaa 46 3 a8 a4 a5 a2.1, blk b1 (Zz27) 34] d6 := Hp.callK (L1 := []) (L2 := [blk b1 (Zz27) 34]) b7 b8; clear b8
 refine wp 7 (nq (cs (sr (wp 1 (ahi a2.2.2 (0 : UInt8) krf krf (nq (cn hr (fun d7 hr => ?_) (fun d7 hr => ?_))))))))
 refine sr (wp 2 (aho b9 1 b1 0 (Zz27) (Zz27) 34 [rwt aaa 46 3 a8 a4 a5 a2.1, blk b1 (Zz27) 34] rfl nbe krf krf rfl krf rfl fun e6 c0 => wp 1 (nq (ct (st ?_)))))
 obtain rfl := oi hr
 refine ani _ [(zal #[(str ([] : Str)), (Vs none 0 0)]), (bt a2.2.2)] (zaj #[(zal #[(str ([] : Str)), (Vs none 0 0)]), (bt a2.2.2)]) rfl rfl (abs (ahy c0 1 b1 34 (Zz27) rfl krf krf krf) (abs (afe krf) agj)) rfl ?_
 exact ⟨none, none, 0, (by first | rfl | (simp; done) | (simp; omega)), (Hp.nilrw c0 aaa 46 3 none).kp⟩
 refine ck (qn (sr (wp 2 (gi hr fun d8 hr => aly y4 .i64 a3 underlying9 krf krf d8 (wp 2 (aho b9 1 b1 0 (Zz27) [(str (zas (zac a3) y4)), (Vs a4 a2.1.length a5)] 34 [rwt aaa 46 3 a8 a4 a5 a2.1, blk b1 [(str (zas (zac a3) y4)), (Vs a4 a2.1.length a5)] 34] rfl nbe krf krf rfl krf rfl fun e7 c1 => wp 1 ?_))))))
 refine nq (ct ?_)
 obtain rfl := oi hr
 refine ani _ [(zal #[(str (zas (zac a3) y4)), (Vs a4 a2.1.length a5)]), (bt (0 : UInt8))] (zaj #[(zal #[(str (zas (zac a3) y4)), (Vs a4 a2.1.length a5)]), (bt (0 : UInt8))]) rfl rfl (abs (ahy c1 1 b1 34 [(str (zas (zac a3) y4)), (Vs a4 a2.1.length a5)] rfl krf krf krf) (abs (afe krf) agj)) rfl ?_
 exact ⟨a8, a4, a5, (by first | rfl | (simp; done) | (simp; omega)), c1.kp⟩
theorem K_L_ref02_Sorted {fu : Nat} {a1 : List PQ} (b0 : Option Addr) (d1 : Nat) (c4 : Nat) {w : World} {r : List PQ} (hr : ajx fu a1 = some r) (hG : Gl w) (e9 : d1 = a1.length) (c5 : Rd w b0 (zae aaa a1)) (h7 : d1 ≤ c4) : CR prog 29 [(Vs b0 d1 c4)] w fun v w' => ∃ (o0 : Option Nat), ∃ (a0 : Option Addr), ∃ (cap0 : Nat), v = (Vs a0 r.length cap0) ∧ Hp w [] [rwt aaa 46 3 o0 a0 cap0 r] w' := by
 subst e9
 have hH := Hp.refl w
 refine enter (k := 51) func29 rfl rfl nbe ?_
 unfold ajx at hr
 refine sr (wp 1 (nq (sr (wp 1 (nq ?_)))))
 refine bi hr fun d5 f0 hr => cut (σ := (List PQ) × (Option Nat) × (Option Addr) × Nat) [2, 3] (fun ⟨b4, c6, b5, b6⟩ => [(3, (Vs b5 b4.length b6))]) (fun ⟨b4, c6, b5, b6⟩ w' => Hp w [] (Zz8 c6 b5 b6 b4) w' ∧ b4 = d5) ?_ ?_
 refine sr (wp 1 (nq (ce (lpG (σ := Nat × (List PQ) × Int × (Option Nat) × (Option Addr) × Nat) [0, 2, 3, 4] (fun ⟨b7, a3, a2, b3, a4, a6⟩ => [(3, (Vs a4 a3.length a6)), (4, (Vi .i64 a2))]) (fun ⟨b7, a3, a2, b3, a4, a6⟩ w' => Hp w [] (Zz8 b3 a4 a6 a3) w' ∧ aet fu a1 b7 a3 a2 = some d5) (fun ⟨b7, a3, a2, b3, a4, a6⟩ => b7) (fu, ([] : List PQ), (0 : Int), none, none, 0) (by exact ⟨(Hp.nilrw hH aaa 46 3 none).kp, f0⟩) ?_ (mc krf (mc krf (mc (Eq.trans (b := (Vs none 0 0)) krf (aak lsy)) (mc krf rfl))))))))
 rintro ⟨_ | b7, a3, a2, b3, a4, a6⟩ h8 G ⟨d2, b1⟩
 · exact nzz b1
 rw [aet.eq_2] at b1
 refine cs (sr (wp 4 (nq (cd b1 (fun f1 b1 => ?_) (fun f1 b1 => ?_)))))
 refine ck (qn (bi b1 fun f2 a8 b1 => cut (σ := (List PQ) × (Option Nat) × (Option Addr) × Nat) [0, 2, 3, 4] (fun ⟨b8, c7, b9, c0⟩ => [(3, (Vs b9 b8.length c0))]) (fun ⟨b8, c7, b9, c0⟩ w' => Hp w [] (Zz8 c7 b9 c0 b8) w' ∧ b8 = f2) ?_ ?_))
 refine ce (sr (wp 3 (nq (bi a8 fun a5 f3 a8 => aij d2 [0, 2, 3, 4, 5] [(5, (Vi .i64 a5))] ?_ ?_))))
 refine ce (lpS (fun d6 a7 => afj fu a1 a3 a2 d6 a7) (a3.length : Int) d2 f3 [0, 2, 3, 4, 5] (fun a7 => [(5, (Vi .i64 a7))]) (fun _ => rfl) ?_)
 rintro d6 a7 h9 G d3 b2
 rw [afj.eq_2] at b2
 refine cs (bi b2 fun f4 a9 b2 => aij d3 [0, 2, 3, 4, 5, 30] [(30, (Vb f4))] ?_ ?_)
 by_cases c8 : (0 : Int) < a7
 replace a9 := ift c8 a9
 refine gi a9 fun f5 a9 => gi a9 fun f6 a9 => gi a9 fun f7 a9 => gi a9 fun f8 a9 => gi a9 fun f9 a9 => aeg 14 (fun j_ w_ w_' => acg [7, 8, 14, 15] (fun w' => Rd w' a4 (zae aaa a3)) j_ w_ w_' ∧ acg [14, 15] (fun w' => Rd w' a4 (zae aaa a3)) j_ w_ w_' ∧ acg [12, 13, 14, 15] (fun w' => Rd w' b0 (zae aaa a1)) j_ w_ w_' ∧ acg [14, 15] (fun w' => Rd w' b0 (zae aaa a1)) j_ w_ w_' ∧ True) (Zz48) (fun _ _ => ⟨acg.same, acg.same, acg.same, acg.same, trivial⟩) krf krf d3 rfl (aaw (adc (aaw (aaq (aaw (aaq (aaw (aaw (aaq (aaw aco)))))))))) fun i0 c1 => rp 12 [0, 1] (rt 2 (Vb true) rfl rfl (abc rfl (by intro w hS_; exact Eq.trans (b := Result.ok (Next.value (.bool (decide ((0 : Int) < a7)))) w) krf (congrArg (fun b => Result.ok (Next.value (.bool b)) w) (decide_eq_true c8)))) (rp 9 [3, 4] (rt 5 (Vi .i64 (a7 - (1 : Int))) rfl rfl (afz 17 krf krf krf (by intro w hS_; exact (ajr a7 (1 : Int) krf krf f5))) ?_)))
 refine aaz [true, true, true, true, true, true, true, false, false, false, false, false, false, false, false, false] 6 21 (Vp (some (ea a4 ((a7 - (1 : Int)).toNat * 3)))) [7, 8, 14, 15] (fun _ _ _ h => h.1) _ rfl rfl krf krf krf krf krf rfl (afz 17 krf krf krf (by intro w hS_; exact (amp a4 a3.length a6 46 3 .i64 (a7 - (1 : Int)) underlying22 krf krf krf a3 rfl f6 hS_ aab (by decide)))) (by exact (c1.rdrw 0 rfl)) (rt 7 (Vp (some (ea a4 ((a7 - (1 : Int)).toNat * 3 + 0)))) rfl rfl (afz 17 krf krf krf (by intro w hS_; exact (x_fldE a4 ((a7 - (1 : Int)).toNat * 3) 0 krf krf))) (aaz [true, true, true, true, true, true, true, true, true, false, false, false, false, false, false, false] 8 23 (str ((el a3 (a7 - (1 : Int))).1)) [14, 15] (fun _ _ _ h => h.2.1) _ rfl rfl krf krf krf krf krf rfl (afz 17 krf krf krf (by intro w hS_; exact (x_ldF a4 aaa a3 3 (a7 - (1 : Int)) 0 aab hS_ (str ((el a3 (a7 - (1 : Int))).1)) f7 (by decide) krf krf krf))) (by exact (c1.rdrw 0 rfl)) (rp 3 [9, 10] (aaz [true, true, true, true, true, true, true, true, true, true, true, true, false, false, false, false] 11 26 (Vp (some (ea b0 (a2.toNat * 3)))) [12, 13, 14, 15] (fun _ _ _ h => h.2.2.1) _ rfl rfl krf krf krf krf krf rfl (afz 17 krf krf krf (by intro w hS_; exact (amp b0 a1.length c4 46 3 .i64 a2 underlying22 krf krf krf a1 rfl f8 hS_ aab (by decide)))) (by exact (c5.hp c1)) (rt 12 (Vp (some (ea b0 (a2.toNat * 3 + 0)))) rfl rfl (afz 17 krf krf krf (by intro w hS_; exact (x_fldE b0 ((a2).toNat * 3) 0 krf krf))) (aaz [true, true, true, true, true, true, true, true, true, true, true, true, true, true, false, false] 13 28 (str ((el a1 a2).1)) [14, 15] (fun _ _ _ h => h.2.2.2.1) _ rfl rfl krf krf krf krf krf rfl (afz 17 krf krf krf (by intro w hS_; exact (x_ldF b0 aaa a1 3 a2 0 aab hS_ (str ((el a1 a2).1)) f9 (by decide) krf krf krf))) (by exact (c5.hp c1)) (adf krf (wp 2 (wl ?_)))))))))
 refine ql ?_
 obtain rfl := oi a9
 exact je c1.kp
 replace a9 := ifn c8 a9
 refine aeg 14 (fun j_ w_ w_' => acg [7, 8, 14, 15] (fun w' => Rd w' a4 (zae aaa a3)) j_ w_ w_' ∧ acg [14, 15] (fun w' => Rd w' a4 (zae aaa a3)) j_ w_ w_' ∧ acg [12, 13, 14, 15] (fun w' => Rd w' b0 (zae aaa a1)) j_ w_ w_' ∧ acg [14, 15] (fun w' => Rd w' b0 (zae aaa a1)) j_ w_ w_' ∧ True) (Zz48) (fun _ _ => ⟨acg.same, acg.same, acg.same, acg.same, trivial⟩) krf krf d3 rfl (aaw (adc (aaw (aaq (aaw (aaq (aaw (aaw (aaq (aaw aco)))))))))) fun i1 g0 => rp 12 [0, 1] (rt 2 (Vb false) rfl rfl (abc rfl (by intro w hS_; exact Eq.trans (b := Result.ok (Next.value (.bool (decide ((0 : Int) < a7)))) w) krf (congrArg (fun b => Result.ok (Next.value (.bool b)) w) (decide_eq_false c8)))) (rp 0 [3, 4, 5, 6, 7, 8, 9, 10, 11, 12, 13] (adf krf (wp 2 (wl (ql ?_))))))
 obtain rfl := oi a9
 exact je g0.kp
 intro i2 G d7
 refine cb b2 (fun g1 b2 => ?_) (fun g1 b2 => ?_)
 refine ck (qn (ce (cr (wp 1 (gi b2 fun g2 b2 => adm a7 (1 : Int) krf krf g2 (wp 1 (wl (bn ?_))))))))
 exact ql (le' (a7 - (1 : Int)) d7.kp b2)
 refine acq (acp (acx (acr (ql ?_))))
 obtain rfl := oi b2
 exact je d7.kp
 intro g3 G d8
 refine sr (wp 1 (nq (sr (wp 3 (gi a8 fun g4 a8 => w_slTo a4 a3.length a6 46 3 .i64 a5 underlying22 krf krf krf a3 rfl g4 (d8.rwcap 0 rfl) ?_)))))
 have c9 := d8.nilrw aaa 46 3 none
 replace c9 : Hp w [] [rwt aaa 46 3 none none 0 ([] : List PQ), rwt aaa 46 3 b3 a4 a6 a3] g3 := c9
 refine gi a8 fun g5 a8 => aez c9 0 none none a4 0 a6 46 3 40 ([] : List PQ) (zas (zac a5) a3) aab rfl underlying22 (by unfold TI; kernel_rfl) (by decide) (by decide) (Eq.trans (b := (Vs none 0 0)) krf (aak (by first | rfl | (simp; done) | omega | (simp; omega) | (rw [zah]; omega)))) (Eq.trans (b := (Vs a4 (zac a5) a6)) krf (aak (by first | rfl | (simp; done) | omega | (simp; omega) | (rw [zah]; omega)))) (Rd.takeT aab (zac a5) (c9.rdrw 1 rfl)) g5 fun d9 e0 e1 g6 c2 => ?_
 replace c2 : Hp w [] [rwt aaa 46 3 d9 e0 e1 (([] : List PQ) ++ (zas (zac a5) a3)), rwt aaa 46 3 b3 a4 a6 a3] g6 := c2
 refine wp 1 (nq (sr (wp 3 (gi a8 fun g7 a8 => aiy b0 a1.length c4 46 3 .i64 a2 underlying22 krf krf krf a1 rfl g7 (c5.hp c2) aab (by decide) (gi a8 fun g8 a8 => ahv b0 aaa a1 3 a2 aab (c5.hp c2) (Zz3 a1 a2) g8 krf krf krf krf (by decide) ?_)))))
 refine ael c2 (Zz3 a1 a2) 46 (fun b => (Vs (some ⟨b, 0, none⟩) 1 1)) rfl rfl krf fun d0 i3 e2 => gi a8 fun g9 a8 => aez e2 1 d9 e0 (some ⟨d0, 0, none⟩) e1 1 46 3 40 (([] : List PQ) ++ (zas (zac a5) a3)) ([((el a1 a2).1, (el a1 a2).2.1, ((el a1 a2).2.2))] : List PQ) aab rfl underlying22 (by unfold TI; kernel_rfl) (by decide) (by decide) krf (Eq.trans (b := (Vs (some ⟨d0, 0, none⟩) 1 1)) krf (aak (by first | rfl | (simp; done) | omega | (simp; omega) | (rw [zah]; omega)))) (e2.rdblk 0 rfl) g9 fun e3 e4 e5 h0 c3 => ?_
 replace c3 : Hp w [] [blk d0 (Zz3 a1 a2) 46, rwt aaa 46 3 e3 e4 e5 ((([] : List PQ) ++ (zas (zac a5) a3)) ++ ([((el a1 a2).1, (el a1 a2).2.1, ((el a1 a2).2.2))] : List PQ)), rwt aaa 46 3 b3 a4 a6 a3] h0 := c3
 refine wp 1 (nq (cr (wp 3 (gi a8 fun h1 a8 => w_slFrom a4 a3.length a6 46 3 .i64 a5 underlying22 krf krf krf a3 rfl h1 (gi a8 fun h2 a8 => aez c3 1 e3 e4 (slF a4 a6 (zac a5) 3) e5 (a6 - (zac a5)) 46 3 40 ((([] : List PQ) ++ (zas (zac a5) a3)) ++ ([((el a1 a2).1, (el a1 a2).2.1, ((el a1 a2).2.2))] : List PQ)) (zak (zac a5) a3) aab rfl underlying22 (by unfold TI; kernel_rfl) (by decide) (by decide) krf (Eq.trans (b := (Vs (slF a4 a6 (zac a5) 3) (a3.length - (zac a5)) (a6 - (zac a5)))) krf (aak (by first | rfl | (simp; done) | omega | (simp; omega) | (rw [zah]; omega)))) (Rd.dropT aab a6 (zac a5) (Nat.le_trans (Nat.le_of_eq rfl) (c3.rwcap 2 rfl)) (c3.rdrw 2 rfl)) h2 fun e6 e7 e8 h3 d4 => ?_)))))
 replace d4 : Hp w [] [blk d0 (Zz3 a1 a2) 46, rwt aaa 46 3 e6 e7 e8 (((([] : List PQ) ++ (zas (zac a5) a3)) ++ ([((el a1 a2).1, (el a1 a2).2.1, ((el a1 a2).2.2))] : List PQ)) ++ (zak (zac a5) a3)), rwt aaa 46 3 b3 a4 a6 a3] h3 := d4
 refine wp 1 (wl (bn (ql ?_)))
 obtain rfl := oi a8
 exact ⟨(((([] : List PQ) ++ (zas (zac a5) a3)) ++ ([((el a1 a2).1, (el a1 a2).2.1, ((el a1 a2).2.2))] : List PQ)) ++ (zak (zac a5) a3), e6, e7, e8), _, rfl, by kernel_rfl, (Hp.front d4 1 _ rfl).kp, rfl⟩
 rintro ⟨b8, c7, b9, c0⟩ i4 G ⟨h4, rfl⟩
 refine cr (wp 1 (gi b1 fun h5 b1 => aap a2 (1 : Int) krf krf h5 (wp 1 (wl (ql ?_)))))
 exact ⟨(b7, b8, a2 + (1 : Int), c7, b9, c0), _, rfl, by kernel_rfl, ⟨h4.kp, b1⟩, zad _⟩
 refine acq (acp (acx (acr (ql ?_))))
 obtain rfl := oi b1
 exact ⟨(a3, b3, a4, a6), _, rfl, by kernel_rfl, d2.kp, rfl⟩
 rintro ⟨b4, c6, b5, b6⟩ i5 G ⟨h6, rfl⟩
 refine sr (wp 2 (nq (ct ?_)))
 obtain rfl := oi hr
 refine r_one (Vs b5 b4.length b6) rfl krf ?_
 exact ⟨c6, b5, b6, (by first | rfl | (simp; done) | (simp; omega)), h6.kp⟩
open Go.Value renaming agg → zal
open List renaming flatMap → zae
theorem ent14 : Wk.Enters prog 14 := ⟨f14, _, func14, rfl, krf⟩
theorem ent20 : Wk.Enters prog 20 := ⟨f20, _, func20, rfl, krf⟩
theorem ent22 : Wk.Enters prog 22 := ⟨f22, _, func22, rfl, krf⟩
theorem ent24 : Wk.Enters prog 24 := ⟨f24, _, func24, rfl, krf⟩
theorem ent29 : Wk.Enters prog 29 := ⟨f29, _, func29, rfl, krf⟩
theorem K_L_ref02_SameParams {fu : Nat} {a1 : List PQ} {a2 : List PQ} (a4 : Option Addr) (a7 : Nat) (a8 : Nat) (a5 : Option Addr) (a9 : Nat) (b0 : Nat) {w : World} {r : Bool} (hr : agw fu a1 a2 = some r) (hG : Gl w) (b5 : a7 = a1.length) (b1 : Rd w a4 (zae aaa a1)) (c8 : a7 ≤ a8) (b6 : a9 = a2.length) (b2 : Rd w a5 (zae aaa a2)) (c9 : a9 ≤ b0) : CR prog 24 [(Vs a4 a7 a8), (Vs a5 a9 b0)] w fun v w' => v = (Vb r) ∧ Hp w [] [] w' := by
 subst b5
 subst b6
 have hH := Hp.refl w
 refine enter (k := 26) func24 rfl rfl nbe ?_
 unfold agw at hr
 refine sr (wp 1 (nq (cs (sr (wp 5 (wl ?_))))))
 refine qn (cn hr (fun h1 hr => ?_) (fun h1 hr => ?_))
 refine sr (wp 1 (nq (ct (st ?_))))
 obtain rfl := oi hr
 exact rv hH.kp
 refine ck (qn (bi hr fun b7 b8 hr => cut1 hH b7 [4] (fun b9 => []) ?_ ?_))
 refine sr (wp 1 (nq (ce (lpS (fun b3 a0 => adp fu a1 a2 b3 a0) (0 : Int) hH b8 [0, 1, 4, 5] (fun a0 => [(5, (Vi .i64 a0))]) (fun _ => rfl) ?_))))
 rintro b3 a0 d0 G b4 a3
 rw [adp.eq_2] at a3
 refine cs (sr (wp 4 (nq (cd a3 (fun c0 a3 => ?_) (fun c0 a3 => ?_)))))
 refine ck (qn (cs (ce (cs (gi a3 fun c1 a3 => gi a3 fun c2 a3 => gi a3 fun c3 a3 => gi a3 fun c4 a3 => aeg 8 (fun j_ w_ w_' => acg [3, 8] (fun w' => Rd w' a4 (zae aaa a1)) j_ w_ w_' ∧ acg [8] (fun w' => Rd w' a4 (zae aaa a1)) j_ w_ w_' ∧ acg [7, 8] (fun w' => Rd w' a5 (zae aaa a2)) j_ w_ w_' ∧ acg [8] (fun w' => Rd w' a5 (zae aaa a2)) j_ w_ w_' ∧ True) [false, false, false, false, false, false, false, false, false] (fun _ _ => ⟨acg.same, acg.same, acg.same, acg.same, trivial⟩) krf krf b4 rfl (adc (aaq (adc (aaw (aaq (aaw aco)))))) fun d1 a6 => ?_)))))
 refine rp 6 [0, 1] (aaz [true, true, true, false, false, false, false, false, false] 2 19 (Vp (some (ea a4 (a0.toNat * 3)))) [3, 8] (fun _ _ _ h => h.1) _ rfl rfl krf krf krf krf krf rfl (abc rfl (by intro w hS_; exact (amp a4 a1.length a8 46 3 .i64 a0 underlying22 krf krf krf a1 rfl c1 hS_ aab (by decide)))) (by exact (b1.hp a6)) (aaz [true, true, true, true, false, false, false, false, false] 3 20 (zal #[(str ((el a1 a0).1)), (str ((el a1 a0).2.1)), (Vb ((el a1 a0).2.2))]) [8] (fun _ _ _ h => h.2.1) _ rfl rfl krf krf krf krf krf rfl (abc rfl (by intro w hS_; exact (anf a4 aaa a1 3 a0 aab hS_ (Zz3 a1 a0) c2 krf krf krf krf (by decide)))) (by exact (b1.hp a6)) (rp 2 [4, 5] (aaz [true, true, true, true, true, true, true, false, false] 6 23 (Vp (some (ea a5 (a0.toNat * 3)))) [7, 8] (fun _ _ _ h => h.2.2.1) _ rfl rfl krf krf krf krf krf rfl (abc rfl (by intro w hS_; exact (amp a5 a2.length b0 46 3 .i64 a0 underlying22 krf krf krf a2 rfl c3 hS_ aab (by decide)))) (by exact (b2.hp a6)) (aaz [true, true, true, true, true, true, true, true, false] 7 24 (zal #[(str ((el a2 a0).1)), (str ((el a2 a0).2.1)), (Vb ((el a2 a0).2.2))]) [8] (fun _ _ _ h => h.2.2.2.1) _ rfl rfl krf krf krf krf krf rfl (abc rfl (by intro w hS_; exact (anf a5 aaa a2 3 a0 aab hS_ (Zz3 a2 a0) c4 krf krf krf krf (by decide)))) (by exact (b2.hp a6)) (adf krf (w_aggneq (Zz3 a1 a0) (Zz3 a2 a0) [(decide (((el a1 a0).1) = ((el a2 a0).1))), (decide (((el a1 a0).2.1) = ((el a2 a0).2.1))), (((el a1 a0).2.2) == ((el a2 a0).2.2))] (decide (((el a1 a0).1, (el a1 a0).2.1, ((el a1 a0).2.2)) = ((el a2 a0).1, (el a2 a0).2.1, ((el a2 a0).2.2)))) underlying46 krf krf krf krf ⟨by decide, ⟨_, _, by kernel_rfl, by kernel_rfl, (fun d => eqi_str d ((el a1 a0).1) ((el a2 a0).1) underlying9)⟩, ⟨by decide, ⟨_, _, by kernel_rfl, by kernel_rfl, (fun d => eqi_str d ((el a1 a0).2.1) ((el a2 a0).2.1) underlying9)⟩, ⟨by decide, ⟨_, _, by kernel_rfl, by kernel_rfl, (fun d => run_equalIn_bool' _ d _ _ _ underlying4)⟩, trivial⟩⟩⟩ (by rw [Bool.eq_iff_iff]; simp [Prod.ext_iff, and_assoc]) (nq (cn a3 (fun c5 a3 => ?_) (fun c5 a3 => ?_))))))))))
 refine sr (wp 1 (nq (ct (bt_ (st (aff (bt_ ?_)))))))
 refine aff ?_
 obtain rfl := oi a3
 obtain rfl := oi hr
 exact rv a6.kp
 exact ck (bn (qn (cr (wp 1 (gi a3 fun c6 a3 => aap a0 (1 : Int) krf krf c6 (wp 1 (wl (ql (le' (a0 + (1 : Int)) a6.kp a3)))))))))
 refine acq (acp (acx (acr (ql ?_))))
 obtain rfl := oi a3
 exact je1 rfl b4.kp
 rintro b9 d2 G c7 rfl
 refine sr (wp 1 (nq (ct ?_)))
 obtain rfl := oi hr
 exact rv c7.kp
theorem amz {fu : Nat} {a0 : (Str × (List PQ))} (a2 : Option Addr) (b8 : Nat) (a3 : Nat) {w : World} {r : Bool} (hr : agl fu a0 = some r) (hG : Gl w) (d0 : b8 = a0.2.length) (c3 : Rd w a2 (zae aaa a0.2)) (c4 : b8 ≤ a3) : CR prog 7 [(zal #[(str a0.1), (Vs a2 b8 a3)])] w fun v w' => v = (Vb r) ∧ Hp w [] [] w' := by
 subst d0
 have hH := Hp.refl w
 refine enter (k := 53) func7 rfl rfl nbe ?_
 unfold agl at hr
 refine sr (ael hH (Zz51 a0.1 a2 a0.2.length a3) 34 (fun b => (Vp (some ⟨b, 0, none⟩))) rfl rfl krf fun b1 w2 a9 => wp 1 (nq (cs (sr (wp 1 ?_)))))
 refine acn a9 0 b1 1 (Zz51 a0.1 a2 a0.2.length a3) 34 (Vs a2 a0.2.length a3) rfl rfl krf krf (wp 2 (nq (cd hr (fun h4 hr => ?_) (fun h4 hr => ?_))))
 refine sr (bi hr fun y5 d1 hr => wc ent14 a9 (amf d1 (hG.hp0 a9)) fun w7 d2 => wp 1 (nq (ct (st ?_))))
 obtain rfl := oi hr
 exact rv d2.kp
 refine ck (qn (sr (ami a9 0 b1 0 2 (Zz51 a0.1 a2 a0.2.length a3) (Zz51 a0.1 a2 a0.2.length a3) 34 rfl rfl rfl krf krf krf (bi hr fun b9 d3 hr => wc ent22 a9 (K_L_header_PrintItem a2 a0.2.length a3 d3 (hG.hp0 a9) rfl (c3.hp a9) c4) fun f6 b0 => wp 5 (nq ?_)))))
 refine cs (sr (wp 1 (ahi b9.2 (0 : UInt8) krf krf (nq (cn hr (fun d4 hr => ?_) (fun d4 hr => ?_))))))
 refine bi hr fun d5 a8 hr => aij b0 [1, 2, 3] [(2, (Vb d5))] ?_ ?_
 refine cr (wp 1 (ady b9.2 (2 : UInt8) krf krf (wd a8 (fun d6 a8 => ?_) (fun d6 a8 => ?_))))
 refine wp 3 (wd a8 (fun d7 a8 => ?_) (fun d7 a8 => ?_))
 refine gy 25 (bi a8 fun f7 d8 a8 => wc ent14 b0 (amf d8 (hG.hp0 b0)) fun f8 d9 => wp 2 (wl (ql ?_)))
 obtain rfl := oi a8
 exact je d9.kp
 refine wp 3 (wl (ql ?_))
 obtain rfl := oi a8
 exact je b0.kp
 refine wp 7 (wl (ql ?_))
 obtain rfl := oi a8
 exact je b0.kp
 intro f9 G e0
 refine ct (st ?_)
 obtain rfl := oi hr
 exact rv e0.kp
 refine ck (qn (sr (wp 1 (bi hr fun a1 e1 hr => aas 20 #[] [(str b9.1)] _ ent20 krf krf (K_L_header_Item e1 (hG.hp0 b0)) ?_))))
 rintro _ e2 ⟨b5, a5, a6, rfl, c5⟩
 have e3 : Hp w [] [rwt aaa 46 3 b5 a5 a6 a1.1.2, blk b1 (Zz51 a0.1 a2 a0.2.length a3) 34] e2 := Hp.callK (L1 := []) (L2 := [blk b1 (Zz51 a0.1 a2 a0.2.length a3) 34]) b0 c5; clear c5
 refine wp 3 (ael e3 (Zz27) 34 (fun b => (Vp (some ⟨b, 0, none⟩))) rfl rfl krf fun a7 g0 e4 => aho e4 0 a7 0 (Zz27) (Zz51 a1.1.1 a5 a1.1.2.length a6) 34 [blk a7 (Zz51 a1.1.1 a5 a1.1.2.length a6) 34, rwt aaa 46 3 b5 a5 a6 a1.1.2, blk b1 (Zz51 a0.1 a2 a0.2.length a3) 34] rfl nbe krf krf rfl krf rfl fun g1 c0 => wp 1 (nq (bi hr fun e5 a4 hr => cut (σ := Bool) [2] (fun b6 => [(2, (Vb b6))]) (fun b6 w' => Hp w [] [] w' ∧ b6 = e5) ?_ ?_)))
 by_cases b4 : a1.2 = (0 : UInt8)
 replace a4 := ift b4 a4
 by_cases b7 : a1.1.1 = a0.1
 replace a4 := ift b7 a4
 refine bi a4 fun c6 e6 a4 => aeg 15 (fun j_ w_ w_' => acg (Zz30) (fun w' => w'.heap[a7]? = some (.cells (Zz51 a1.1.1 a5 a1.1.2.length a6).toArray 34 (0, 0))) j_ w_ w_' ∧ acg (Zz30) (fun w' => w'.heap[b1]? = some (.cells (Zz51 a0.1 a2 a0.2.length a3).toArray 34 (0, 0))) j_ w_ w_' ∧ acg [15, 16, 17, 18, 19, 20] (fun w' => w'.heap[a7]? = some (.cells (Zz51 a1.1.1 a5 a1.1.2.length a6).toArray 34 (0, 0))) j_ w_ w_' ∧ acg [14, 15, 16, 17, 18, 19, 20] (fun w' => w'.heap[b1]? = some (.cells (Zz51 a0.1 a2 a0.2.length a3).toArray 34 (0, 0))) j_ w_ w_' ∧ True) (Zz43) (fun _ _ => ⟨acg.same, acg.same, acg.same, acg.same, trivial⟩) krf krf c0 rfl (aaw aco) fun g2 b2 => rp 14 [0] (rt 1 (Vb (decide (a1.2 = (0 : UInt8)))) rfl rfl (abc rfl (by intro w hS_; exact (x8_eql a1.2 (0 : UInt8) krf krf))) (rt 2 (Vb true) rfl rfl (abc rfl (by intro w hS_; exact Eq.trans (b := Result.ok (Next.value (.bool (decide (a1.2 = (0 : UInt8))))) w) krf (congrArg (fun b => Result.ok (Next.value (.bool b)) w) (decide_eq_true b4)))) (rp 11 [3] (aaz (Zz65) 4 37 (str a1.1.1) (Zz30) (fun _ _ _ h => h.1) _ rfl rfl krf krf krf krf krf rfl (afz 35 krf krf krf (by intro w hS_; exact (ahd a7 0 (Zz51 a1.1.1 a5 a1.1.2.length a6) 34 (str a1.1.1) hS_ rfl krf krf))) (by exact b2.blkAt 0 rfl) (rp 9 [5] (aaz (Zz66) 6 39 (str a0.1) (Zz30) (fun _ _ _ h => h.2.1) _ rfl rfl krf krf krf krf krf rfl (afz 35 krf krf krf (by intro w hS_; exact (ahd b1 0 (Zz51 a0.1 a2 a0.2.length a3) 34 (str a0.1) hS_ rfl krf krf))) (by exact b2.blkAt 2 rfl) (rp 6 [7, 8] ?_)))))))
 refine rt 9 (Vb true) rfl rfl (abc rfl (by intro w hS_; exact Eq.trans (b := Result.ok (Next.value (.bool (decide (a1.1.1 = a0.1)))) w) krf (congrArg (fun b => Result.ok (Next.value (.bool b)) w) (decide_eq_true b7)))) (rp 4 [10] (aaz [true, true, true, true, true, true, true, true, true, true, true, true, false, false, false, false, false, false, false, false, false] 11 44 (Vs a5 a1.1.2.length a6) [15, 16, 17, 18, 19, 20] (fun _ _ _ h => h.2.2.1) _ rfl rfl krf krf krf krf krf rfl (afz 42 krf krf krf (by intro w hS_; exact (ahd a7 1 (Zz51 a1.1.1 a5 a1.1.2.length a6) 34 (Vs a5 a1.1.2.length a6) hS_ rfl krf krf))) (by exact b2.blkAt 0 rfl) (rp 2 [12] (aaz [true, true, true, true, true, true, true, true, true, true, true, true, true, true, false, false, false, false, false, false, false] 13 46 (Vs a2 a0.2.length a3) [14, 15, 16, 17, 18, 19, 20] (fun _ _ _ h => h.2.2.2.1) _ rfl rfl krf krf krf krf krf rfl (afz 42 krf krf krf (by intro w hS_; exact (ahd b1 1 (Zz51 a0.1 a2 a0.2.length a3) 34 (Vs a2 a0.2.length a3) hS_ rfl krf krf))) (by exact b2.blkAt 2 rfl) (ro 14 rfl (gy 42 (aas 29 #[] [(Vs a2 a0.2.length a3)] _ ent29 krf krf (K_L_ref02_Sorted a2 a0.2.length a3 e6 (hG.hp0 b2) rfl (c3.hp b2) c4) ?_)))))))
 rintro _ e7 ⟨e8, c7, c8, rfl, c9⟩
 have b3 : Hp w [] [rwt aaa 46 3 e8 c7 c8 c6, blk a7 (Zz51 a1.1.1 a5 a1.1.2.length a6) 34, rwt aaa 46 3 b5 a5 a6 a1.1.2, blk b1 (Zz51 a0.1 a2 a0.2.length a3) 34] e7 := Hp.callK (L1 := []) (L2 := [blk a7 (Zz51 a1.1.1 a5 a1.1.2.length a6) 34, rwt aaa 46 3 b5 a5 a6 a1.1.2, blk b1 (Zz51 a0.1 a2 a0.2.length a3) 34]) b2 c9; clear c9
 refine wl (ack (by exact ⟨acg.out rfl, acg.out rfl, acg.new (b3.blkAt 1 rfl), acg.out rfl, trivial⟩) (adf krf (gy 42 (bi a4 fun g3 e9 a4 => wc ent24 b3 (K_L_ref02_SameParams a5 a1.1.2.length a6 c7 c6.length c8 e9 (hG.hp0 b3) rfl (b3.rdrw 2 rfl) (b3.rwcap 2 rfl) rfl (b3.rdrw 0 rfl) (b3.rwcap 0 rfl)) fun g4 c1 => wp 1 (wb a4 (fun f0 a4 => ?_) (fun f0 a4 => ?_))))))
 refine gy 50 (bi a4 fun f1 f2 a4 => wc ent14 c1 (amf f2 (hG.hp0 c1)) fun g5 f3 => wp 2 (wl (ql ?_)))
 obtain rfl := oi a4
 exact ⟨f1, _, rfl, by kernel_rfl, f3.kp, rfl⟩
 refine wp 3 (wl (ql ?_))
 obtain rfl := oi a4
 exact ⟨false, _, rfl, by kernel_rfl, c1.kp, rfl⟩
 replace a4 := ifn b7 a4
 refine aeg 15 (fun j_ w_ w_' => acg (Zz30) (fun w' => w'.heap[a7]? = some (.cells (Zz51 a1.1.1 a5 a1.1.2.length a6).toArray 34 (0, 0))) j_ w_ w_' ∧ acg (Zz30) (fun w' => w'.heap[b1]? = some (.cells (Zz51 a0.1 a2 a0.2.length a3).toArray 34 (0, 0))) j_ w_ w_' ∧ acg [15, 16, 17, 18, 19, 20] (fun w' => w'.heap[a7]? = some (.cells (Zz51 a1.1.1 a5 a1.1.2.length a6).toArray 34 (0, 0))) j_ w_ w_' ∧ acg [14, 15, 16, 17, 18, 19, 20] (fun w' => w'.heap[b1]? = some (.cells (Zz51 a0.1 a2 a0.2.length a3).toArray 34 (0, 0))) j_ w_ w_' ∧ True) (Zz43) (fun _ _ => ⟨acg.same, acg.same, acg.same, acg.same, trivial⟩) krf krf c0 rfl (aaw aco) fun g6 c2 => rp 14 [0] (rt 1 (Vb (decide (a1.2 = (0 : UInt8)))) rfl rfl (abc rfl (by intro w hS_; exact (x8_eql a1.2 (0 : UInt8) krf krf))) (rt 2 (Vb true) rfl rfl (abc rfl (by intro w hS_; exact Eq.trans (b := Result.ok (Next.value (.bool (decide (a1.2 = (0 : UInt8))))) w) krf (congrArg (fun b => Result.ok (Next.value (.bool b)) w) (decide_eq_true b4)))) (rp 11 [3] (aaz (Zz65) 4 37 (str a1.1.1) (Zz30) (fun _ _ _ h => h.1) _ rfl rfl krf krf krf krf krf rfl (afz 35 krf krf krf (by intro w hS_; exact (ahd a7 0 (Zz51 a1.1.1 a5 a1.1.2.length a6) 34 (str a1.1.1) hS_ rfl krf krf))) (by exact c2.blkAt 0 rfl) (rp 9 [5] (aaz (Zz66) 6 39 (str a0.1) (Zz30) (fun _ _ _ h => h.2.1) _ rfl rfl krf krf krf krf krf rfl (afz 35 krf krf krf (by intro w hS_; exact (ahd b1 0 (Zz51 a0.1 a2 a0.2.length a3) 34 (str a0.1) hS_ rfl krf krf))) (by exact c2.blkAt 2 rfl) (rp 6 [7, 8] (rt 9 (Vb false) rfl rfl (abc rfl (by intro w hS_; exact Eq.trans (b := Result.ok (Next.value (.bool (decide (a1.1.1 = a0.1)))) w) krf (congrArg (fun b => Result.ok (Next.value (.bool b)) w) (decide_eq_false b7)))) ?_))))))))
 refine rp 1 [10, 11, 12, 13] (ro 14 rfl (wp 1 (wl (ack (by exact ⟨acg.same, acg.same, acg.same, acg.same, trivial⟩) (adf krf (wp 6 (wl (ql ?_))))))))
 obtain rfl := oi a4
 exact ⟨false, _, rfl, by kernel_rfl, c2.kp, rfl⟩
 replace a4 := ifn b4 a4
 refine aeg 15 (fun j_ w_ w_' => acg (Zz30) (fun w' => w'.heap[a7]? = some (.cells (Zz51 a1.1.1 a5 a1.1.2.length a6).toArray 34 (0, 0))) j_ w_ w_' ∧ acg (Zz30) (fun w' => w'.heap[b1]? = some (.cells (Zz51 a0.1 a2 a0.2.length a3).toArray 34 (0, 0))) j_ w_ w_' ∧ acg [15, 16, 17, 18, 19, 20] (fun w' => w'.heap[a7]? = some (.cells (Zz51 a1.1.1 a5 a1.1.2.length a6).toArray 34 (0, 0))) j_ w_ w_' ∧ acg [14, 15, 16, 17, 18, 19, 20] (fun w' => w'.heap[b1]? = some (.cells (Zz51 a0.1 a2 a0.2.length a3).toArray 34 (0, 0))) j_ w_ w_' ∧ True) (Zz43) (fun _ _ => ⟨acg.same, acg.same, acg.same, acg.same, trivial⟩) krf krf c0 rfl (aaw aco) fun g7 f4 => rp 14 [0] (rt 1 (Vb (decide (a1.2 = (0 : UInt8)))) rfl rfl (abc rfl (by intro w hS_; exact (x8_eql a1.2 (0 : UInt8) krf krf))) (rt 2 (Vb false) rfl rfl (abc rfl (by intro w hS_; exact Eq.trans (b := Result.ok (Next.value (.bool (decide (a1.2 = (0 : UInt8))))) w) krf (congrArg (fun b => Result.ok (Next.value (.bool b)) w) (decide_eq_false b4)))) (rp 1 [3, 4, 5, 6, 7, 8, 9, 10, 11, 12, 13] (ro 14 rfl (wp 1 (wl (ack (by exact ⟨acg.same, acg.same, acg.same, acg.same, trivial⟩) (adf krf ?_))))))))
 refine wp 6 (wl (ql ?_))
 obtain rfl := oi a4
 exact ⟨false, _, rfl, by kernel_rfl, f4.kp, rfl⟩
 rintro b6 g8 G ⟨f5, rfl⟩
 refine ct ?_
 obtain rfl := oi hr
 exact rv f5.kp
end Go.Proofs
