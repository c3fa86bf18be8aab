/-
  The law HeaderNames holds: for every name the call returns true; no condition beyond the statement's own (part 3 of 8).
-/
import Derived.Test.YtbfppjfgcjpknaaGreatDoorHn2
import Derived.Test.YtbfppjfgcjpknaaGreatDoorProg
set_option linter.unusedVariables false
set_option linter.unusedSimpArgs false
set_option maxRecDepth 20000
set_option maxHeartbeats 1000000
namespace Go.Proofs
open Go.Wk Go.Px
open Go.Value renaming slice → Vs, int → Vi, bool → Vb, pointer → Vp
theorem ent52 : Go.Wk.Enters Tryz.prog 52 := ⟨Tryz.f52, _, Tryz.func52, rfl, by kernel_rfl⟩
theorem ent53 : Go.Wk.Enters Tryz.prog 53 := ⟨Tryz.f53, _, Tryz.func53, rfl, by kernel_rfl⟩
theorem ent61 : Go.Wk.Enters Tryz.prog 61 := ⟨Tryz.f61, _, Tryz.func61, rfl, by kernel_rfl⟩
theorem ent69 : Go.Wk.Enters Tryz.prog 69 := ⟨Tryz.f69, _, Tryz.func69, rfl, by kernel_rfl⟩
theorem ent87 : Go.Wk.Enters Tryz.prog 87 := ⟨Tryz.f87, _, Tryz.func87, rfl, by kernel_rfl⟩
theorem ent89 : Go.Wk.Enters Tryz.prog 89 := ⟨Tryz.f89, _, Tryz.func89, rfl, by kernel_rfl⟩
theorem ent116 : Go.Wk.Enters Tryz.prog 116 := ⟨Tryz.f116, _, Tryz.func116, rfl, by kernel_rfl⟩
theorem K_L_header_Canon_1 {fu : Nat} {a2 : UInt8} {a1 : Bool} (a0 : Nat) {w : World} {r : (UInt8 × Bool)} (hr : aik fu a2 a1 = some r) (hG : Gl w) (hM : Hp w (aah [blk a0 [(Vb a1)] 4]) [blk a0 [(Vb a1)] 4] w) (hS : ∀ b ∈ aah [blk a0 [(Vb a1)] 4], 9 ≤ b) : CR Tryz.prog 89 [(bt a2), (Vp (some ⟨a0, 0, none⟩))] w fun v w' => v = (bt r.1) ∧ Hp w (aah [blk a0 [(Vb a1)] 4]) [blk a0 [(Vb r.2)] 4] w' := by
  have hH : Hp w (aah [blk a0 [(Vb a1)] 4]) [blk a0 [(Vb a1)] 4] w := hM
  refine enter (k := 12) Tryz.func89 rfl rfl (Nat.le_of_ble_eq_true rfl) ?_
  unfold aik at hr
  refine sr (wp 1 (nq (cs (sr (aav hH 0 a0 0 [(Vb a1)] 4 (Vb a1) rfl rfl (by kernel_rfl) (by kernel_rfl) (wl ?_))))))
  refine qn (cb hr (fun h1 hr => ?_) (fun h1 hr => ?_))
  refine cr (wp 1 (bi hr fun y2 a3 hr => wc ent53 hH (amh a3 (hG.hp hH hS)) fun w4 a4 => wp 1 (nq (sr (wp 1 ?_)))))
  refine acf y2 (45 : UInt8) (by kernel_rfl) (by kernel_rfl) (aet a4 0 a0 0 [(Vb a1)] 4 (Vb (decide (y2 = (45 : UInt8)))) [blk a0 [(Vb (decide (y2 = (45 : UInt8))))] 4] rfl (Nat.lt_of_lt_of_le (Nat.lt_succ_self _) (Nat.le_of_ble_eq_true rfl)) (by kernel_rfl) (by kernel_rfl) rfl (by kernel_rfl) rfl fun w7 a5 => nq (sr (wp 2 (nq (ct ?_)))))
  obtain rfl := oi hr
  refine ano (bt y2) rfl (by kernel_rfl) ?_
  exact ⟨(by first | rfl | (simp; done) | (simp; omega)), a5.kp⟩
  refine cr (wp 1 (bi hr fun y9 a6 hr => wc ent88 hH (akc a6 (hG.hp hH hS)) fun a9 a7 => wp 1 (nq (sr (wp 1 ?_)))))
  refine acf y9 (45 : UInt8) (by kernel_rfl) (by kernel_rfl) (aet a7 0 a0 0 [(Vb a1)] 4 (Vb (decide (y9 = (45 : UInt8)))) [blk a0 [(Vb (decide (y9 = (45 : UInt8))))] 4] rfl (Nat.lt_of_lt_of_le (Nat.lt_succ_self _) (Nat.le_of_ble_eq_true rfl)) (by kernel_rfl) (by kernel_rfl) rfl (by kernel_rfl) rfl fun b0 a8 => nq (sr (wp 2 (nq (ct ?_)))))
  obtain rfl := oi hr
  refine ano (bt y9) rfl (by kernel_rfl) ?_
  exact ⟨(by first | rfl | (simp; done) | (simp; omega)), a8.kp⟩
theorem aku {fu : Nat} {s_0 : Str} {a5 : Bool} (a0 : Nat) {w : World} {r : (Str × Bool)} (hr : acn fu s_0 a5 = some r) (hG : Gl w) (hM : Hp w (aah [blk a0 [(Vb a5)] 4]) [blk a0 [(Vb a5)] 4] w) (hS : ∀ b ∈ aah [blk a0 [(Vb a5)] 4], 9 ≤ b) : CR Tryz.prog 52 [(str s_0), (Value.func (.func 89) #[] #[(Vp (some ⟨a0, 0, none⟩))])] w fun v w' => v = (str r.1) ∧ Hp w (aah [blk a0 [(Vb a5)] 4]) [blk a0 [(Vb r.2)] 4] w' := by
  have hH : Hp w (aah [blk a0 [(Vb a5)] 4]) [blk a0 [(Vb a5)] 4] w := hM
  refine enter (k := 26) Tryz.func52 rfl rfl (Nat.le_of_ble_eq_true rfl) ?_
  unfold acn at hr
  refine sr (wp 1 (nq (sr (wp 1 (ann hH s_0 5 Tryz.underlying9 Tryz.underlying92 Tryz.underlying5 (by kernel_rfl) fun a1 cap2 w3 b6 => wp 1 ?_)))))
  refine nq (bi hr fun b4 b7 hr => cut (σ := (Str × Bool)) [4, 5] (fun a6 => []) (fun a6 w' => Hp w (aah [blk a0 [(Vb a5)] 4]) [blk a0 [(Vb a6.2)] 4, brow (Vs a1 s_0.length cap2) s_0.length a6.1] w' ∧ a6 = b4) ?_ ?_)
  refine sr (wp 3 (nq (ce (lpG (σ := Nat × Str × Int × Bool) [1, 4, 5, 10, 11, 12] (fun ⟨a9, a3, a4, a7⟩ => [(12, (Vi .i64 a4))]) (fun ⟨a9, a3, a4, a7⟩ w' => Hp w (aah [blk a0 [(Vb a5)] 4]) [blk a0 [(Vb a7)] 4, brow (Vs a1 s_0.length cap2) s_0.length a3] w' ∧ abi fu s_0 a9 a3 a4 a7 = some b4) (fun ⟨a9, a3, a4, a7⟩ => a9) (fu, s_0, (0 : Int), a5) (by exact ⟨(Hp.front b6 1 _ rfl).kp, b7⟩) ?_))))
  rintro ⟨_ | a9, a3, a4, a7⟩ c8 G ⟨a8, a2⟩
  · exact absurd (show none = some _ from a2) (by simp)
  rw [abi.eq_2] at a2
  refine sr (wp 1 (nq (cs (cd a2 (fun b8 a2 => ?_) (fun b8 a2 => ?_)))))
  refine ck (qn (cs (ce (sr (wp 1 (gi a2 fun b9 a2 => afk a1 s_0.length cap2 5 1 .i64 a4 Tryz.underlying92 (by kernel_rfl) (by kernel_rfl) (by kernel_rfl) a3 (a8.browlen 1 rfl).symm b9 (Rd.ofbytes (a8.rdbrow 1 rfl)) agf (by decide) (gi a2 fun c0 a2 => ?_)))))))
  refine ajy a1 eB a3 1 a4 agf (Rd.ofbytes (a8.rdbrow 1 rfl)) (bt (at_ a3 a4)) c0 (by decide) (by kernel_rfl) (by kernel_rfl) (by kernel_rfl) (wp 2 (nq (cr (wp 4 (bi a2 fun b0 c1 a2 => aad 89 #[(Vp (some ⟨a0, 0, none⟩))] [(bt (at_ a3 a4)), (Vp (some ⟨a0, 0, none⟩))] _ ent89 (by kernel_rfl) (by kernel_rfl) (K_L_header_Canon_1 a0 c1 (hG.hp a8 hS) (a8.hand (L1 := [blk a0 [(Vb a7)] 4]) (L2 := [brow (Vs a1 s_0.length cap2) s_0.length a3])) (a8.highs hG hS 1 rfl)) ?_)))))
  rintro _ c2 ⟨rfl, b5⟩
  have b1 : Hp w (aah [blk a0 [(Vb a5)] 4]) [blk a0 [(Vb b0.2)] 4, brow (Vs a1 s_0.length cap2) s_0.length a3] c2 := Hp.callK (L1 := [blk a0 [(Vb a7)] 4]) (L2 := [brow (Vs a1 s_0.length cap2) s_0.length a3]) a8 b5; clear b5
  refine gi a2 fun c3 a2 => afk a1 s_0.length cap2 5 1 .i64 a4 Tryz.underlying92 (by kernel_rfl) (by kernel_rfl) (by kernel_rfl) a3 (b1.browlen 1 rfl).symm c3 (Rd.ofbytes (b1.rdbrow 1 rfl)) agf (by decide) (gi a2 fun c4 a2 => w_stB b1 1 a1 s_0.length cap2 a4 a3 b0.1 rfl c4 (by kernel_rfl) (by kernel_rfl) (by kernel_rfl) fun c5 b2 => ?_)
  replace b2 : Hp w (aah [blk a0 [(Vb a5)] 4]) [blk a0 [(Vb b0.2)] 4, brow (Vs a1 s_0.length cap2) s_0.length (List.set a3 (Int.toNat a4) b0.1)] c5 := b2
  refine wl (bn (qn (cr (gi a2 fun c6 a2 => aac a4 (1 : Int) (by kernel_rfl) (by kernel_rfl) c6 (wp 1 (wl (ql ?_)))))))
  exact ⟨(a9, List.set a3 (Int.toNat a4) b0.1, a4 + (1 : Int), b0.2), _, rfl, by kernel_rfl, ⟨(Hp.front (Hp.front b2 1 _ rfl) 1 _ rfl).kp, a2⟩, Nat.lt_succ_self _⟩
  refine acc (acb (aci (acd (ql ?_))))
  obtain rfl := oi a2
  exact ⟨(a3, a7), _, rfl, by kernel_rfl, (Hp.front (Hp.front a8 1 _ rfl) 1 _ rfl).kp, rfl⟩
  rintro a6 c7 G ⟨b3, rfl⟩
  refine sr (wp 1 (ady (v := (str a6.1)) (w' := c7) rfl rfl (amq a6.1 a1 s_0.length cap2 5 (Rd.bytes (Rd.ofbytes (b3.rdbrow 1 rfl))) (b3.browlen 1 rfl) Tryz.underlying92 Tryz.underlying9 Tryz.underlying5 (by kernel_rfl)) (wp 1 (nq (ct ?_)))))
  obtain rfl := oi hr
  refine ano (str a6.1) rfl (by kernel_rfl) ?_
  exact ⟨(by first | rfl | (simp; done) | (simp; omega)), b3.kp⟩
theorem akl {fu : Nat} {a6 : Str} {w : World} {r : (Str × UInt8)} (hr : agc fu a6 = some r) (hG : Gl w) : CR Tryz.prog 34 [(str a6)] w fun v w' => v = (Value.tuple #[(str r.1), (bt r.2)]) ∧ Hp w [] [] w' := by
  have hH : Hp w [] [] w := Hp.refl w
  refine enter (k := 42) Tryz.func34 rfl rfl (Nat.le_of_ble_eq_true rfl) ?_
  unfold agc at hr
  refine sr (wp 2 (nq (cs (bi hr fun b7 a3 hr => afy hH [0, 2, 3, 16] [(16, (Vb b7))] ?_ ?_))))
  refine cr (wp 1 (bi a3 fun e4 b8 a3 => wc ent69 hH (afc b8 (hG.hp0 hH)) fun e5 b0 => wp 1 (wb a3 (fun b9 a3 => ?_) (fun b9 a3 => ?_))))
  refine wp 4 (wl (ql ?_))
  obtain rfl := oi a3
  exact je b0.kp
  refine wp 4 (wl (ql ?_))
  obtain rfl := oi a3
  exact je b0.kp
  intro e6 G a5
  refine cb hr (fun c0 hr => ?_) (fun c0 hr => ?_)
  refine sr (wp 2 (nq (ct (st ?_))))
  obtain rfl := oi hr
  exact rv a5.kp
  refine ck (qn (bi hr fun c1 a1 hr => cut1 a5 c1 [0, 2, 3] (fun c2 => []) ?_ ?_))
  refine sr (wp 3 (nq (cd a1 (fun c3 a1 => ?_) (fun c3 a1 => ?_))))
  refine sr (wp 1 (gi a1 fun c4 a1 => adc a6 .i64 (0 : Int) Tryz.underlying9 (by kernel_rfl) (by kernel_rfl) c4 (bi a1 fun e7 c5 a1 => wc ent88 a5 (akc c5 (hG.hp0 a5)) fun e8 b1 => bi a1 fun e9 c6 a1 => wc ent87 b1 (K_L_header_longName c6 (hG.hp0 b1)) fun f0 b2 => wp 1 ?_)))
  refine nq (sr (wp 2 (nq (cn a1 (fun c7 a1 => ?_) (fun c7 a1 => ?_)))))
  refine sr (wp 3 (nq (ct (ach ?_))))
  obtain rfl := oi a1
  obtain rfl := oi hr
  exact rv b2.kp
  refine ck (ql ?_)
  obtain rfl := oi a1
  exact je1 rfl b2.kp
  refine ck (ql ?_)
  obtain rfl := oi a1
  exact je1 rfl a5.kp
  rintro c2 f1 G b3 rfl
  refine sr (wp 1 (bi hr fun c8 c9 hr => wc ent52 b3 (age c9 (hG.hp0 b3)) fun f2 a8 => wp 1 (nq (bi hr fun d0 d1 hr => cut1 a8 d0 [0, 2, 3] (fun d2 => []) ?_ ?_))))
  refine sr (w_rdN (some ⟨0, 0, none⟩) (List.flatMap eS ahc) [(str ([67, 97, 108, 108, 45, 73, 68] : Str)), (str ([67, 83, 101, 113] : Str)), (str ([77, 73, 77, 69, 45, 86, 101, 114, 115, 105, 111, 110] : Str)), (str ([77, 105, 110, 45, 83, 69] : Str)), (str ([82, 65, 99, 107] : Str)), (str ([82, 83, 101, 113] : Str)), (str ([87, 87, 87, 45, 65, 117, 116, 104, 101, 110, 116, 105, 99, 97, 116, 101] : Str))] 0 7 (hG.specials.rd.hp a8) rfl rfl (by decide) (by kernel_rfl) (by kernel_rfl) (by kernel_rfl) (wp 1 (nq (ce (lpS (fun b4 a2 => aeg fu c8 b4 a2) (0 : Int) a8 d1 [0, 2, 3, 5, 30, 29] (fun a2 => [(30, (Vi .i64 a2))]) (fun _ => rfl) ?_)))))
  rintro b4 a2 f3 G a9 a0
  rw [aeg.eq_2] at a0
  refine sr (wp 1 (nq (cs (cd a0 (fun d3 a0 => ?_) (fun d3 a0 => ?_)))))
  refine ck (qn (cs (ce (sr (gi a0 fun d4 a0 => w_ixA eS ahc 7 .i64 a2 [(str ([67, 97, 108, 108, 45, 73, 68] : Str)), (str ([67, 83, 101, 113] : Str)), (str ([77, 73, 77, 69, 45, 86, 101, 114, 115, 105, 111, 110] : Str)), (str ([77, 105, 110, 45, 83, 69] : Str)), (str ([82, 65, 99, 107] : Str)), (str ([82, 83, 101, 113] : Str)), (str ([87, 87, 87, 45, 65, 117, 116, 104, 101, 110, 116, 105, 99, 97, 116, 101] : Str))] (str (el ahc a2)) rfl Tryz.underlying99 rfl (by kernel_rfl) (by kernel_rfl) (by kernel_rfl) (by kernel_rfl) (by kernel_rfl) d4 (wp 1 (wl ?_)))))))
  refine qn (sr (wp 1 (bi a0 fun f4 d5 a0 => wc ent52 a9 (age d5 (hG.hp0 a9)) fun f5 b5 => wp 2 (nq (cd a0 (fun d6 a0 => ?_) (fun d6 a0 => ?_))))))
  refine sr (wp 3 (nq (ct (bt_ (st (ach (bt_ ?_)))))))
  refine ach ?_
  obtain rfl := oi a0
  obtain rfl := oi hr
  exact rv b5.kp
  exact ck (bn (qn (cr (gi a0 fun d7 a0 => aac a2 (1 : Int) (by kernel_rfl) (by kernel_rfl) d7 (wp 1 (wl (ql (le' (a2 + (1 : Int)) b5.kp a0))))))))
  refine acc (acb (aci (acd (ql ?_))))
  obtain rfl := oi a0
  exact je1 rfl a9.kp
  rintro d2 f6 G d8 rfl
  refine sr (acx d8 [(Vb false)] 4 (fun b => (Vp (some ⟨b, 0, none⟩))) rfl rfl (by kernel_rfl) fun a4 f7 d9 => aet d9 0 a4 0 [(Vb false)] 4 (Vb true) [blk a4 [(Vb true)] 4] rfl (Nat.lt_of_lt_of_le (Nat.lt_succ_self _) (Nat.le_of_ble_eq_true rfl)) (by kernel_rfl) (by kernel_rfl) rfl (by kernel_rfl) rfl fun f8 a7 => nq (sr (wp 2 (bi hr fun e0 e1 hr => ?_))))
  refine aad 52 #[] [(str a6), (Value.func (.func 89) #[] #[(Vp (some ⟨a4, 0, none⟩))])] _ ent52 (by kernel_rfl) (by kernel_rfl) (aku a4 e1 (hG.hp0 a7) (a7.hand (L1 := [blk a4 [(Vb true)] 4]) (L2 := [])) (a7.highs hG (fun _ h => absurd h (by simp)) 1 rfl)) ?_
  rintro _ e2 ⟨rfl, b6⟩
  have e3 : Hp w [] [blk a4 [(Vb e0.2)] 4] e2 := Hp.callK (L1 := [blk a4 [(Vb true)] 4]) (L2 := []) a7 b6; clear b6
  refine wp 2 (nq (ct ?_))
  obtain rfl := oi hr
  exact rv e3.kp
theorem K_L_ref01_TokenChar {fu : Nat} {a1 : UInt8} {w : World} {r : Bool} (hr : ahr fu a1 = some r) (hG : Gl w) : CR Tryz.prog 116 [(bt a1)] w fun v w' => v = (Vb r) ∧ Hp w [] [] w' := by
  have hH : Hp w [] [] w := Hp.refl w
  refine enter (k := 40) Tryz.func116 rfl rfl (Nat.le_of_ble_eq_true rfl) ?_
  unfold ahr at hr
  refine sr (wp 1 (nq (cs (bi hr fun a7 a0 hr => afy hH [0, 2, 26] [(26, (Vb a7))] ?_ ?_))))
  refine cr (wp 1 (aiu a1 (65 : UInt8) (by kernel_rfl) (by kernel_rfl) (wd a0 (fun a8 a0 => ?_) (fun a8 a0 => ?_))))
  refine wp 1 (gy 7 (ait a1 (90 : UInt8) (by kernel_rfl) (by kernel_rfl) (wp 1 (wd a0 (fun a9 a0 => ?_) (fun a9 a0 => ?_)))))
  refine wp 15 (wl (ql ?_))
  obtain rfl := oi a0
  exact je hH.kp
  refine wp 1 (gy 11 (aiu a1 (97 : UInt8) (by kernel_rfl) (by kernel_rfl) (gy 11 (wd a0 (fun b0 a0 => ?_) (fun b0 a0 => ?_)))))
  refine wp 1 (gy 14 (ait a1 (122 : UInt8) (by kernel_rfl) (by kernel_rfl) (wp 2 (wd a0 (fun b1 a0 => ?_) (fun b1 a0 => ?_)))))
  refine wp 7 (wl (ql ?_))
  obtain rfl := oi a0
  exact je hH.kp
  refine wp 1 (gy 19 (aiu a1 (48 : UInt8) (by kernel_rfl) (by kernel_rfl) (gy 19 (wd a0 (fun b2 a0 => ?_) (fun b2 a0 => ?_)))))
  refine wp 1 (gy 22 (ait a1 (57 : UInt8) (by kernel_rfl) (by kernel_rfl) (wp 2 (wl (ql ?_)))))
  obtain rfl := oi a0
  exact je hH.kp
  refine wp 4 (wl (ql ?_))
  obtain rfl := oi a0
  exact je hH.kp
  refine wp 6 (gy 19 (aiu a1 (48 : UInt8) (by kernel_rfl) (by kernel_rfl) (gy 19 (wd a0 (fun b3 a0 => ?_) (fun b3 a0 => ?_)))))
  refine wp 1 (gy 22 (ait a1 (57 : UInt8) (by kernel_rfl) (by kernel_rfl) (wp 2 (wl (ql ?_)))))
  obtain rfl := oi a0
  exact je hH.kp
  refine wp 4 (wl (ql ?_))
  obtain rfl := oi a0
  exact je hH.kp
  refine wp 5 (gy 11 (aiu a1 (97 : UInt8) (by kernel_rfl) (by kernel_rfl) (gy 11 (wd a0 (fun b4 a0 => ?_) (fun b4 a0 => ?_)))))
  refine wp 1 (gy 14 (ait a1 (122 : UInt8) (by kernel_rfl) (by kernel_rfl) (wp 2 (wd a0 (fun b5 a0 => ?_) (fun b5 a0 => ?_)))))
  refine wp 7 (wl (ql ?_))
  obtain rfl := oi a0
  exact je hH.kp
  refine wp 1 (gy 19 (aiu a1 (48 : UInt8) (by kernel_rfl) (by kernel_rfl) (gy 19 (wd a0 (fun b6 a0 => ?_) (fun b6 a0 => ?_)))))
  refine wp 1 (gy 22 (ait a1 (57 : UInt8) (by kernel_rfl) (by kernel_rfl) (wp 2 (wl (ql ?_)))))
  obtain rfl := oi a0
  exact je hH.kp
  refine wp 4 (wl (ql ?_))
  obtain rfl := oi a0
  exact je hH.kp
  refine wp 6 (gy 19 (aiu a1 (48 : UInt8) (by kernel_rfl) (by kernel_rfl) (gy 19 (wd a0 (fun b7 a0 => ?_) (fun b7 a0 => ?_)))))
  refine wp 1 (gy 22 (ait a1 (57 : UInt8) (by kernel_rfl) (by kernel_rfl) (wp 2 (wl (ql ?_)))))
  obtain rfl := oi a0
  exact je hH.kp
  refine wp 4 (wl (ql ?_))
  obtain rfl := oi a0
  exact je hH.kp
  intro c7 G a4
  refine cb hr (fun b8 hr => ?_) (fun b8 hr => ?_)
  refine sr (wp 1 (nq (ct (st ?_))))
  obtain rfl := oi hr
  exact rv a4.kp
  refine ck (qn (sr (wp 1 (nq (bi hr fun b9 c0 hr => cut1 a4 b9 [0, 2] (fun c1 => []) ?_ ?_)))))
  refine sr (wp 1 (nq (ce (lpS (fun a6 a3 => agu fu a1 a6 a3) (0 : Int) a4 c0 [0, 2, 3, 4] (fun a3 => [(4, (Vi .i64 a3))]) (fun _ => rfl) ?_))))
  rintro a6 a3 c8 G a5 a2
  rw [agu.eq_2] at a2
  refine cs (sr (wp 4 (nq (cd a2 (fun c2 a2 => ?_) (fun c2 a2 => ?_)))))
  refine ck (qn (cs (ce (sr (wp 2 (gi a2 fun c3 a2 => adc ([45, 46, 33, 37, 42, 95, 43, 39, 126] : Str) .i64 a3 Tryz.underlying9 (by kernel_rfl) (by kernel_rfl) c3 (wp 1 ?_)))))))
  refine acf (at_ ([45, 46, 33, 37, 42, 95, 43, 39, 126] : Str) a3) a1 (by kernel_rfl) (by kernel_rfl) (nq (cd a2 (fun c4 a2 => ?_) (fun c4 a2 => ?_)))
  refine sr (wp 1 (nq (ct (bt_ (st (ach (bt_ ?_)))))))
  refine ach ?_
  obtain rfl := oi a2
  obtain rfl := oi hr
  exact rv a5.kp
  exact ck (bn (qn (cr (wp 1 (gi a2 fun c5 a2 => aac a3 (1 : Int) (by kernel_rfl) (by kernel_rfl) c5 (wp 1 (wl (ql (le' (a3 + (1 : Int)) a5.kp a2)))))))))
  refine acc (acb (aci (acd (ql ?_))))
  obtain rfl := oi a2
  exact je1 rfl a5.kp
  rintro c1 c9 G c6 rfl
  refine sr (wp 1 (acf a1 (96 : UInt8) (by kernel_rfl) (by kernel_rfl) (wp 1 (nq (ct ?_)))))
  obtain rfl := oi hr
  exact rv c6.kp
theorem K_L_ref01_TokenEnd {fu : Nat} {s_0 : Str} {a3 : Int} {w : World} {r : Int} (hr : aij fu s_0 a3 = some r) (hG : Gl w) : CR Tryz.prog 61 [(str s_0), (Vi .i64 a3)] w fun v w' => v = (Vi .i64 r) ∧ Hp w [] [] w' := by
  have hH : Hp w [] [] w := Hp.refl w
  refine enter (k := 24) Tryz.func61 rfl rfl (Nat.le_of_ble_eq_true rfl) ?_
  unfold aij at hr
  refine sr (wp 1 (nq (sr (wp 1 (w_max .i64 a3 (0 : Int) (by kernel_rfl) (by kernel_rfl) (wp 2 ?_))))))
  refine w_min .i64 (max a3 (0 : Int)) (s_0.length : Int) (by kernel_rfl) (by kernel_rfl) (wp 1 (nq (bi hr fun a7 a8 hr => afy hH [4, 5] [(5, (Vi .i64 a7))] ?_ ?_)))
  refine ce (lpS (fun a5 a2 => aee fu s_0 a5 a2) (min (max a3 (0 : Int)) (s_0.length : Int)) hH a8 [0, 4, 5] (fun a2 => [(5, (Vi .i64 a2))]) (fun _ => rfl) ?_)
  rintro a5 a2 b7 G a4 a0
  rw [aee.eq_2] at a0
  refine cs (bi a0 fun a9 a1 a0 => afy a4 [0, 4, 5, 20] [(20, (Vb a9))] ?_ ?_)
  refine cr (wp 4 (wd a1 (fun b0 a1 => ?_) (fun b0 a1 => ?_)))
  refine wp 2 (gy 15 (gi a1 fun b1 a1 => adc s_0 .i64 a2 Tryz.underlying9 (by kernel_rfl) (by kernel_rfl) b1 (gy 15 (bi a1 fun b8 b2 a1 => wc ent116 a4 (K_L_ref01_TokenChar b2 (hG.hp0 a4)) fun b9 b3 => wp 1 (wl (ql ?_))))))
  obtain rfl := oi a1
  exact je b3.kp
  refine wp 5 (wl (ql ?_))
  obtain rfl := oi a1
  exact je a4.kp
  intro c0 G a6
  refine cb a0 (fun b4 a0 => ?_) (fun b4 a0 => ?_)
  refine ck (qn (ce (cr (wp 1 (gi a0 fun b5 a0 => aac a2 (1 : Int) (by kernel_rfl) (by kernel_rfl) b5 (wp 1 (wl (bn ?_))))))))
  exact ql (le' (a2 + (1 : Int)) a6.kp a0)
  refine acc (acb (aci (acd (ql ?_))))
  obtain rfl := oi a0
  exact je a6.kp
  intro c1 G b6
  refine sr (wp 2 (nq (ct ?_)))
  obtain rfl := oi hr
  exact rv b6.kp
theorem K_L_ref01_Token {fu : Nat} {s_0 : Str} {w : World} {r : Bool} (hr : akz fu s_0 = some r) (hG : Gl w) : CR Tryz.prog 73 [(str s_0)] w fun v w' => v = (Vb r) ∧ Hp w [] [] w' := by
  have hH : Hp w [] [] w := Hp.refl w
  refine enter (k := 12) Tryz.func73 rfl rfl (Nat.le_of_ble_eq_true rfl) ?_
  unfold akz at hr
  refine sr (wp 1 (nq (bi hr fun a1 a0 hr => afy hH [2] [(2, (Vb a1))] ?_ ?_)))
  refine cr (wp 2 (wn a0 (fun a2 a0 => ?_) (fun a2 a0 => ?_)))
  refine wp 1 (gy 5 (bi a0 fun a6 a3 a0 => wc ent61 hH (K_L_ref01_TokenEnd a3 (hG.hp0 hH)) fun a7 a4 => wp 5 (wl (ql ?_))))
  obtain rfl := oi a0
  exact je a4.kp
  refine wp 7 (wl (ql ?_))
  obtain rfl := oi a0
  exact je hH.kp
  intro a8 G a5
  refine ct ?_
  obtain rfl := oi hr
  exact rv a5.kp
theorem K_L_ref02_Lower {fu : Nat} {s_0 : Str} {w : World} {r : Str} (hr : ajo fu s_0 = some r) (hG : Gl w) : CR Tryz.prog 27 [(str s_0)] w fun v w' => v = (str r) ∧ Hp w [] [] w' := by
  have hH : Hp w [] [] w := Hp.refl w
  refine enter (k := 35) Tryz.func27 rfl rfl (Nat.le_of_ble_eq_true rfl) ?_
  unfold ajo at hr
  refine sr (wp 1 (nq (sr (wp 1 (ann hH s_0 5 Tryz.underlying9 Tryz.underlying92 Tryz.underlying5 (by kernel_rfl) fun a1 cap2 w3 b2 => wp 1 ?_)))))
  refine nq (bi hr fun b1 b3 hr => cut (σ := Str) [2, 3] (fun a8 => []) (fun a8 w' => Hp w [] [brow (Vs a1 s_0.length cap2) s_0.length a8] w' ∧ a8 = b1) ?_ ?_)
  refine sr (wp 1 (nq (ce (lpG (σ := Nat × Str × Int) [2, 3, 4] (fun ⟨a6, a2, a0⟩ => [(4, (Vi .i64 a0))]) (fun ⟨a6, a2, a0⟩ w' => Hp w [] [brow (Vs a1 s_0.length cap2) s_0.length a2] w' ∧ aeq fu s_0 a6 a2 a0 = some b1) (fun ⟨a6, a2, a0⟩ => a6) (fu, s_0, (0 : Int)) (by exact ⟨b2.kp, b3⟩) ?_))))
  rintro ⟨_ | a6, a2, a0⟩ d0 G ⟨a5, a3⟩
  · exact absurd (show none = some _ from a3) (by simp)
  rw [aeq.eq_2] at a3
  refine cs (sr (wp 4 (nq (cd a3 (fun b4 a3 => ?_) (fun b4 a3 => ?_)))))
  refine ck (qn (cs (ce (bi a3 fun b5 a4 a3 => afy a5 [2, 3, 4, 24] [(24, (Vb b5))] ?_ ?_))))
  refine cr (wp 2 (gi a4 fun b6 a4 => afk a1 s_0.length cap2 5 1 .i64 a0 Tryz.underlying92 (by kernel_rfl) (by kernel_rfl) (by kernel_rfl) a2 (a5.browlen 0 rfl).symm b6 (Rd.ofbytes (a5.rdbrow 0 rfl)) agf (by decide) (gi a4 fun b7 a4 => ajy a1 eB a2 1 a0 agf (Rd.ofbytes (a5.rdbrow 0 rfl)) (bt (at_ a2 a0)) b7 (by decide) (by kernel_rfl) (by kernel_rfl) (by kernel_rfl) (aiu (at_ a2 a0) (65 : UInt8) (by kernel_rfl) (by kernel_rfl) (wd a4 (fun b8 a4 => ?_) (fun b8 a4 => ?_))))))
  refine wp 2 (gy 18 (gi a4 fun b9 a4 => afk a1 s_0.length cap2 5 1 .i64 a0 Tryz.underlying92 (by kernel_rfl) (by kernel_rfl) (by kernel_rfl) a2 (a5.browlen 0 rfl).symm b9 (Rd.ofbytes (a5.rdbrow 0 rfl)) agf (by decide) (gy 18 (gi a4 fun c0 a4 => ajy a1 eB a2 1 a0 agf (Rd.ofbytes (a5.rdbrow 0 rfl)) (bt (at_ a2 a0)) c0 (by decide) (by kernel_rfl) (by kernel_rfl) (by kernel_rfl) (gy 18 (ait (at_ a2 a0) (90 : UInt8) (by kernel_rfl) (by kernel_rfl) (wp 1 ?_)))))))
  refine wl (ql ?_)
  obtain rfl := oi a4
  exact je a5.kp
  refine wp 6 (wl (ql ?_))
  obtain rfl := oi a4
  exact je a5.kp
  intro d1 G a7
  refine cb a3 (fun c1 a3 => ?_) (fun c1 a3 => ?_)
  refine cr (wp 4 (gi a3 fun c2 a3 => afk a1 s_0.length cap2 5 1 .i64 a0 Tryz.underlying92 (by kernel_rfl) (by kernel_rfl) (by kernel_rfl) a2 (a7.browlen 0 rfl).symm c2 (Rd.ofbytes (a7.rdbrow 0 rfl)) agf (by decide) (gi a3 fun c3 a3 => ajy a1 eB a2 1 a0 agf (Rd.ofbytes (a7.rdbrow 0 rfl)) (bt (at_ a2 a0)) c3 (by decide) (by kernel_rfl) (by kernel_rfl) (by kernel_rfl) (w8_add (at_ a2 a0) (32 : UInt8) (by kernel_rfl) (by kernel_rfl) (gi a3 fun c4 a3 => afk a1 s_0.length cap2 5 1 .i64 a0 Tryz.underlying92 (by kernel_rfl) (by kernel_rfl) (by kernel_rfl) a2 (a7.browlen 0 rfl).symm c4 (Rd.ofbytes (a7.rdbrow 0 rfl)) agf (by decide) (gi a3 fun c5 a3 => ?_))))))
  refine w_stB a7 0 a1 s_0.length cap2 a0 a2 ((at_ a2 a0) + (32 : UInt8)) rfl c5 (by kernel_rfl) (by kernel_rfl) (by kernel_rfl) fun c6 a9 => ?_
  replace a9 : Hp w [] [brow (Vs a1 s_0.length cap2) s_0.length (List.set a2 (Int.toNat a0) ((at_ a2 a0) + (32 : UInt8)))] c6 := a9
  refine wl (bn (qn (cr (wp 1 (gi a3 fun c7 a3 => aac a0 (1 : Int) (by kernel_rfl) (by kernel_rfl) c7 (wp 1 (wl (ql ?_))))))))
  exact ⟨(a6, List.set a2 (Int.toNat a0) ((at_ a2 a0) + (32 : UInt8)), a0 + (1 : Int)), _, rfl, by kernel_rfl, ⟨a9.kp, a3⟩, Nat.lt_succ_self _⟩
  refine ck (bn (qn (cr (wp 1 (gi a3 fun c8 a3 => aac a0 (1 : Int) (by kernel_rfl) (by kernel_rfl) c8 (wp 1 (wl (ql ?_))))))))
  exact ⟨(a6, a2, a0 + (1 : Int)), _, rfl, by kernel_rfl, ⟨a7.kp, a3⟩, Nat.lt_succ_self _⟩
  refine acc (acb (aci (acd (ql ?_))))
  obtain rfl := oi a3
  exact ⟨a2, _, rfl, by kernel_rfl, a5.kp, rfl⟩
  rintro a8 c9 G ⟨b0, rfl⟩
  refine sr (wp 1 (ady (v := (str a8)) (w' := c9) rfl rfl (amq a8 a1 s_0.length cap2 5 (Rd.bytes (Rd.ofbytes (b0.rdbrow 0 rfl))) (b0.browlen 0 rfl) Tryz.underlying92 Tryz.underlying9 Tryz.underlying5 (by kernel_rfl)) (wp 1 (nq (ct ?_)))))
  obtain rfl := oi hr
  exact rv b0.kp
theorem K_L_ref03_short {fu : Nat} {a3 : UInt8} {w : World} {r : Str} (hr : aky fu a3 = some r) (hG : Gl w) : CR Tryz.prog 90 [(bt a3)] w fun v w' => v = (str r) ∧ Hp w [] [] w' := by
  have hH : Hp w [] [] w := Hp.refl w
  refine enter (k := 24) Tryz.func90 rfl rfl (Nat.le_of_ble_eq_true rfl) ?_
  unfold aky at hr
  refine sr (wp 1 (nq (sr (acx hH [(str ([98, 82, 101, 102, 101, 114, 114, 101, 100, 45, 66, 121] : Str)), (str ([99, 67, 111, 110, 116, 101, 110, 116, 45, 84, 121, 112, 101] : Str)), (str ([101, 67, 111, 110, 116, 101, 110, 116, 45, 69, 110, 99, 111, 100, 105, 110, 103] : Str)), (str ([102, 70, 114, 111, 109] : Str)), (str ([105, 67, 97, 108, 108, 45, 73, 68] : Str)), (str ([107, 83, 117, 112, 112, 111, 114, 116, 101, 100] : Str)), (str ([108, 67, 111, 110, 116, 101, 110, 116, 45, 76, 101, 110, 103, 116, 104] : Str)), (str ([109, 67, 111, 110, 116, 97, 99, 116] : Str)), (str ([111, 69, 118, 101, 110, 116] : Str)), (str ([114, 82, 101, 102, 101, 114, 45, 84, 111] : Str)), (str ([115, 83, 117, 98, 106, 101, 99, 116] : Str)), (str ([116, 84, 111] : Str)), (str ([117, 65, 108, 108, 111, 119, 45, 69, 118, 101, 110, 116, 115] : Str)), (str ([118, 86, 105, 97] : Str)), (str ([120, 83, 101, 115, 115, 105, 111, 110, 45, 69, 120, 112, 105, 114, 101, 115] : Str))] 9 (fun b => (Vs (some ⟨b, 0, none⟩) 15 15)) rfl rfl (by kernel_rfl) fun b1 w2 a6 => wp 1 (wl ?_)))))
  refine qn (bi hr fun a7 a8 hr => cut (σ := Unit) [2] (fun a4 => []) (fun a4 w' => Hp w [] [] w' ∧ .inl a4 = a7) ?_ ?_)
  refine sr (wp 1 (nq (ce (lpS (fun a5 a1 => ajm fu a3 a5 a1) (0 : Int) a6 a8 [0, 2, 3, 4] (fun a1 => [(4, (Vi .i64 a1))]) (fun _ => rfl) ?_))))
  rintro a5 a1 c0 G a2 a0
  rw [ajm.eq_2] at a0
  refine cs (sr (wp 4 (nq (cd a0 (fun a9 a0 => ?_) (fun a9 a0 => ?_)))))
  refine ck (qn (cs (ce (sr (wp 2 (gi a0 fun b0 a0 => afk (some ⟨b1, 0, none⟩) 15 15 9 1 .i64 a1 Tryz.underlying54 (by kernel_rfl) (by kernel_rfl) (by kernel_rfl) ([([98, 82, 101, 102, 101, 114, 114, 101, 100, 45, 66, 121] : Str), ([99, 67, 111, 110, 116, 101, 110, 116, 45, 84, 121, 112, 101] : Str), ([101, 67, 111, 110, 116, 101, 110, 116, 45, 69, 110, 99, 111, 100, 105, 110, 103] : Str), ([102, 70, 114, 111, 109] : Str), ([105, 67, 97, 108, 108, 45, 73, 68] : Str), ([107, 83, 117, 112, 112, 111, 114, 116, 101, 100] : Str), ([108, 67, 111, 110, 116, 101, 110, 116, 45, 76, 101, 110, 103, 116, 104] : Str), ([109, 67, 111, 110, 116, 97, 99, 116] : Str), ([111, 69, 118, 101, 110, 116] : Str), ([114, 82, 101, 102, 101, 114, 45, 84, 111] : Str), ([115, 83, 117, 98, 106, 101, 99, 116] : Str), ([116, 84, 111] : Str), ([117, 65, 108, 108, 111, 119, 45, 69, 118, 101, 110, 116, 115] : Str), ([118, 86, 105, 97] : Str), ([120, 83, 101, 115, 115, 105, 111, 110, 45, 69, 120, 112, 105, 114, 101, 115] : Str)] : List Str) (by first | rfl | (simp; done) | omega | (simp; omega) | (rw [List.length_take]; omega)) b0 (a2.rdblk 0 rfl) alw (by decide) (gi a0 fun b2 a0 => ?_)))))))
  refine ajy (some ⟨b1, 0, none⟩) eS ([([98, 82, 101, 102, 101, 114, 114, 101, 100, 45, 66, 121] : Str), ([99, 67, 111, 110, 116, 101, 110, 116, 45, 84, 121, 112, 101] : Str), ([101, 67, 111, 110, 116, 101, 110, 116, 45, 69, 110, 99, 111, 100, 105, 110, 103] : Str), ([102, 70, 114, 111, 109] : Str), ([105, 67, 97, 108, 108, 45, 73, 68] : Str), ([107, 83, 117, 112, 112, 111, 114, 116, 101, 100] : Str), ([108, 67, 111, 110, 116, 101, 110, 116, 45, 76, 101, 110, 103, 116, 104] : Str), ([109, 67, 111, 110, 116, 97, 99, 116] : Str), ([111, 69, 118, 101, 110, 116] : Str), ([114, 82, 101, 102, 101, 114, 45, 84, 111] : Str), ([115, 83, 117, 98, 106, 101, 99, 116] : Str), ([116, 84, 111] : Str), ([117, 65, 108, 108, 111, 119, 45, 69, 118, 101, 110, 116, 115] : Str), ([118, 86, 105, 97] : Str), ([120, 83, 101, 115, 115, 105, 111, 110, 45, 69, 120, 112, 105, 114, 101, 115] : Str)] : List Str) 1 a1 alw (a2.rdblk 0 rfl) (str (el ([([98, 82, 101, 102, 101, 114, 114, 101, 100, 45, 66, 121] : Str), ([99, 67, 111, 110, 116, 101, 110, 116, 45, 84, 121, 112, 101] : Str), ([101, 67, 111, 110, 116, 101, 110, 116, 45, 69, 110, 99, 111, 100, 105, 110, 103] : Str), ([102, 70, 114, 111, 109] : Str), ([105, 67, 97, 108, 108, 45, 73, 68] : Str), ([107, 83, 117, 112, 112, 111, 114, 116, 101, 100] : Str), ([108, 67, 111, 110, 116, 101, 110, 116, 45, 76, 101, 110, 103, 116, 104] : Str), ([109, 67, 111, 110, 116, 97, 99, 116] : Str), ([111, 69, 118, 101, 110, 116] : Str), ([114, 82, 101, 102, 101, 114, 45, 84, 111] : Str), ([115, 83, 117, 98, 106, 101, 99, 116] : Str), ([116, 84, 111] : Str), ([117, 65, 108, 108, 111, 119, 45, 69, 118, 101, 110, 116, 115] : Str), ([118, 86, 105, 97] : Str), ([120, 83, 101, 115, 115, 105, 111, 110, 45, 69, 120, 112, 105, 114, 101, 115] : Str)] : List Str) a1)) b2 (by decide) (by kernel_rfl) (by kernel_rfl) (by kernel_rfl) (gi a0 fun b3 a0 => adc (el ([([98, 82, 101, 102, 101, 114, 114, 101, 100, 45, 66, 121] : Str), ([99, 67, 111, 110, 116, 101, 110, 116, 45, 84, 121, 112, 101] : Str), ([101, 67, 111, 110, 116, 101, 110, 116, 45, 69, 110, 99, 111, 100, 105, 110, 103] : Str), ([102, 70, 114, 111, 109] : Str), ([105, 67, 97, 108, 108, 45, 73, 68] : Str), ([107, 83, 117, 112, 112, 111, 114, 116, 101, 100] : Str), ([108, 67, 111, 110, 116, 101, 110, 116, 45, 76, 101, 110, 103, 116, 104] : Str), ([109, 67, 111, 110, 116, 97, 99, 116] : Str), ([111, 69, 118, 101, 110, 116] : Str), ([114, 82, 101, 102, 101, 114, 45, 84, 111] : Str), ([115, 83, 117, 98, 106, 101, 99, 116] : Str), ([116, 84, 111] : Str), ([117, 65, 108, 108, 111, 119, 45, 69, 118, 101, 110, 116, 115] : Str), ([118, 86, 105, 97] : Str), ([120, 83, 101, 115, 115, 105, 111, 110, 45, 69, 120, 112, 105, 114, 101, 115] : Str)] : List Str) a1) .i64 (0 : Int) Tryz.underlying9 (by kernel_rfl) (by kernel_rfl) b3 (wp 1 (acf (at_ (el ([([98, 82, 101, 102, 101, 114, 114, 101, 100, 45, 66, 121] : Str), ([99, 67, 111, 110, 116, 101, 110, 116, 45, 84, 121, 112, 101] : Str), ([101, 67, 111, 110, 116, 101, 110, 116, 45, 69, 110, 99, 111, 100, 105, 110, 103] : Str), ([102, 70, 114, 111, 109] : Str), ([105, 67, 97, 108, 108, 45, 73, 68] : Str), ([107, 83, 117, 112, 112, 111, 114, 116, 101, 100] : Str), ([108, 67, 111, 110, 116, 101, 110, 116, 45, 76, 101, 110, 103, 116, 104] : Str), ([109, 67, 111, 110, 116, 97, 99, 116] : Str), ([111, 69, 118, 101, 110, 116] : Str), ([114, 82, 101, 102, 101, 114, 45, 84, 111] : Str), ([115, 83, 117, 98, 106, 101, 99, 116] : Str), ([116, 84, 111] : Str), ([117, 65, 108, 108, 111, 119, 45, 69, 118, 101, 110, 116, 115] : Str), ([118, 86, 105, 97] : Str), ([120, 83, 101, 115, 115, 105, 111, 110, 45, 69, 120, 112, 105, 114, 101, 115] : Str)] : List Str) a1) (0 : Int)) a3 (by kernel_rfl) (by kernel_rfl) (nq (cd a0 (fun b4 a0 => ?_) (fun b4 a0 => ?_))))))
  refine sr (wp 2 (gi a0 fun b5 a0 => afk (some ⟨b1, 0, none⟩) 15 15 9 1 .i64 a1 Tryz.underlying54 (by kernel_rfl) (by kernel_rfl) (by kernel_rfl) ([([98, 82, 101, 102, 101, 114, 114, 101, 100, 45, 66, 121] : Str), ([99, 67, 111, 110, 116, 101, 110, 116, 45, 84, 121, 112, 101] : Str), ([101, 67, 111, 110, 116, 101, 110, 116, 45, 69, 110, 99, 111, 100, 105, 110, 103] : Str), ([102, 70, 114, 111, 109] : Str), ([105, 67, 97, 108, 108, 45, 73, 68] : Str), ([107, 83, 117, 112, 112, 111, 114, 116, 101, 100] : Str), ([108, 67, 111, 110, 116, 101, 110, 116, 45, 76, 101, 110, 103, 116, 104] : Str), ([109, 67, 111, 110, 116, 97, 99, 116] : Str), ([111, 69, 118, 101, 110, 116] : Str), ([114, 82, 101, 102, 101, 114, 45, 84, 111] : Str), ([115, 83, 117, 98, 106, 101, 99, 116] : Str), ([116, 84, 111] : Str), ([117, 65, 108, 108, 111, 119, 45, 69, 118, 101, 110, 116, 115] : Str), ([118, 86, 105, 97] : Str), ([120, 83, 101, 115, 115, 105, 111, 110, 45, 69, 120, 112, 105, 114, 101, 115] : Str)] : List Str) (by first | rfl | (simp; done) | omega | (simp; omega) | (rw [List.length_take]; omega)) b5 (a2.rdblk 0 rfl) alw (by decide) (gi a0 fun b6 a0 => ajy (some ⟨b1, 0, none⟩) eS ([([98, 82, 101, 102, 101, 114, 114, 101, 100, 45, 66, 121] : Str), ([99, 67, 111, 110, 116, 101, 110, 116, 45, 84, 121, 112, 101] : Str), ([101, 67, 111, 110, 116, 101, 110, 116, 45, 69, 110, 99, 111, 100, 105, 110, 103] : Str), ([102, 70, 114, 111, 109] : Str), ([105, 67, 97, 108, 108, 45, 73, 68] : Str), ([107, 83, 117, 112, 112, 111, 114, 116, 101, 100] : Str), ([108, 67, 111, 110, 116, 101, 110, 116, 45, 76, 101, 110, 103, 116, 104] : Str), ([109, 67, 111, 110, 116, 97, 99, 116] : Str), ([111, 69, 118, 101, 110, 116] : Str), ([114, 82, 101, 102, 101, 114, 45, 84, 111] : Str), ([115, 83, 117, 98, 106, 101, 99, 116] : Str), ([116, 84, 111] : Str), ([117, 65, 108, 108, 111, 119, 45, 69, 118, 101, 110, 116, 115] : Str), ([118, 86, 105, 97] : Str), ([120, 83, 101, 115, 115, 105, 111, 110, 45, 69, 120, 112, 105, 114, 101, 115] : Str)] : List Str) 1 a1 alw (a2.rdblk 0 rfl) (str (el ([([98, 82, 101, 102, 101, 114, 114, 101, 100, 45, 66, 121] : Str), ([99, 67, 111, 110, 116, 101, 110, 116, 45, 84, 121, 112, 101] : Str), ([101, 67, 111, 110, 116, 101, 110, 116, 45, 69, 110, 99, 111, 100, 105, 110, 103] : Str), ([102, 70, 114, 111, 109] : Str), ([105, 67, 97, 108, 108, 45, 73, 68] : Str), ([107, 83, 117, 112, 112, 111, 114, 116, 101, 100] : Str), ([108, 67, 111, 110, 116, 101, 110, 116, 45, 76, 101, 110, 103, 116, 104] : Str), ([109, 67, 111, 110, 116, 97, 99, 116] : Str), ([111, 69, 118, 101, 110, 116] : Str), ([114, 82, 101, 102, 101, 114, 45, 84, 111] : Str), ([115, 83, 117, 98, 106, 101, 99, 116] : Str), ([116, 84, 111] : Str), ([117, 65, 108, 108, 111, 119, 45, 69, 118, 101, 110, 116, 115] : Str), ([118, 86, 105, 97] : Str), ([120, 83, 101, 115, 115, 105, 111, 110, 45, 69, 120, 112, 105, 114, 101, 115] : Str)] : List Str) a1)) b6 (by decide) (by kernel_rfl) (by kernel_rfl) (by kernel_rfl) (gi a0 fun b7 a0 => agt (el ([([98, 82, 101, 102, 101, 114, 114, 101, 100, 45, 66, 121] : Str), ([99, 67, 111, 110, 116, 101, 110, 116, 45, 84, 121, 112, 101] : Str), ([101, 67, 111, 110, 116, 101, 110, 116, 45, 69, 110, 99, 111, 100, 105, 110, 103] : Str), ([102, 70, 114, 111, 109] : Str), ([105, 67, 97, 108, 108, 45, 73, 68] : Str), ([107, 83, 117, 112, 112, 111, 114, 116, 101, 100] : Str), ([108, 67, 111, 110, 116, 101, 110, 116, 45, 76, 101, 110, 103, 116, 104] : Str), ([109, 67, 111, 110, 116, 97, 99, 116] : Str), ([111, 69, 118, 101, 110, 116] : Str), ([114, 82, 101, 102, 101, 114, 45, 84, 111] : Str), ([115, 83, 117, 98, 106, 101, 99, 116] : Str), ([116, 84, 111] : Str), ([117, 65, 108, 108, 111, 119, 45, 69, 118, 101, 110, 116, 115] : Str), ([118, 86, 105, 97] : Str), ([120, 83, 101, 115, 115, 105, 111, 110, 45, 69, 120, 112, 105, 114, 101, 115] : Str)] : List Str) a1) .i64 (1 : Int) Tryz.underlying9 (by kernel_rfl) (by kernel_rfl) b7 (wp 1 ?_)))))
  refine nq (ct (bt_ (st (ach (bt_ (ach ?_))))))
  obtain rfl := oi a0
  obtain rfl := oi hr
  exact rv a2.kp
  exact ck (bn (qn (cr (wp 1 (gi a0 fun b8 a0 => aac a1 (1 : Int) (by kernel_rfl) (by kernel_rfl) b8 (wp 1 (wl (ql (le' (a1 + (1 : Int)) a2.kp a0)))))))))
  refine acc (acb (aci (acd (ql ?_))))
  obtain rfl := oi a0
  exact ⟨(), _, rfl, by kernel_rfl, a2.kp, rfl⟩
  rintro a4 c1 G ⟨b9, rfl⟩
  refine sr (wp 1 (nq (ct ?_)))
  obtain rfl := oi hr
  exact rv b9.kp
end Go.Proofs
set_option linter.unusedVariables false
set_option linter.unusedSimpArgs false
set_option maxRecDepth 20000
set_option maxHeartbeats 1000000
namespace Go.Proofs
open Go.Wk Go.Px
open Go.Value renaming slice → Vs, int → Vi, bool → Vb, pointer → Vp
theorem ent27 : Go.Wk.Enters Tryz.prog 27 := ⟨Tryz.f27, _, Tryz.func27, rfl, by kernel_rfl⟩
theorem ent34 : Go.Wk.Enters Tryz.prog 34 := ⟨Tryz.f34, _, Tryz.func34, rfl, by kernel_rfl⟩
theorem ent35 : Go.Wk.Enters Tryz.prog 35 := ⟨Tryz.f35, _, Tryz.func35, rfl, by kernel_rfl⟩
theorem ent73 : Go.Wk.Enters Tryz.prog 73 := ⟨Tryz.f73, _, Tryz.func73, rfl, by kernel_rfl⟩
theorem ent78 : Go.Wk.Enters Tryz.prog 78 := ⟨Tryz.f78, _, Tryz.func78, rfl, by kernel_rfl⟩
theorem ent90 : Go.Wk.Enters Tryz.prog 90 := ⟨Tryz.f90, _, Tryz.func90, rfl, by kernel_rfl⟩
theorem ent91 : Go.Wk.Enters Tryz.prog 91 := ⟨Tryz.f91, _, Tryz.func91, rfl, by kernel_rfl⟩
theorem ent92 : Go.Wk.Enters Tryz.prog 92 := ⟨Tryz.f92, _, Tryz.func92, rfl, by kernel_rfl⟩
theorem ent101 : Go.Wk.Enters Tryz.prog 101 := ⟨Tryz.f101, _, Tryz.func101, rfl, by kernel_rfl⟩
theorem ent137 : Go.Wk.Enters Tryz.prog 137 := ⟨Tryz.f137, _, Tryz.func137, rfl, by kernel_rfl⟩
theorem K_L_ref03_Canon {fu : Nat} {c4 : Str} {w : World} {r : (Str × UInt8)} (hr : ajn fu c4 = some r) (hG : Gl w) : CR Tryz.prog 35 [(str c4)] w fun v w' => v = (Value.tuple #[(str r.1), (bt r.2)]) ∧ Hp w [] [] w' := by
  have hH : Hp w [] [] w := Hp.refl w
  refine enter (k := 91) Tryz.func35 rfl rfl (Nat.le_of_ble_eq_true rfl) ?_
  unfold ajn at hr
  refine sr (wp 2 (nq (cs (bi hr fun c8 b1 hr => afy hH [0, 2, 3, 16] [(16, (Vb c8))] ?_ ?_))))
  refine cr (wp 1 (bi b1 fun i2 c9 b1 => wc ent73 hH (K_L_ref01_Token c9 (hG.hp0 hH)) fun i3 c5 => wp 1 (wb b1 (fun d0 b1 => ?_) (fun d0 b1 => ?_))))
  refine wp 4 (wl (ql ?_))
  obtain rfl := oi b1
  exact je c5.kp
  refine wp 4 (wl (ql ?_))
  obtain rfl := oi b1
  exact je c5.kp
  intro i4 G b9
  refine cb hr (fun d1 hr => ?_) (fun d1 hr => ?_)
  refine sr (wp 2 (nq (ct (st ?_))))
  obtain rfl := oi hr
  exact rv b9.kp
  refine ck (qn (sr (wp 1 (bi hr fun a6 d2 hr => wc ent27 b9 (K_L_ref02_Lower d2 (hG.hp0 b9)) fun i5 b6 => wp 1 (nq ?_)))))
  refine cs (bi hr fun d3 b0 hr => afy b6 [2, 3, 4, 27] [(27, (Vb d3))] ?_ ?_)
  refine cr (wp 3 (wd b0 (fun d4 b0 => ?_) (fun d4 b0 => ?_)))
  refine wp 1 (gy 22 (gi b0 fun d5 b0 => adc a6 .i64 (0 : Int) Tryz.underlying9 (by kernel_rfl) (by kernel_rfl) d5 (gy 22 (bi b0 fun i6 d6 b0 => wc ent90 b6 (K_L_ref03_short d6 (hG.hp0 b6)) fun i7 d7 => wp 2 (wl (ql ?_))))))
  obtain rfl := oi b0
  exact je d7.kp
  refine wp 5 (wl (ql ?_))
  obtain rfl := oi b0
  exact je b6.kp
  intro i9 G c0
  refine cb hr (fun d8 hr => ?_) (fun d8 hr => ?_)
  refine sr (wp 1 (gi hr fun d9 hr => adc a6 .i64 (0 : Int) Tryz.underlying9 (by kernel_rfl) (by kernel_rfl) d9 (bi hr fun j0 e0 hr => wc ent90 c0 (K_L_ref03_short e0 (hG.hp0 c0)) fun j1 e1 => wp 2 (nq ?_))))
  refine ct (st ?_)
  obtain rfl := oi hr
  exact rv e1.kp
  refine ck (qn (sr (acx c0 [(str ([67, 97, 108, 108, 45, 73, 68] : Str)), (str ([67, 83, 101, 113] : Str)), (str ([77, 73, 77, 69, 45, 86, 101, 114, 115, 105, 111, 110] : Str)), (str ([77, 105, 110, 45, 83, 69] : Str)), (str ([82, 65, 99, 107] : Str)), (str ([82, 83, 101, 113] : Str)), (str ([87, 87, 87, 45, 65, 117, 116, 104, 101, 110, 116, 105, 99, 97, 116, 101] : Str))] 9 (fun b => (Vs (some ⟨b, 0, none⟩) 7 7)) rfl rfl (by kernel_rfl) fun b7 j2 e2 => wp 1 (nq (bi hr fun e3 e4 hr => cut (σ := Unit) [2, 3, 4] (fun c1 => []) (fun c1 w' => Hp w [] [] w' ∧ .inl c1 = e3) ?_ ?_)))))
  refine sr (wp 1 (nq (ce (lpS (fun c6 a8 => ahq fu a6 c6 a8) (0 : Int) e2 e4 [2, 3, 4, 5, 6] (fun a8 => [(6, (Vi .i64 a8))]) (fun _ => rfl) ?_))))
  rintro c6 a8 j3 G b5 a4
  rw [ahq.eq_2] at a4
  refine cs (sr (wp 4 (nq (cd a4 (fun e5 a4 => ?_) (fun e5 a4 => ?_)))))
  refine ck (qn (cs (ce (sr (wp 2 (gi a4 fun e6 a4 => afk (some ⟨b7, 0, none⟩) 7 7 9 1 .i64 a8 Tryz.underlying54 (by kernel_rfl) (by kernel_rfl) (by kernel_rfl) ([([67, 97, 108, 108, 45, 73, 68] : Str), ([67, 83, 101, 113] : Str), ([77, 73, 77, 69, 45, 86, 101, 114, 115, 105, 111, 110] : Str), ([77, 105, 110, 45, 83, 69] : Str), ([82, 65, 99, 107] : Str), ([82, 83, 101, 113] : Str), ([87, 87, 87, 45, 65, 117, 116, 104, 101, 110, 116, 105, 99, 97, 116, 101] : Str)] : List Str) (by first | rfl | (simp; done) | omega | (simp; omega) | (rw [List.length_take]; omega)) e6 (b5.rdblk 0 rfl) alw (by decide) (gi a4 fun e7 a4 => ?_)))))))
  refine ajy (some ⟨b7, 0, none⟩) eS ([([67, 97, 108, 108, 45, 73, 68] : Str), ([67, 83, 101, 113] : Str), ([77, 73, 77, 69, 45, 86, 101, 114, 115, 105, 111, 110] : Str), ([77, 105, 110, 45, 83, 69] : Str), ([82, 65, 99, 107] : Str), ([82, 83, 101, 113] : Str), ([87, 87, 87, 45, 65, 117, 116, 104, 101, 110, 116, 105, 99, 97, 116, 101] : Str)] : List Str) 1 a8 alw (b5.rdblk 0 rfl) (str (el ([([67, 97, 108, 108, 45, 73, 68] : Str), ([67, 83, 101, 113] : Str), ([77, 73, 77, 69, 45, 86, 101, 114, 115, 105, 111, 110] : Str), ([77, 105, 110, 45, 83, 69] : Str), ([82, 65, 99, 107] : Str), ([82, 83, 101, 113] : Str), ([87, 87, 87, 45, 65, 117, 116, 104, 101, 110, 116, 105, 99, 97, 116, 101] : Str)] : List Str) a8)) e7 (by decide) (by kernel_rfl) (by kernel_rfl) (by kernel_rfl) (bi a4 fun j4 e8 a4 => wc ent27 b5 (K_L_ref02_Lower e8 (hG.hp0 b5)) fun j5 b8 => wp 2 (nq (cd a4 (fun e9 a4 => ?_) (fun e9 a4 => ?_))))
  refine sr (wp 2 (gi a4 fun f0 a4 => afk (some ⟨b7, 0, none⟩) 7 7 9 1 .i64 a8 Tryz.underlying54 (by kernel_rfl) (by kernel_rfl) (by kernel_rfl) ([([67, 97, 108, 108, 45, 73, 68] : Str), ([67, 83, 101, 113] : Str), ([77, 73, 77, 69, 45, 86, 101, 114, 115, 105, 111, 110] : Str), ([77, 105, 110, 45, 83, 69] : Str), ([82, 65, 99, 107] : Str), ([82, 83, 101, 113] : Str), ([87, 87, 87, 45, 65, 117, 116, 104, 101, 110, 116, 105, 99, 97, 116, 101] : Str)] : List Str) (by first | rfl | (simp; done) | omega | (simp; omega) | (rw [List.length_take]; omega)) f0 (b8.rdblk 0 rfl) alw (by decide) (gi a4 fun f1 a4 => ajy (some ⟨b7, 0, none⟩) eS ([([67, 97, 108, 108, 45, 73, 68] : Str), ([67, 83, 101, 113] : Str), ([77, 73, 77, 69, 45, 86, 101, 114, 115, 105, 111, 110] : Str), ([77, 105, 110, 45, 83, 69] : Str), ([82, 65, 99, 107] : Str), ([82, 83, 101, 113] : Str), ([87, 87, 87, 45, 65, 117, 116, 104, 101, 110, 116, 105, 99, 97, 116, 101] : Str)] : List Str) 1 a8 alw (b8.rdblk 0 rfl) (str (el ([([67, 97, 108, 108, 45, 73, 68] : Str), ([67, 83, 101, 113] : Str), ([77, 73, 77, 69, 45, 86, 101, 114, 115, 105, 111, 110] : Str), ([77, 105, 110, 45, 83, 69] : Str), ([82, 65, 99, 107] : Str), ([82, 83, 101, 113] : Str), ([87, 87, 87, 45, 65, 117, 116, 104, 101, 110, 116, 105, 99, 97, 116, 101] : Str)] : List Str) a8)) f1 (by decide) (by kernel_rfl) (by kernel_rfl) (by kernel_rfl) (wp 2 (nq ?_)))))
  refine ct (bt_ (st (ach (bt_ (ach ?_)))))
  obtain rfl := oi a4
  obtain rfl := oi hr
  exact rv b8.kp
  exact ck (bn (qn (cr (wp 1 (gi a4 fun f2 a4 => aac a8 (1 : Int) (by kernel_rfl) (by kernel_rfl) f2 (wp 1 (wl (ql (le' (a8 + (1 : Int)) b8.kp a4)))))))))
  refine acc (acb (aci (acd (ql ?_))))
  obtain rfl := oi a4
  exact ⟨(), _, rfl, by kernel_rfl, b5.kp, rfl⟩
  rintro c1 j6 G ⟨f3, rfl⟩
  refine sr (wp 1 (ann f3 a6 5 Tryz.underlying9 Tryz.underlying92 Tryz.underlying5 (by kernel_rfl) fun a7 a9 j7 f4 => wp 1 (nq (bi hr fun c7 f5 hr => cut (σ := Str) [2, 3, 7] (fun b4 => []) (fun b4 w' => Hp w [] [brow (Vs a7 a6.length a9) a6.length b4] w' ∧ b4 = c7) ?_ ?_))))
  refine sr (wp 1 (nq (ce (lpG (σ := Nat × Str × Int) [2, 3, 7, 8] (fun ⟨b2, a2, a0⟩ => [(8, (Vi .i64 a0))]) (fun ⟨b2, a2, a0⟩ w' => Hp w [] [brow (Vs a7 a6.length a9) a6.length a2] w' ∧ ads fu a6 b2 a2 a0 = some c7) (fun ⟨b2, a2, a0⟩ => b2) (fu, a6, (0 : Int)) (by exact ⟨f4.kp, f5⟩) ?_))))
  rintro ⟨_ | b2, a2, a0⟩ j8 G ⟨a5, a3⟩
  · exact absurd (show none = some _ from a3) (by simp)
  rw [ads.eq_2] at a3
  refine cs (sr (wp 4 (nq (cd a3 (fun f6 a3 => ?_) (fun f6 a3 => ?_)))))
  refine ck (qn (cs (ce (bi a3 fun f7 a1 a3 => afy a5 [2, 3, 7, 8, 80] [(80, (Vb f7))] ?_ ?_))))
  refine cr (wp 2 (wd a1 (fun f8 a1 => ?_) (fun f8 a1 => ?_)))
  refine wp 10 (gy 67 (gi a1 fun f9 a1 => afk a7 a6.length a9 5 1 .i64 a0 Tryz.underlying92 (by kernel_rfl) (by kernel_rfl) (by kernel_rfl) a2 (a5.browlen 0 rfl).symm f9 (Rd.ofbytes (a5.rdbrow 0 rfl)) agf (by decide) (gy 67 (gi a1 fun g0 a1 => ajy a7 eB a2 1 a0 agf (Rd.ofbytes (a5.rdbrow 0 rfl)) (bt (at_ a2 a0)) g0 (by decide) (by kernel_rfl) (by kernel_rfl) (by kernel_rfl) (gy 67 (aiu (at_ a2 a0) (97 : UInt8) (by kernel_rfl) (by kernel_rfl) (wp 1 (wd a1 (fun g1 a1 => ?_) (fun g1 a1 => ?_)))))))))
  refine wp 2 (gy 74 (gi a1 fun g2 a1 => afk a7 a6.length a9 5 1 .i64 a0 Tryz.underlying92 (by kernel_rfl) (by kernel_rfl) (by kernel_rfl) a2 (a5.browlen 0 rfl).symm g2 (Rd.ofbytes (a5.rdbrow 0 rfl)) agf (by decide) (gy 74 (gi a1 fun g3 a1 => ajy a7 eB a2 1 a0 agf (Rd.ofbytes (a5.rdbrow 0 rfl)) (bt (at_ a2 a0)) g3 (by decide) (by kernel_rfl) (by kernel_rfl) (by kernel_rfl) (gy 74 (ait (at_ a2 a0) (122 : UInt8) (by kernel_rfl) (by kernel_rfl) (wp 1 ?_)))))))
  refine wl (ql ?_)
  obtain rfl := oi a1
  exact je a5.kp
  refine wp 6 (wl (ql ?_))
  obtain rfl := oi a1
  exact je a5.kp
  refine wp 2 (gy 59 (gi a1 fun g4 a1 => adj a0 (1 : Int) (by kernel_rfl) (by kernel_rfl) g4 (gy 59 (gi a1 fun g5 a1 => afk a7 a6.length a9 5 1 .i64 (a0 - (1 : Int)) Tryz.underlying92 (by kernel_rfl) (by kernel_rfl) (by kernel_rfl) a2 (a5.browlen 0 rfl).symm g5 (Rd.ofbytes (a5.rdbrow 0 rfl)) agf (by decide) (gy 59 (gi a1 fun g6 a1 => ajy a7 eB a2 1 (a0 - (1 : Int)) agf (Rd.ofbytes (a5.rdbrow 0 rfl)) (bt (at_ a2 (a0 - (1 : Int)))) g6 (by decide) (by kernel_rfl) (by kernel_rfl) (by kernel_rfl) ?_))))))
  refine gy 59 (acf (at_ a2 (a0 - (1 : Int))) (45 : UInt8) (by kernel_rfl) (by kernel_rfl) (wp 1 (wd a1 (fun g7 a1 => ?_) (fun g7 a1 => ?_))))
  refine wp 2 (gy 67 (gi a1 fun g8 a1 => afk a7 a6.length a9 5 1 .i64 a0 Tryz.underlying92 (by kernel_rfl) (by kernel_rfl) (by kernel_rfl) a2 (a5.browlen 0 rfl).symm g8 (Rd.ofbytes (a5.rdbrow 0 rfl)) agf (by decide) (gy 67 (gi a1 fun g9 a1 => ajy a7 eB a2 1 a0 agf (Rd.ofbytes (a5.rdbrow 0 rfl)) (bt (at_ a2 a0)) g9 (by decide) (by kernel_rfl) (by kernel_rfl) (by kernel_rfl) (gy 67 (aiu (at_ a2 a0) (97 : UInt8) (by kernel_rfl) (by kernel_rfl) (wp 1 (wd a1 (fun h0 a1 => ?_) (fun h0 a1 => ?_)))))))))
  refine wp 2 (gy 74 (gi a1 fun h1 a1 => afk a7 a6.length a9 5 1 .i64 a0 Tryz.underlying92 (by kernel_rfl) (by kernel_rfl) (by kernel_rfl) a2 (a5.browlen 0 rfl).symm h1 (Rd.ofbytes (a5.rdbrow 0 rfl)) agf (by decide) (gy 74 (gi a1 fun h2 a1 => ajy a7 eB a2 1 a0 agf (Rd.ofbytes (a5.rdbrow 0 rfl)) (bt (at_ a2 a0)) h2 (by decide) (by kernel_rfl) (by kernel_rfl) (by kernel_rfl) (gy 74 (ait (at_ a2 a0) (122 : UInt8) (by kernel_rfl) (by kernel_rfl) (wp 1 ?_)))))))
  refine wl (ql ?_)
  obtain rfl := oi a1
  exact je a5.kp
  refine wp 6 (wl (ql ?_))
  obtain rfl := oi a1
  exact je a5.kp
  refine wp 13 (wl (ql ?_))
  obtain rfl := oi a1
  exact je a5.kp
  intro j9 G b3
  refine cb a3 (fun h3 a3 => ?_) (fun h3 a3 => ?_)
  refine cr (wp 4 (gi a3 fun h4 a3 => afk a7 a6.length a9 5 1 .i64 a0 Tryz.underlying92 (by kernel_rfl) (by kernel_rfl) (by kernel_rfl) a2 (b3.browlen 0 rfl).symm h4 (Rd.ofbytes (b3.rdbrow 0 rfl)) agf (by decide) (gi a3 fun h5 a3 => ajy a7 eB a2 1 a0 agf (Rd.ofbytes (b3.rdbrow 0 rfl)) (bt (at_ a2 a0)) h5 (by decide) (by kernel_rfl) (by kernel_rfl) (by kernel_rfl) (w8_sub (at_ a2 a0) (32 : UInt8) (by kernel_rfl) (by kernel_rfl) (gi a3 fun h6 a3 => afk a7 a6.length a9 5 1 .i64 a0 Tryz.underlying92 (by kernel_rfl) (by kernel_rfl) (by kernel_rfl) a2 (b3.browlen 0 rfl).symm h6 (Rd.ofbytes (b3.rdbrow 0 rfl)) agf (by decide) (gi a3 fun h7 a3 => ?_))))))
  refine w_stB b3 0 a7 a6.length a9 a0 a2 ((at_ a2 a0) - (32 : UInt8)) rfl h7 (by kernel_rfl) (by kernel_rfl) (by kernel_rfl) fun h8 c2 => ?_
  replace c2 : Hp w [] [brow (Vs a7 a6.length a9) a6.length (List.set a2 (Int.toNat a0) ((at_ a2 a0) - (32 : UInt8)))] h8 := c2
  refine wl (bn (qn (cr (wp 1 (gi a3 fun h9 a3 => aac a0 (1 : Int) (by kernel_rfl) (by kernel_rfl) h9 (wp 1 (wl (ql ?_))))))))
  exact ⟨(b2, List.set a2 (Int.toNat a0) ((at_ a2 a0) - (32 : UInt8)), a0 + (1 : Int)), _, rfl, by kernel_rfl, ⟨c2.kp, a3⟩, Nat.lt_succ_self _⟩
  refine ck (bn (qn (cr (wp 1 (gi a3 fun i0 a3 => aac a0 (1 : Int) (by kernel_rfl) (by kernel_rfl) i0 (wp 1 (wl (ql ?_))))))))
  exact ⟨(b2, a2, a0 + (1 : Int)), _, rfl, by kernel_rfl, ⟨b3.kp, a3⟩, Nat.lt_succ_self _⟩
  refine acc (acb (aci (acd (ql ?_))))
  obtain rfl := oi a3
  exact ⟨a2, _, rfl, by kernel_rfl, a5.kp, rfl⟩
  rintro b4 i1 G ⟨c3, rfl⟩
  refine sr (wp 1 (ady (v := (str b4)) (w' := i1) rfl rfl (amq b4 a7 a6.length a9 5 (Rd.bytes (Rd.ofbytes (c3.rdbrow 0 rfl))) (c3.browlen 0 rfl) Tryz.underlying92 Tryz.underlying9 Tryz.underlying5 (by kernel_rfl)) (wp 2 (nq (ct ?_)))))
  obtain rfl := oi hr
  exact rv c3.kp
theorem anq {fu : Nat} {a3 : Str} {w : World} {r : Int} (hr : aht fu a3 = some r) (hG : Gl w) : CR Tryz.prog 137 [(str a3)] w fun v w' => v = (Vi .i64 r) ∧ Hp w [] [] w' := by
  have hH : Hp w [] [] w := Hp.refl w
  refine enter (k := 18) Tryz.func137 rfl rfl (Nat.le_of_ble_eq_true rfl) ?_
  unfold aht at hr
  refine sr (wp 1 (nq (bi hr fun a5 a6 hr => cut1 hH a5 [2] (fun a7 => []) ?_ ?_)))
  refine sr (wp 1 (nq (ce (lpS (fun a4 a1 => aep fu a3 a4 a1) (0 : Int) hH a6 [0, 2, 4] (fun a1 => [(4, (Vi .i64 a1))]) (fun _ => rfl) ?_))))
  rintro a4 a1 b6 G a2 a0
  rw [aep.eq_2] at a0
  refine sr (wp 1 (nq (cs (cd a0 (fun a8 a0 => ?_) (fun a8 a0 => ?_)))))
  refine ck (qn (cs (ce (sr (wp 2 (nq (cs ?_)))))))
  refine cr (wp 1 (gi a0 fun a9 a0 => w_ixaA ⟨1, 0, none⟩ 31 181 2 .i64 a1 Tryz.underlying182 (by kernel_rfl) (by kernel_rfl) (by kernel_rfl) a9 (by decide) (w_fldE (some ⟨1, 0, none⟩) ((a1).toNat * 2) 0 (by kernel_rfl) (by kernel_rfl) (gi a0 fun b0 a0 => w_ldF (some ⟨1, 0, none⟩) amr adr 2 a1 0 enc_enamekind (hG.kinds.rd.hp a2) (str ((el adr a1).1)) b0 (by decide) (by kernel_rfl) (by kernel_rfl) (by kernel_rfl) (wp 2 (nq (cd a0 (fun b1 a0 => ?_) (fun b1 a0 => ?_))))))))
  refine sr (wp 1 (gi a0 fun b2 a0 => w_ixaA ⟨1, 0, none⟩ 31 181 2 .i64 a1 Tryz.underlying182 (by kernel_rfl) (by kernel_rfl) (by kernel_rfl) b2 (by decide) (w_fldE (some ⟨1, 0, none⟩) ((a1).toNat * 2) 1 (by kernel_rfl) (by kernel_rfl) (gi a0 fun b3 a0 => w_ldF (some ⟨1, 0, none⟩) amr adr 2 a1 1 enc_enamekind (hG.kinds.rd.hp a2) (Vi .i64 ((el adr a1).2)) b3 (by decide) (by kernel_rfl) (by kernel_rfl) (by kernel_rfl) (wp 1 (wl ?_))))))
  refine qn (ct (bt_ (st (ach (bt_ (ach ?_))))))
  obtain rfl := oi a0
  obtain rfl := oi hr
  exact rv a2.kp
  exact ck (bn (qn (cr (gi a0 fun b4 a0 => aac a1 (1 : Int) (by kernel_rfl) (by kernel_rfl) b4 (wp 1 (wl (ql (le' (a1 + (1 : Int)) a2.kp a0))))))))
  refine acc (acb (aci (acd (ql ?_))))
  obtain rfl := oi a0
  exact je1 rfl a2.kp
  rintro a7 b7 G b5 rfl
  refine sr (wp 1 (nq (ct ?_)))
  obtain rfl := oi hr
  exact rv b5.kp
theorem K_L_header_many {fu : Nat} {a3 : Str} {w : World} {r : Bool} (hr : afz fu a3 = some r) (hG : Gl w) : CR Tryz.prog 78 [(str a3)] w fun v w' => v = (Vb r) ∧ Hp w [] [] w' := by
  have hH : Hp w [] [] w := Hp.refl w
  refine enter (k := 19) Tryz.func78 rfl rfl (Nat.le_of_ble_eq_true rfl) ?_
  unfold afz at hr
  refine sr (wp 1 (nq (bi hr fun a5 a0 hr => cut1 hH a5 [0, 2] (fun a6 => []) ?_ ?_)))
  refine sr (wp 1 (nq (ce (cs (sr (wp 2 ?_))))))
  refine nq (cd a0 (fun a7 a0 => ?_) (fun a7 a0 => ?_))
  refine ck (qn (cd a0 (fun a8 a0 => ?_) (fun a8 a0 => ?_)))
  refine sr (wp 1 (nq (ct (bt_ (ach ?_)))))
  obtain rfl := oi a0
  obtain rfl := oi hr
  exact rv hH.kp
  refine ck (bn (ql ?_))
  obtain rfl := oi a0
  exact je1 rfl hH.kp
  refine sr (wp 2 (nq (cd a0 (fun a9 a0 => ?_) (fun a9 a0 => ?_))))
  refine ck (qn (cd a0 (fun b0 a0 => ?_) (fun b0 a0 => ?_)))
  refine sr (wp 1 (nq (ct (bt_ (ach ?_)))))
  obtain rfl := oi a0
  obtain rfl := oi hr
  exact rv hH.kp
  refine ck (bn (ql ?_))
  obtain rfl := oi a0
  exact je1 rfl hH.kp
  refine sr (wp 2 (nq (cd a0 (fun b1 a0 => ?_) (fun b1 a0 => ?_))))
  refine ck (qn (cd a0 (fun b2 a0 => ?_) (fun b2 a0 => ?_)))
  refine sr (wp 1 (nq (ct (bt_ (ach ?_)))))
  obtain rfl := oi a0
  obtain rfl := oi hr
  exact rv hH.kp
  refine ck (bn (ql ?_))
  obtain rfl := oi a0
  exact je1 rfl hH.kp
  refine sr (wp 2 (nq (cd a0 (fun b3 a0 => ?_) (fun b3 a0 => ?_))))
  refine ck (qn (cd a0 (fun b4 a0 => ?_) (fun b4 a0 => ?_)))
  refine sr (wp 1 (nq (ct (bt_ (ach ?_)))))
  obtain rfl := oi a0
  obtain rfl := oi hr
  exact rv hH.kp
  refine ck (bn (ql ?_))
  obtain rfl := oi a0
  exact je1 rfl hH.kp
  refine cr (wp 2 (nq (cd a0 (fun b5 a0 => ?_) (fun b5 a0 => ?_))))
  refine sr (wp 1 (nq (ct (bt_ (ach ?_)))))
  obtain rfl := oi a0
  obtain rfl := oi hr
  exact rv hH.kp
  refine ck (bn (ql ?_))
  obtain rfl := oi a0
  exact je1 rfl hH.kp
  rintro a6 c0 G a4 rfl
  refine sr (wp 1 (bi hr fun c1 b6 hr => wc ent137 a4 (anq b6 (hG.hp0 a4)) fun c2 a2 => wp 1 (nq (bi hr fun b7 a1 hr => afy a2 [2] [(2, (Vb b7))] ?_ ?_))))
  refine cr (wp 2 (wd a1 (fun b8 a1 => ?_) (fun b8 a1 => ?_)))
  refine wp 4 (wl (ql ?_))
  obtain rfl := oi a1
  exact je a2.kp
  refine wp 4 (wl (ql ?_))
  obtain rfl := oi a1
  exact je a2.kp
  intro c3 G b9
  refine ct ?_
  obtain rfl := oi hr
  exact rv b9.kp
theorem K_L_header_Many {fu : Nat} {a2 : Str} {w : World} {r : Bool} (hr : ald fu a2 = some r) (hG : Gl w) : CR Tryz.prog 36 [(str a2)] w fun v w' => v = (Vb r) ∧ Hp w [] [] w' := by
  have hH : Hp w [] [] w := Hp.refl w
  refine enter (k := 16) Tryz.func36 rfl rfl (Nat.le_of_ble_eq_true rfl) ?_
  unfold ald at hr
  refine sr (wp 1 (nq (sr (wp 1 (bi hr fun y1 a3 hr => wc ent34 hH (akl a3 (hG.hp0 hH)) fun w3 a1 => ?_)))))
  refine wp 5 (nq (bi hr fun a4 a0 hr => afy a1 [2] [(2, (Vb a4))] ?_ ?_))
  refine cr (wp 1 (acf y1.2 (0 : UInt8) (by kernel_rfl) (by kernel_rfl) (wd a0 (fun a5 a0 => ?_) (fun a5 a0 => ?_))))
  refine wp 1 (gy 12 (bi a0 fun a9 a6 a0 => wc ent78 a1 (K_L_header_many a6 (hG.hp0 a1)) fun b0 a7 => wp 2 (wl (ql ?_))))
  obtain rfl := oi a0
  exact je a7.kp
  refine wp 4 (wl (ql ?_))
  obtain rfl := oi a0
  exact je a1.kp
  intro b1 G a8
  refine ct ?_
  obtain rfl := oi hr
  exact rv a8.kp
theorem aji {fu : Nat} {s_0 : Str} {a2 : List Str} (a4 : Option Addr) (a5 : Nat) (a6 : Nat) {w : World} {r : Bool} (hr : aex fu s_0 a2 = some r) (hG : Gl w) (a9 : a5 = a2.length) (a7 : Rd w a4 (List.flatMap eS a2)) (b9 : a5 ≤ a6) : CR Tryz.prog 92 [(str s_0), (Vs a4 a5 a6)] w fun v w' => v = (Vb r) ∧ Hp w [] [] w' := by
  subst a9
  have hH : Hp w [] [] w := Hp.refl w
  refine enter (k := 18) Tryz.func92 rfl rfl (Nat.le_of_ble_eq_true rfl) ?_
  unfold aex at hr
  refine sr (wp 1 (nq (bi hr fun b0 b1 hr => cut1 hH b0 [4] (fun b2 => []) ?_ ?_)))
  refine sr (wp 1 (nq (ce (lpS (fun a8 a1 => afl fu s_0 a2 a8 a1) (0 : Int) hH b1 [0, 1, 4, 5] (fun a1 => [(5, (Vi .i64 a1))]) (fun _ => rfl) ?_))))
  rintro a8 a1 c0 G a3 a0
  rw [afl.eq_2] at a0
  refine cs (sr (wp 4 (nq (cd a0 (fun b3 a0 => ?_) (fun b3 a0 => ?_)))))
  refine ck (qn (cs (ce (sr (wp 2 (gi a0 fun b4 a0 => afk a4 a2.length a6 9 1 .i64 a1 Tryz.underlying54 (by kernel_rfl) (by kernel_rfl) (by kernel_rfl) a2 rfl b4 (a7.hp a3) alw (by decide) (gi a0 fun b5 a0 => ?_)))))))
  refine ajy a4 eS a2 1 a1 alw (a7.hp a3) (str (el a2 a1)) b5 (by decide) (by kernel_rfl) (by kernel_rfl) (by kernel_rfl) (wp 2 (nq (cd a0 (fun b6 a0 => ?_) (fun b6 a0 => ?_))))
  refine sr (wp 1 (nq (ct (bt_ (st (ach (bt_ ?_)))))))
  refine ach ?_
  obtain rfl := oi a0
  obtain rfl := oi hr
  exact rv a3.kp
  exact ck (bn (qn (cr (wp 1 (gi a0 fun b7 a0 => aac a1 (1 : Int) (by kernel_rfl) (by kernel_rfl) b7 (wp 1 (wl (ql (le' (a1 + (1 : Int)) a3.kp a0)))))))))
  refine acc (acb (aci (acd (ql ?_))))
  obtain rfl := oi a0
  exact je1 rfl a3.kp
  rintro b2 c1 G b8 rfl
  refine sr (wp 1 (nq (ct ?_)))
  obtain rfl := oi hr
  exact rv b8.kp
theorem K_L_ref03_Kind {fu : Nat} {a5 : Str} {w : World} {r : Int} (hr : aks fu a5 = some r) (hG : Gl w) : CR Tryz.prog 91 [(str a5)] w fun v w' => v = (Vi .i64 r) ∧ Hp w [] [] w' := by
  have hH : Hp w [] [] w := Hp.refl w
  refine enter (k := 28) Tryz.func91 rfl rfl (Nat.le_of_ble_eq_true rfl) ?_
  unfold aks at hr
  refine sr (wp 1 (nq (cs (ce (sr (wp 1 ?_))))))
  refine acx hH [(str ([70, 114, 111, 109] : Str)), (str ([84, 111] : Str)), (str ([67, 111, 110, 116, 97, 99, 116] : Str)), (str ([82, 111, 117, 116, 101] : Str)), (str ([82, 101, 99, 111, 114, 100, 45, 82, 111, 117, 116, 101] : Str)), (str ([80, 97, 116, 104] : Str)), (str ([83, 101, 114, 118, 105, 99, 101, 45, 82, 111, 117, 116, 101] : Str)), (str ([82, 101, 102, 101, 114, 45, 84, 111] : Str)), (str ([82, 101, 102, 101, 114, 114, 101, 100, 45, 66, 121] : Str)), (str ([82, 101, 112, 108, 121, 45, 84, 111] : Str))] 9 (fun b => (Vs (some ⟨b, 0, none⟩) 10 10)) rfl rfl (by kernel_rfl) fun b1 w2 a1 => bi hr fun y4 a9 hr => wc ent92 a1 (aji (some ⟨b1, 0, none⟩) 10 10 a9 (hG.hp0 a1) (by first | rfl | (simp; done) | omega | (simp; omega) | (rw [List.length_take]; omega)) (a1.rdblk 0 rfl) (Nat.le_of_ble_eq_true rfl)) fun w6 a0 => wp 1 (nq (cb hr (fun h9 hr => ?_) (fun h9 hr => ?_)))
  refine sr (wp 1 (nq (ct (bt_ (st ?_)))))
  obtain rfl := oi hr
  exact rv a0.kp
  refine sr (wp 3 (nq (cd hr (fun b0 hr => ?_) (fun b0 hr => ?_))))
  refine sr (wp 1 (nq (ct (bt_ (st ?_)))))
  obtain rfl := oi hr
  exact rv a0.kp
  refine sr (wp 3 (nq (cd hr (fun b2 hr => ?_) (fun b2 hr => ?_))))
  refine sr (wp 1 (nq (ct (bt_ (st ?_)))))
  obtain rfl := oi hr
  exact rv a0.kp
  refine sr (wp 3 (nq (cd hr (fun b3 hr => ?_) (fun b3 hr => ?_))))
  refine sr (wp 1 (nq (ct (bt_ (st ?_)))))
  obtain rfl := oi hr
  exact rv a0.kp
  refine sr (wp 1 (acx a0 [(str ([67, 111, 110, 116, 101, 110, 116, 45, 76, 101, 110, 103, 116, 104] : Str)), (str ([69, 120, 112, 105, 114, 101, 115] : Str)), (str ([77, 97, 120, 45, 70, 111, 114, 119, 97, 114, 100, 115] : Str)), (str ([77, 105, 110, 45, 69, 120, 112, 105, 114, 101, 115] : Str)), (str ([82, 83, 101, 113] : Str))] 9 (fun b => (Vs (some ⟨b, 0, none⟩) 5 5)) rfl rfl (by kernel_rfl) fun b4 c3 a2 => bi hr fun c4 b5 hr => wc ent92 a2 (aji (some ⟨b4, 0, none⟩) 5 5 b5 (hG.hp0 a2) (by first | rfl | (simp; done) | omega | (simp; omega) | (rw [List.length_take]; omega)) (a2.rdblk 0 rfl) (Nat.le_of_ble_eq_true rfl)) fun c5 a6 => wp 1 (nq (cb hr (fun b6 hr => ?_) (fun b6 hr => ?_)))))
  refine sr (wp 1 (nq (ct (bt_ (st ?_)))))
  obtain rfl := oi hr
  exact rv a6.kp
  refine sr (wp 1 (acx a6 [(str ([67, 111, 110, 116, 101, 110, 116, 45, 68, 105, 115, 112, 111, 115, 105, 116, 105, 111, 110] : Str)), (str ([67, 111, 110, 116, 101, 110, 116, 45, 84, 121, 112, 101] : Str)), (str ([69, 118, 101, 110, 116] : Str)), (str ([77, 105, 110, 45, 83, 69] : Str)), (str ([83, 101, 115, 115, 105, 111, 110, 45, 69, 120, 112, 105, 114, 101, 115] : Str)), (str ([83, 117, 98, 115, 99, 114, 105, 112, 116, 105, 111, 110, 45, 83, 116, 97, 116, 101] : Str))] 9 (fun b => (Vs (some ⟨b, 0, none⟩) 6 6)) rfl rfl (by kernel_rfl) fun b7 c6 a3 => bi hr fun c7 b8 hr => wc ent92 a3 (aji (some ⟨b7, 0, none⟩) 6 6 b8 (hG.hp0 a3) (by first | rfl | (simp; done) | omega | (simp; omega) | (rw [List.length_take]; omega)) (a3.rdblk 0 rfl) (Nat.le_of_ble_eq_true rfl)) fun c8 a7 => wp 1 (nq (cb hr (fun b9 hr => ?_) (fun b9 hr => ?_)))))
  refine sr (wp 1 (nq (ct (bt_ (st ?_)))))
  obtain rfl := oi hr
  exact rv a7.kp
  refine sr (wp 1 (acx a7 [(str ([65, 99, 99, 101, 112, 116] : Str)), (str ([65, 108, 108, 111, 119] : Str)), (str ([65, 108, 108, 111, 119, 45, 69, 118, 101, 110, 116, 115] : Str)), (str ([80, 114, 111, 120, 121, 45, 82, 101, 113, 117, 105, 114, 101] : Str)), (str ([82, 101, 113, 117, 105, 114, 101] : Str)), (str ([83, 117, 112, 112, 111, 114, 116, 101, 100] : Str)), (str ([85, 110, 115, 117, 112, 112, 111, 114, 116, 101, 100] : Str))] 9 (fun b => (Vs (some ⟨b, 0, none⟩) 7 7)) rfl rfl (by kernel_rfl) fun c0 c9 a4 => bi hr fun d0 c1 hr => wc ent92 a4 (aji (some ⟨c0, 0, none⟩) 7 7 c1 (hG.hp0 a4) (by first | rfl | (simp; done) | omega | (simp; omega) | (rw [List.length_take]; omega)) (a4.rdblk 0 rfl) (Nat.le_of_ble_eq_true rfl)) fun d1 a8 => wp 1 (nq (cb hr (fun c2 hr => ?_) (fun c2 hr => ?_)))))
  refine sr (wp 1 (nq (ct (bt_ (st ?_)))))
  obtain rfl := oi hr
  exact rv a8.kp
  refine ck (bn (qn (sr (wp 1 (nq (ct ?_))))))
  obtain rfl := oi hr
  exact rv a8.kp
theorem K_L_ref03_Many {fu : Nat} {a3 : Str} {w : World} {r : Bool} (hr : alx fu a3 = some r) (hG : Gl w) : CR Tryz.prog 37 [(str a3)] w fun v w' => v = (Vb r) ∧ Hp w [] [] w' := by
  have hH : Hp w [] [] w := Hp.refl w
  refine enter (k := 22) Tryz.func37 rfl rfl (Nat.le_of_ble_eq_true rfl) ?_
  unfold alx at hr
  refine sr (wp 1 (nq (sr (wp 1 (bi hr fun y1 a5 hr => wc ent35 hH (K_L_ref03_Canon a5 (hG.hp0 hH)) fun w3 a1 => ?_)))))
  refine wp 5 (nq (bi hr fun a6 a0 hr => afy a1 [2] [(2, (Vb a6))] ?_ ?_))
  refine cr (wp 1 (acf y1.2 (0 : UInt8) (by kernel_rfl) (by kernel_rfl) (wd a0 (fun a7 a0 => ?_) (fun a7 a0 => ?_))))
  refine wp 1 (gy 12 (bi a0 fun b4 a8 a0 => wc ent91 a1 (K_L_ref03_Kind a8 (hG.hp0 a1)) fun b5 a4 => wp 1 (gy 12 (wd a0 (fun a9 a0 => ?_) (fun a9 a0 => ?_)))))
  refine wp 6 (wl (ql ?_))
  obtain rfl := oi a0
  exact je a4.kp
  refine wp 1 (gy 16 (acx a4 [(str ([67, 111, 110, 116, 97, 99, 116] : Str)), (str ([80, 97, 116, 104] : Str)), (str ([82, 101, 99, 111, 114, 100, 45, 82, 111, 117, 116, 101] : Str)), (str ([82, 111, 117, 116, 101] : Str)), (str ([83, 101, 114, 118, 105, 99, 101, 45, 82, 111, 117, 116, 101] : Str)), (str ([86, 105, 97] : Str))] 9 (fun b => (Vs (some ⟨b, 0, none⟩) 6 6)) rfl rfl (by kernel_rfl) fun b0 b6 a2 => gy 16 (bi a0 fun b7 b1 a0 => wc ent92 a2 (aji (some ⟨b0, 0, none⟩) 6 6 b1 (hG.hp0 a2) (by first | rfl | (simp; done) | omega | (simp; omega) | (rw [List.length_take]; omega)) (a2.rdblk 0 rfl) (Nat.le_of_ble_eq_true rfl)) fun b8 b2 => wp 3 (wl (ql ?_)))))
  obtain rfl := oi a0
  exact je b2.kp
  refine wp 10 (wl (ql ?_))
  obtain rfl := oi a0
  exact je a1.kp
  intro b9 G b3
  refine ct ?_
  obtain rfl := oi hr
  exact rv b3.kp
theorem afr {fu : Nat} {s_0 : Str} {w : World} {r : Str} (hr : afn fu s_0 = some r) (hG : Gl w) : CR Tryz.prog 51 [(str s_0)] w fun v w' => v = (str r) ∧ Hp w [] [] w' := by
  have hH : Hp w [] [] w := Hp.refl w
  refine enter (k := 5) Tryz.func51 rfl rfl (Nat.le_of_ble_eq_true rfl) ?_
  unfold afn at hr
  refine sr (wp 1 (nq (sr (wp 1 (gi hr fun g4 hr => gi hr fun g5 hr => ?_)))))
  refine aad 101 #[] [(str s_0), (str ([32, 9] : Str))] _ ent101 (by kernel_rfl) (by kernel_rfl) (sh_Trim s_0 ([32, 9] : Str) w g4 g5) ?_
  rintro _ w1 ⟨rfl, a0⟩
  have a1 := hH.call a0; clear a0
  refine wp 1 (nq (ct ?_))
  obtain rfl := oi hr
  exact rv a1.kp
end Go.Proofs
set_option linter.unusedVariables false
set_option linter.unusedSimpArgs false
set_option maxRecDepth 20000
set_option maxHeartbeats 1000000
namespace Go.Proofs
open Go.Wk Go.Px
open Go.Value renaming slice → Vs, int → Vi, bool → Vb, pointer → Vp
theorem ent55 : Go.Wk.Enters Tryz.prog 55 := ⟨Tryz.f55, _, Tryz.func55, rfl, by kernel_rfl⟩
theorem ent104 : Go.Wk.Enters Tryz.prog 104 := ⟨Tryz.f104, _, Tryz.func104, rfl, by kernel_rfl⟩
theorem ent112 : Go.Wk.Enters Tryz.prog 112 := ⟨Tryz.f112, _, Tryz.func112, rfl, by kernel_rfl⟩
theorem amg {fu : Nat} {a1 : UInt8} {w : World} {r : Bool} (hr : aiv fu a1 = some r) (hG : Gl w) : CR Tryz.prog 104 [(bt a1)] w fun v w' => v = (Vb r) ∧ Hp w [] [] w' := by
  have hH : Hp w [] [] w := Hp.refl w
  refine enter (k := 9) Tryz.func104 rfl rfl (Nat.le_of_ble_eq_true rfl) ?_
  unfold aiv at hr
  refine sr (wp 1 (nq (bi hr fun v5 a0 hr => afy hH [2] [(2, (Vb v5))] ?_ ?_)))
  refine cr (wp 1 (acf a1 (32 : UInt8) (by kernel_rfl) (by kernel_rfl) (wd a0 (fun h6 a0 => ?_) (fun h6 a0 => ?_))))
  refine wp 4 (wl (ql ?_))
  obtain rfl := oi a0
  exact je hH.kp
  refine wp 1 (gy 5 (acf a1 (9 : UInt8) (by kernel_rfl) (by kernel_rfl) (wp 2 (wl (ql ?_)))))
  obtain rfl := oi a0
  exact je hH.kp
  intro w7 G a2
  refine ct ?_
  obtain rfl := oi hr
  exact rv a2.kp
theorem alr {fu : Nat} {s_0 : Str} {a3 : Int} {w : World} {r : Int} (hr : aft fu s_0 a3 = some r) (hG : Gl w) : CR Tryz.prog 102 [(str s_0), (Vi .i64 a3), (Value.func (.func 104) #[] #[])] w fun v w' => v = (Vi .i64 r) ∧ Hp w [] [] w' := by
  have hH : Hp w [] [] w := Hp.refl w
  refine enter (k := 26) Tryz.func102 rfl rfl (Nat.le_of_ble_eq_true rfl) ?_
  unfold aft at hr
  refine sr (wp 1 (nq (sr (wp 1 (w_max .i64 a3 (0 : Int) (by kernel_rfl) (by kernel_rfl) (wp 2 ?_))))))
  refine w_min .i64 (max a3 (0 : Int)) (s_0.length : Int) (by kernel_rfl) (by kernel_rfl) (wp 1 (nq (bi hr fun a7 a8 hr => afy hH [1, 6] [(1, (Vi .i64 a7))] ?_ ?_)))
  refine ce (lpS (fun a5 a2 => adv fu s_0 a5 a2) (min (max a3 (0 : Int)) (s_0.length : Int)) hH a8 [0, 1, 2, 6] (fun a2 => [(1, (Vi .i64 a2))]) (fun _ => rfl) ?_)
  rintro a5 a2 b7 G a4 a0
  rw [adv.eq_2] at a0
  refine cs (bi a0 fun a9 a1 a0 => afy a4 [0, 1, 2, 6, 22] [(22, (Vb a9))] ?_ ?_)
  refine cr (wp 4 (wd a1 (fun b0 a1 => ?_) (fun b0 a1 => ?_)))
  refine wp 3 (gy 16 (gi a1 fun b1 a1 => adc s_0 .i64 a2 Tryz.underlying9 (by kernel_rfl) (by kernel_rfl) b1 (gy 16 (bi a1 fun b8 b2 a1 => wc ent104 a4 (amg b2 (hG.hp0 a4)) fun b9 b3 => wp 1 (wl (ql ?_))))))
  obtain rfl := oi a1
  exact je b3.kp
  refine wp 6 (wl (ql ?_))
  obtain rfl := oi a1
  exact je a4.kp
  intro c0 G a6
  refine cb a0 (fun b4 a0 => ?_) (fun b4 a0 => ?_)
  refine ck (qn (ce (cr (wp 1 (gi a0 fun b5 a0 => aac a2 (1 : Int) (by kernel_rfl) (by kernel_rfl) b5 (wp 1 (wl (bn ?_))))))))
  exact ql (le' (a2 + (1 : Int)) a6.kp a0)
  refine acc (acb (aci (acd (ql ?_))))
  obtain rfl := oi a0
  exact je a6.kp
  intro c1 G b6
  refine sr (wp 2 (nq (ct ?_)))
  obtain rfl := oi hr
  exact rv b6.kp
theorem akk {fu : Nat} {s_0 : Str} {a0 : Int} {w : World} {r : Int} (hr : aip fu s_0 a0 = some r) (hG : Gl w) : CR Tryz.prog 55 [(str s_0), (Vi .i64 a0)] w fun v w' => v = (Vi .i64 r) ∧ Hp w [] [] w' := by
  have hH : Hp w [] [] w := Hp.refl w
  refine enter (k := 8) Tryz.func55 rfl rfl (Nat.le_of_ble_eq_true rfl) ?_
  unfold aip at hr
  refine sr (wp 1 (nq (sr (wp 2 (bi hr fun y1 a1 hr => wc ent102 hH (alr a1 (hG.hp0 hH)) fun w3 a2 => ?_)))))
  refine wp 1 (nq (ct ?_))
  obtain rfl := oi hr
  exact rv a2.kp
theorem acz {fu : Nat} {a0 : (Str × Int)} (a1 : Nat) {w : World} {r : (Str × Int)} (hr : acp fu a0 = some r) (hG : Gl w) (hM : Hp w (aah [blk a1 [(str a0.1), (Vi .i64 a0.2)] 119]) [blk a1 [(str a0.1), (Vi .i64 a0.2)] 119] w) (hS : ∀ b ∈ aah [blk a1 [(str a0.1), (Vi .i64 a0.2)] 119], 9 ≤ b) : CR Tryz.prog 111 [(Vp (some ⟨a1, 0, none⟩))] w fun v w' => v = (Value.tuple #[]) ∧ Hp w (aah [blk a1 [(str a0.1), (Vi .i64 a0.2)] 119]) [blk a1 [(str r.1), (Vi .i64 r.2)] 119] w' := by
  have hH : Hp w (aah [blk a1 [(str a0.1), (Vi .i64 a0.2)] 119]) [blk a1 [(str a0.1), (Vi .i64 a0.2)] 119] w := hM
  refine enter (k := 15) Tryz.func111 rfl rfl (Nat.le_of_ble_eq_true rfl) ?_
  unfold acp at hr
  refine bi hr fun y1 a3 hr => adn 11 (fun j_ w_ w_' => acj [10, 11, 12, 13] (fun w' => w'.heap[a1]? = some (.cells [(str a0.1), (Vi .i64 a0.2)].toArray 119 (0, 0))) j_ w_ w_' ∧ True) [false, false, false, false, false, false, false, false, false, false, false, false, false, false] (fun _ _ => ⟨acj.same, trivial⟩) (by kernel_rfl) (by kernel_rfl) hH rfl aco fun w6 a2 => rp 6 [0, 1, 2, 3, 4] (aag [true, true, true, true, true, true, false, false, false, false, false, false, false, false] 5 7 (str a0.1) [10, 11, 12, 13] (fun _ _ _ h => h.1) _ rfl rfl (by kernel_rfl) (by kernel_rfl) (by kernel_rfl) (by kernel_rfl) (by kernel_rfl) rfl (aam rfl (by intro w hS_; exact (afw a1 0 [(str a0.1), (Vi .i64 a0.2)] 119 (str a0.1) hS_ rfl (by kernel_rfl) (by kernel_rfl)))) (by exact a2.blkAt 0 rfl) (rp 2 [6, 7, 8] (aag [true, true, true, true, true, true, true, true, true, true, false, false, false, false] 9 11 (Vi .i64 a0.2) [10, 11, 12, 13] (fun _ _ _ h => h.1) _ rfl rfl (by kernel_rfl) (by kernel_rfl) (by kernel_rfl) (by kernel_rfl) (by kernel_rfl) rfl (aam rfl (by intro w hS_; exact (afw a1 1 [(str a0.1), (Vi .i64 a0.2)] 119 (Vi .i64 a0.2) hS_ rfl (by kernel_rfl) (by kernel_rfl)))) (by exact a2.blkAt 0 rfl) (ro 10 rfl (wc ent55 a2 (akk a3 (hG.hp a2 hS)) fun w3 a4 => wl (abl (by exact ⟨acj.out rfl, trivial⟩) ?_))))))
  refine acy (by kernel_rfl) (wp 2 (aet a4 0 a1 1 [(str a0.1), (Vi .i64 a0.2)] 119 (Vi .i64 y1) [blk a1 [(str a0.1), (Vi .i64 y1)] 119] rfl (Nat.lt_of_lt_of_le (Nat.lt_succ_self _) (Nat.le_of_ble_eq_true rfl)) (by kernel_rfl) (by kernel_rfl) rfl (by kernel_rfl) rfl fun w8 a5 => wl ?_))
  obtain rfl := oi hr
  refine ahp  rfl  ?_
  exact ⟨(by first | rfl | (simp; done) | (simp; omega)), a5.kp⟩
theorem aer {fu : Nat} {a0 : (Str × Int)} (a1 : Nat) {w : World} {r : Bool} (hr : aej fu a0 = some r) (hG : Gl w) (hM : Hp w (aah [blk a1 [(str a0.1), (Vi .i64 a0.2)] 119]) [blk a1 [(str a0.1), (Vi .i64 a0.2)] 119] w) (hS : ∀ b ∈ aah [blk a1 [(str a0.1), (Vi .i64 a0.2)] 119], 9 ≤ b) : CR Tryz.prog 112 [(Vp (some ⟨a1, 0, none⟩))] w fun v w' => v = (Vb r) ∧ Hp w (aah [blk a1 [(str a0.1), (Vi .i64 a0.2)] 119]) [blk a1 [(str a0.1), (Vi .i64 a0.2)] 119] w' := by
  have hH : Hp w (aah [blk a1 [(str a0.1), (Vi .i64 a0.2)] 119]) [blk a1 [(str a0.1), (Vi .i64 a0.2)] 119] w := hM
  refine enter (k := 14) Tryz.func112 rfl rfl (Nat.le_of_ble_eq_true rfl) ?_
  unfold aej at hr
  refine sr (wp 1 (nq (cs (adn 10 (fun j_ w_ w_' => acj [10, 11] (fun w' => w'.heap[a1]? = some (.cells [(str a0.1), (Vi .i64 a0.2)].toArray 119 (0, 0))) j_ w_ w_' ∧ acj [9, 10, 11] (fun w' => w'.heap[a1]? = some (.cells [(str a0.1), (Vi .i64 a0.2)].toArray 119 (0, 0))) j_ w_ w_' ∧ True) [false, false, false, false, false, false, false, false, false, false, false, false] (fun _ _ => ⟨acj.same, acj.same, trivial⟩) (by kernel_rfl) (by kernel_rfl) hH rfl (adi aco) fun w1 a2 => rp 7 [0, 1, 2] (aag [true, true, true, true, false, false, false, false, false, false, false, false] 3 6 (Vi .i64 a0.2) [10, 11] (fun _ _ _ h => h.1) _ rfl rfl (by kernel_rfl) (by kernel_rfl) (by kernel_rfl) (by kernel_rfl) (by kernel_rfl) rfl (aam rfl (by intro w hS_; exact (afw a1 1 [(str a0.1), (Vi .i64 a0.2)] 119 (Vi .i64 a0.2) hS_ rfl (by kernel_rfl) (by kernel_rfl)))) (by exact a2.blkAt 0 rfl) (rp 2 [4, 5, 6, 7] ?_))))))
  refine aag [true, true, true, true, true, true, true, true, true, false, false, false] 8 11 (str a0.1) [9, 10, 11] (fun _ _ _ h => h.2.1) _ rfl rfl (by kernel_rfl) (by kernel_rfl) (by kernel_rfl) (by kernel_rfl) (by kernel_rfl) rfl (aam rfl (by intro w hS_; exact (afw a1 0 [(str a0.1), (Vi .i64 a0.2)] 119 (str a0.1) hS_ rfl (by kernel_rfl) (by kernel_rfl)))) (by exact a2.blkAt 0 rfl) (rp 0 [9] (acy (by kernel_rfl) (wp 2 (nq (ct ?_)))))
  obtain rfl := oi hr
  refine ano (Vb (decide ((a0.1.length : Int) ≤ a0.2))) rfl (by kernel_rfl) ?_
  exact ⟨(by first | rfl | (simp; done) | (simp; omega)), a2.kp⟩
theorem aar {fu : Nat} {a0 : (Str × Int)} {a8 : UInt8} (a1 : Nat) {w : World} {r : Bool} (hr : aap fu a0 a8 = some r) (hG : Gl w) (hM : Hp w (aah [blk a1 [(str a0.1), (Vi .i64 a0.2)] 119]) [blk a1 [(str a0.1), (Vi .i64 a0.2)] 119] w) (hS : ∀ b ∈ aah [blk a1 [(str a0.1), (Vi .i64 a0.2)] 119], 9 ≤ b) : CR Tryz.prog 113 [(Vp (some ⟨a1, 0, none⟩)), (bt a8)] w fun v w' => v = (Vb r) ∧ Hp w (aah [blk a1 [(str a0.1), (Vi .i64 a0.2)] 119]) [blk a1 [(str a0.1), (Vi .i64 a0.2)] 119] w' := by
  have hH : Hp w (aah [blk a1 [(str a0.1), (Vi .i64 a0.2)] 119]) [blk a1 [(str a0.1), (Vi .i64 a0.2)] 119] w := hM
  refine enter (k := 22) Tryz.func113 rfl rfl (Nat.le_of_ble_eq_true rfl) ?_
  unfold aap at hr
  refine sr (wp 1 (nq (bi hr fun b1 a2 hr => afy hH [4] [(4, (Vb b1))] ?_ ?_)))
  refine bi a2 fun a9 b2 a2 => ?_
  rcases Bool.eq_false_or_eq_true (!a9) with a4 | a4
  replace a2 := cft a4 a2
  refine gi a2 fun b3 a2 => adn 15 (fun j_ w_ w_' => acj [13, 15, 16, 17] (fun w' => w'.heap[a1]? = some (.cells [(str a0.1), (Vi .i64 a0.2)].toArray 119 (0, 0))) j_ w_ w_' ∧ True) [false, false, false, false, false, false, false, false, false, false, false, false, false, false, false, false, false, false] (fun _ _ => ⟨acj.same, trivial⟩) (by kernel_rfl) (by kernel_rfl) hH rfl (aak aco) fun b5 a6 => rp 14 [0] (ro 1 rfl (aad 112 #[] [(Vp (some ⟨a1, 0, none⟩))] _ ent112 (by kernel_rfl) (by kernel_rfl) (aer a1 b2 (hG.hp a6 hS) (a6.hand (L1 := [blk a1 [(str a0.1), (Vi .i64 a0.2)] 119]) (L2 := [])) (a6.highs hG hS 1 rfl)) ?_))
  rintro _ b0 ⟨rfl, a5⟩
  have a3 : Hp w (aah [blk a1 [(str a0.1), (Vi .i64 a0.2)] 119]) [blk a1 [(str a0.1), (Vi .i64 a0.2)] 119] b0 := Hp.callK (L1 := [blk a1 [(str a0.1), (Vi .i64 a0.2)] 119]) (L2 := []) a6 a5; clear a5
  refine wl (abl (by exact ⟨acj.new (a3.blkAt 0 rfl), trivial⟩) (rp 12 [2] (rt 3 (Vb true) rfl rfl (aam rfl (by intro w hS_; exact Eq.trans (b := Result.ok (Next.value (.bool (!a9))) w) (by kernel_rfl) (congrArg (fun b => Result.ok (Next.value (.bool b)) w) a4))) (rp 7 [4, 5, 6, 7] (aag [true, true, true, true, true, true, true, true, true, false, false, false, false, false, false, false, false, false] 8 13 (str a0.1) [13, 15, 16, 17] (fun _ _ _ h => h.1) _ rfl rfl (by kernel_rfl) (by kernel_rfl) (by kernel_rfl) (by kernel_rfl) (by kernel_rfl) rfl (akp 8 (by kernel_rfl) (by kernel_rfl) (by kernel_rfl) (by intro w hS_; exact (afw a1 0 [(str a0.1), (Vi .i64 a0.2)] 119 (str a0.1) hS_ rfl (by kernel_rfl) (by kernel_rfl)))) (by exact a3.blkAt 0 rfl) (rp 3 [9, 10, 11] (aag [true, true, true, true, true, true, true, true, true, true, true, true, true, false, false, false, false, false] 12 17 (Vi .i64 a0.2) [13, 15, 16, 17] (fun _ _ _ h => h.1) _ rfl rfl (by kernel_rfl) (by kernel_rfl) (by kernel_rfl) (by kernel_rfl) (by kernel_rfl) rfl (akp 8 (by kernel_rfl) (by kernel_rfl) (by kernel_rfl) (by intro w hS_; exact (afw a1 1 [(str a0.1), (Vi .i64 a0.2)] 119 (Vi .i64 a0.2) hS_ rfl (by kernel_rfl) (by kernel_rfl)))) (by exact a3.blkAt 0 rfl) (rt 13 (bt (at_ a0.1 a0.2)) rfl rfl (akp 8 (by kernel_rfl) (by kernel_rfl) (by kernel_rfl) (by intro w hS_; exact (x_index a0.1 .i64 a0.2 Tryz.underlying9 (by kernel_rfl) (by kernel_rfl) b3))) (rp 0 [14] ?_)))))))))
  refine acy (by kernel_rfl) (gy 8 (acf (at_ a0.1 a0.2) a8 (by kernel_rfl) (by kernel_rfl) (wp 2 (wl (ql ?_)))))
  obtain rfl := oi a2
  exact je a3.kp
  replace a2 := cff a4 a2
  refine adn 15 (fun j_ w_ w_' => acj [13, 15, 16, 17] (fun w' => w'.heap[a1]? = some (.cells [(str a0.1), (Vi .i64 a0.2)].toArray 119 (0, 0))) j_ w_ w_' ∧ True) [false, false, false, false, false, false, false, false, false, false, false, false, false, false, false, false, false, false] (fun _ _ => ⟨acj.same, trivial⟩) (by kernel_rfl) (by kernel_rfl) hH rfl (aak aco) fun b6 a7 => rp 14 [0] (ro 1 rfl (aad 112 #[] [(Vp (some ⟨a1, 0, none⟩))] _ ent112 (by kernel_rfl) (by kernel_rfl) (aer a1 b2 (hG.hp a7 hS) (a7.hand (L1 := [blk a1 [(str a0.1), (Vi .i64 a0.2)] 119]) (L2 := [])) (a7.highs hG hS 1 rfl)) ?_))
  rintro _ b0 ⟨rfl, a5⟩
  have a3 : Hp w (aah [blk a1 [(str a0.1), (Vi .i64 a0.2)] 119]) [blk a1 [(str a0.1), (Vi .i64 a0.2)] 119] b0 := Hp.callK (L1 := [blk a1 [(str a0.1), (Vi .i64 a0.2)] 119]) (L2 := []) a7 a5; clear a5
  refine wl (abl (by exact ⟨acj.new (a3.blkAt 0 rfl), trivial⟩) (rp 12 [2] (rt 3 (Vb false) rfl rfl (aam rfl (by intro w hS_; exact Eq.trans (b := Result.ok (Next.value (.bool (!a9))) w) (by kernel_rfl) (congrArg (fun b => Result.ok (Next.value (.bool b)) w) a4))) (rp 0 [4, 5, 6, 7, 8, 9, 10, 11, 12, 13, 14] (acy (by kernel_rfl) (wp 3 (wl (ql ?_))))))))
  obtain rfl := oi a2
  exact je a3.kp
  intro b7 G b4
  refine ct ?_
  obtain rfl := oi hr
  refine ano (Vb b1) rfl (by kernel_rfl) ?_
  exact ⟨(by first | rfl | (simp; done) | (simp; omega)), b4.kp⟩
theorem K_L_lexis_char_escaped {fu : Nat} {a1 : UInt8} {w : World} {r : Bool} (hr : akb fu a1 = some r) (hG : Gl w) : CR Tryz.prog 196 [(bt a1)] w fun v w' => v = (Vb r) ∧ Hp w [] [] w' := by
  have hH : Hp w [] [] w := Hp.refl w
  refine enter (k := 9) Tryz.func196 rfl rfl (Nat.le_of_ble_eq_true rfl) ?_
  unfold akb at hr
  refine sr (wp 1 (nq (bi hr fun v5 a0 hr => afy hH [2] [(2, (Vb v5))] ?_ ?_)))
  refine cr (wp 1 (aiu a1 (32 : UInt8) (by kernel_rfl) (by kernel_rfl) (wd a0 (fun h6 a0 => ?_) (fun h6 a0 => ?_))))
  refine wp 1 (gy 5 (ait a1 (126 : UInt8) (by kernel_rfl) (by kernel_rfl) (wp 2 (wl (ql ?_)))))
  obtain rfl := oi a0
  exact je hH.kp
  refine wp 4 (wl (ql ?_))
  obtain rfl := oi a0
  exact je hH.kp
  intro w7 G a2
  refine ct ?_
  obtain rfl := oi hr
  exact rv a2.kp
theorem alh {fu : Nat} {a1 : UInt8} {w : World} {r : Bool} (hr : ahi fu a1 = some r) (hG : Gl w) : CR Tryz.prog 162 [(bt a1)] w fun v w' => v = (Vb r) ∧ Hp w [] [] w' := by
  have hH : Hp w [] [] w := Hp.refl w
  refine enter (k := 13) Tryz.func162 rfl rfl (Nat.le_of_ble_eq_true rfl) ?_
  unfold ahi at hr
  refine sr (wp 1 (nq (bi hr fun v6 a0 hr => afy hH [2] [(2, (Vb v6))] ?_ ?_)))
  refine cr (wp 1 (w8_lss a1 (32 : UInt8) (by kernel_rfl) (by kernel_rfl) (wd a0 (fun h7 a0 => ?_) (fun h7 a0 => ?_))))
  refine wp 1 (gy 5 (aeb a1 (9 : UInt8) (by kernel_rfl) (by kernel_rfl) (wp 1 (wn a0 (fun h8 a0 => ?_) (fun h8 a0 => ?_)))))
  refine wp 4 (wl (ql ?_))
  obtain rfl := oi a0
  exact je hH.kp
  refine wp 1 (gy 9 (acf a1 (127 : UInt8) (by kernel_rfl) (by kernel_rfl) (wp 2 (wl (ql ?_)))))
  obtain rfl := oi a0
  exact je hH.kp
  refine wp 5 (gy 9 (acf a1 (127 : UInt8) (by kernel_rfl) (by kernel_rfl) (wp 2 (wl (ql ?_)))))
  obtain rfl := oi a0
  exact je hH.kp
  intro w9 G a2
  refine ct ?_
  obtain rfl := oi hr
  exact rv a2.kp
end Go.Proofs
set_option linter.unusedVariables false
set_option linter.unusedSimpArgs false
set_option maxRecDepth 20000
set_option maxHeartbeats 1000000
namespace Go.Proofs
open Go.Wk Go.Px
open Go.Value renaming slice → Vs, int → Vi, bool → Vb, pointer → Vp
theorem ent56 : Go.Wk.Enters Tryz.prog 56 := ⟨Tryz.f56, _, Tryz.func56, rfl, by kernel_rfl⟩
theorem ent80 : Go.Wk.Enters Tryz.prog 80 := ⟨Tryz.f80, _, Tryz.func80, rfl, by kernel_rfl⟩
theorem ent111 : Go.Wk.Enters Tryz.prog 111 := ⟨Tryz.f111, _, Tryz.func111, rfl, by kernel_rfl⟩
theorem amf : Go.Wk.Enters Tryz.prog 113 := ⟨Tryz.f113, _, Tryz.func113, rfl, by kernel_rfl⟩
theorem ent145 : Go.Wk.Enters Tryz.prog 145 := ⟨Tryz.f145, _, Tryz.func145, rfl, by kernel_rfl⟩
theorem ent162 : Go.Wk.Enters Tryz.prog 162 := ⟨Tryz.f162, _, Tryz.func162, rfl, by kernel_rfl⟩
theorem ent176 : Go.Wk.Enters Tryz.prog 176 := ⟨Tryz.f176, _, Tryz.func176, rfl, by kernel_rfl⟩
theorem ent196 : Go.Wk.Enters Tryz.prog 196 := ⟨Tryz.f196, _, Tryz.func196, rfl, by kernel_rfl⟩
theorem als {fu : Nat} {s_0 : Str} {b0 : Int} {w : World} {r : (Str × Int × UInt8)} (hr : ajf fu s_0 b0 = some r) (hG : Gl w) : CR Tryz.prog 145 [(str s_0), (Vi .i64 b0)] w fun v w' => v = (Value.tuple #[(str r.1), (Vi .i64 r.2.1), (bt r.2.2)]) ∧ Hp w [] [] w' := by
  have hH : Hp w [] [] w := Hp.refl w
  refine enter (k := 82) Tryz.func145 rfl rfl (Nat.le_of_ble_eq_true rfl) ?_
  unfold ajf at hr
  refine sr (wp 3 (nq (c_scope (cs (bi hr fun v5 b1 hr => afy hH [0, 1, 4, 5, 6, 17] [(17, (Vb v5))] ?_ ?_)))))
  refine cr (wp 2 (wd b1 (fun h6 b1 => ?_) (fun h6 b1 => ?_)))
  refine wp 5 (wl (ql ?_))
  obtain rfl := oi b1
  exact je hH.kp
  refine wp 5 (wl (ql ?_))
  obtain rfl := oi b1
  exact je hH.kp
  intro w7 G b4
  refine cb hr (fun h9 hr => ?_) (fun h9 hr => ?_)
  refine sr (wp 3 (nq (ct (st (n_ret ?_)))))
  obtain rfl := oi hr
  exact rv b4.kp
  refine ck (qn (cs (bi hr fun d3 a7 hr => afy b4 [0, 1, 4, 5, 6, 27] [(27, (Vb d3))] ?_ ?_)))
  refine cr (wp 4 (wd a7 (fun d4 a7 => ?_) (fun d4 a7 => ?_)))
  refine wp 5 (wl (ql ?_))
  obtain rfl := oi a7
  exact je b4.kp
  refine wp 2 (gy 22 (gi a7 fun d5 a7 => adc s_0 .i64 b0 Tryz.underlying9 (by kernel_rfl) (by kernel_rfl) d5 (gy 22 (aeb (at_ s_0 b0) (34 : UInt8) (by kernel_rfl) (by kernel_rfl) (wp 1 (wl (ql ?_)))))))
  obtain rfl := oi a7
  exact je b4.kp
  intro g3 G c1
  refine cb hr (fun d6 hr => ?_) (fun d6 hr => ?_)
  refine sr (wp 4 (nq (ct (st (n_ret ?_)))))
  obtain rfl := oi hr
  exact rv c1.kp
  refine ck (qn (sr (wp 1 (nq (sr (wp 1 ?_))))))
  refine gi hr fun d7 hr => aac b0 (1 : Int) (by kernel_rfl) (by kernel_rfl) d7 (wp 1 (nq (cs (c_label (qn (bi hr fun c2 d8 hr => cut (σ := ((List UInt8) × Int) × (Option Nat) × (Option Addr) × Nat) [0, 4, 5, 6, 7, 8] (fun ⟨a3, b5, b2, b3⟩ => [(7, (Vs b2 a3.1.length b3)), (8, (Vi .i64 a3.2))]) (fun ⟨a3, b5, b2, b3⟩ w' => Hp w [] [rwt eB 5 1 b5 b2 b3 a3.1] w' ∧ .inl a3 = c2) ?_ ?_))))))
  refine ce (lpG (σ := Nat × (List UInt8) × Int × (Option Nat) × (Option Addr) × Nat) [0, 4, 5, 6, 7, 8] (fun ⟨a8, a2, a1, a6, a4, a5⟩ => [(7, (Vs a4 a2.length a5)), (8, (Vi .i64 a1))]) (fun ⟨a8, a2, a1, a6, a4, a5⟩ w' => Hp w [] [rwt eB 5 1 a6 a4 a5 a2] w' ∧ agj fu s_0 a8 a2 a1 = some c2) (fun ⟨a8, a2, a1, a6, a4, a5⟩ => a8) (fu, ([] : List UInt8), b0 + (1 : Int), none, none, 0) (by exact ⟨(Hp.nilrw c1 eB 5 1 none).kp, d8⟩) ?_ (mc (by kernel_rfl) (mc (by kernel_rfl) (mc (by kernel_rfl) (mc (by kernel_rfl) (mc (Eq.trans (b := (Vs none 0 0)) (by kernel_rfl) (aae (by (try simp only [List.length_set]) <;> first | rfl | omega | simp))) (mc (by kernel_rfl) rfl)))))))
  rintro ⟨_ | a8, a2, a1, a6, a4, a5⟩ g4 G ⟨a9, a0⟩
  · exact absurd (show none = some _ from a0) (by simp)
  rw [agj.eq_2] at a0
  refine cs (sr (wp 4 (nq (cd a0 (fun d9 a0 => ?_) (fun d9 a0 => ?_)))))
  refine ck (qn (ce (sr (wp 2 (gi a0 fun e0 a0 => adc s_0 .i64 a1 Tryz.underlying9 (by kernel_rfl) (by kernel_rfl) e0 (wp 1 (wl ?_)))))))
  refine qn (cs (ce (sr (wp 1 (acf (at_ s_0 a1) (34 : UInt8) (by kernel_rfl) (by kernel_rfl) (wp 1 (nq (cd a0 (fun e1 a0 => ?_) (fun e1 a0 => ?_)))))))))
  refine acc (b_past (by kernel_rfl) (acb (b_past (by kernel_rfl) (aci (acd (ql ?_))))))
  obtain rfl := oi a0
  exact ⟨((a2, a1), a6, a4, a5), _, rfl, by kernel_rfl, a9.kp, rfl⟩
  refine sr (wp 1 (acf (at_ s_0 a1) (92 : UInt8) (by kernel_rfl) (by kernel_rfl) (wp 1 (nq (cd a0 (fun e2 a0 => ?_) (fun e2 a0 => ?_))))))
  refine cs (sr (wp 1 (gi a0 fun e3 a0 => aac a1 (1 : Int) (by kernel_rfl) (by kernel_rfl) e3 (wp 3 (nq (cd a0 (fun e4 a0 => ?_) (fun e4 a0 => ?_)))))))
  refine sr (wp 5 (nq (ct (st (bt_ (st (bt_ ?_)))))))
  refine ach (bt_ (ach ?_))
  obtain rfl := oi a0
  refine n_ret ?_
  obtain rfl := oi hr
  exact rv a9.kp
  refine ck (qn (cs (sr (wp 2 (gi a0 fun e5 a0 => aac a1 (1 : Int) (by kernel_rfl) (by kernel_rfl) e5 (gi a0 fun e6 a0 => adc s_0 .i64 (a1 + (1 : Int)) Tryz.underlying9 (by kernel_rfl) (by kernel_rfl) e6 ?_))))))
  refine bi a0 fun g5 e7 a0 => wc ent196 a9 (K_L_lexis_char_escaped e7 (hG.hp0 a9)) fun g6 c3 => wp 1 (nq (cb a0 (fun e8 a0 => ?_) (fun e8 a0 => ?_)))
  refine sr (wp 4 (nq (ct (st (bt_ (st (bt_ ?_)))))))
  refine ach (bt_ (ach ?_))
  obtain rfl := oi a0
  refine n_ret ?_
  obtain rfl := oi hr
  exact rv c3.kp
  refine ck (qn (cr (wp 1 (gi a0 fun e9 a0 => aac a1 (1 : Int) (by kernel_rfl) (by kernel_rfl) e9 (wp 1 (wl (bn (qn ?_))))))))
  refine sr (wp 3 (gi a0 fun f0 a0 => adc s_0 .i64 (a1 + (1 : Int)) Tryz.underlying9 (by kernel_rfl) (by kernel_rfl) f0 (acx c3 [(bt (at_ s_0 (a1 + (1 : Int))))] 5 (fun b => (Vs (some ⟨b, 0, none⟩) 1 1)) rfl rfl (by kernel_rfl) fun b6 g7 c4 => gi a0 fun f1 a0 => adu c4 1 a6 a4 (some ⟨b6, 0, none⟩) a5 1 5 1 1 a2 ([at_ s_0 (a1 + (1 : Int))] : List UInt8) agf rfl Tryz.underlying92 (by unfold TI; kernel_rfl) (by decide) (by decide) (by kernel_rfl) (Eq.trans (b := (Vs (some ⟨b6, 0, none⟩) 1 1)) (by kernel_rfl) (aae (by first | rfl | (simp; done) | omega | (simp; omega) | (rw [List.length_take]; omega)))) (c4.rdblk 0 rfl) f1 fun c5 c6 c7 f2 b7 => ?_)))
  replace b7 : Hp w [] [blk b6 [(bt (at_ s_0 (a1 + (1 : Int))))] 5, rwt eB 5 1 c5 c6 c7 (a2 ++ ([at_ s_0 (a1 + (1 : Int))] : List UInt8))] f2 := b7
  refine wp 1 (nq (cr (wp 1 (gi a0 fun f3 a0 => aac (a1 + (1 : Int)) (1 : Int) (by kernel_rfl) (by kernel_rfl) f3 (wp 1 (wl (bn ?_)))))))
  refine ql ?_
  exact ⟨(a8, a2 ++ ([at_ s_0 (a1 + (1 : Int))] : List UInt8), (a1 + (1 : Int)) + (1 : Int), c5, c6, c7), _, rfl, by kernel_rfl, ⟨(Hp.front b7 1 _ rfl).kp, a0⟩, Nat.lt_succ_self _⟩
  refine sr (wp 1 (bi a0 fun g8 f4 a0 => wc ent162 a9 (alh f4 (hG.hp0 a9)) fun g9 c8 => wp 1 (nq (cb a0 (fun f5 a0 => ?_) (fun f5 a0 => ?_)))))
  refine sr (wp 4 (nq (ct (bt_ (st (bt_ (ach ?_)))))))
  refine bt_ (ach ?_)
  obtain rfl := oi a0
  refine n_ret ?_
  obtain rfl := oi hr
  exact rv c8.kp
  refine ck (bn (qn (sr (wp 3 (gi a0 fun f6 a0 => adc s_0 .i64 a1 Tryz.underlying9 (by kernel_rfl) (by kernel_rfl) f6 (acx c8 [(bt (at_ s_0 a1))] 5 (fun b => (Vs (some ⟨b, 0, none⟩) 1 1)) rfl rfl (by kernel_rfl) fun b8 h0 c9 => gi a0 fun f7 a0 => ?_))))))
  refine adu c9 1 a6 a4 (some ⟨b8, 0, none⟩) a5 1 5 1 1 a2 ([at_ s_0 a1] : List UInt8) agf rfl Tryz.underlying92 (by unfold TI; kernel_rfl) (by decide) (by decide) (by kernel_rfl) (Eq.trans (b := (Vs (some ⟨b8, 0, none⟩) 1 1)) (by kernel_rfl) (aae (by first | rfl | (simp; done) | omega | (simp; omega) | (rw [List.length_take]; omega)))) (c9.rdblk 0 rfl) f7 fun d0 d1 d2 f8 b9 => ?_
  replace b9 : Hp w [] [blk b8 [(bt (at_ s_0 a1))] 5, rwt eB 5 1 d0 d1 d2 (a2 ++ ([at_ s_0 a1] : List UInt8))] f8 := b9
  refine wp 1 (nq (cr (wp 1 (gi a0 fun f9 a0 => aac a1 (1 : Int) (by kernel_rfl) (by kernel_rfl) f9 (wp 1 (wl (bn ?_)))))))
  refine ql ?_
  exact ⟨(a8, a2 ++ ([at_ s_0 a1] : List UInt8), a1 + (1 : Int), d0, d1, d2), _, rfl, by kernel_rfl, ⟨(Hp.front b9 1 _ rfl).kp, a0⟩, Nat.lt_succ_self _⟩
  refine acc (acb (aci (acd (ql ?_))))
  obtain rfl := oi a0
  exact ⟨((a2, a1), a6, a4, a5), _, rfl, by kernel_rfl, a9.kp, rfl⟩
  rintro ⟨a3, b5, b2, b3⟩ g0 G ⟨c0, rfl⟩
  refine cs (sr (wp 4 (nq (cd hr (fun g1 hr => ?_) (fun g1 hr => ?_)))))
  refine sr (wp 5 (nq (ct (st (n_ret ?_)))))
  obtain rfl := oi hr
  exact rv c0.kp
  refine ck (qn (sr (wp 1 (ady (v := (str a3.1)) (w' := g0) rfl rfl (amq a3.1 b2 a3.1.length b3 5 (Rd.bytes (c0.rdrw 0 rfl)) (by first | rfl | (simp; done) | omega | (simp; omega) | (rw [List.length_take]; omega)) Tryz.underlying92 Tryz.underlying9 Tryz.underlying5 (by kernel_rfl)) (wp 1 (gi hr fun g2 hr => aac a3.2 (1 : Int) (by kernel_rfl) (by kernel_rfl) g2 (wp 3 ?_)))))))
  refine nq (ct (n_ret ?_))
  obtain rfl := oi hr
  exact rv c0.kp
theorem amd {fu : Nat} {b0 : (Str × Int)} {a3 : (Str × (Str × Str × Str × Int × (List (Str × Str × Bool)) × (List (Str × Str × Bool))) × (List (Str × Str × Bool)))} (b1 : Nat) (b2 : Nat) (b3 : Option Nat) (a4 : Option Addr) (a5 : Nat) (b4 : Option Nat) (a6 : Option Addr) (a7 : Nat) (b5 : Option Nat) (a8 : Option Addr) (a9 : Nat) {w : World} {r : (Int × UInt8 × (Str × Int) × (Str × (Str × Str × Str × Int × (List (Str × Str × Bool)) × (List (Str × Str × Bool))) × (List (Str × Str × Bool))))} (hr : agn fu b0 a3 = some r) (hG : Gl w) (hM : Hp w (aah [blk b1 [(str b0.1), (Vi .i64 b0.2)] 119, blk b2 [(str a3.1), (str a3.2.1.1), (str a3.2.1.2.1), (str a3.2.1.2.2.1), (Vi .i64 a3.2.1.2.2.2.1), (Vs a4 a3.2.1.2.2.2.2.1.length a5), (Vs a6 a3.2.1.2.2.2.2.2.length a7), (Vs a8 a3.2.2.length a9)] 70, rwt aaa 46 3 b3 a4 a5 a3.2.1.2.2.2.2.1, rwt aaa 46 3 b4 a6 a7 a3.2.1.2.2.2.2.2, rwt aaa 46 3 b5 a8 a9 a3.2.2]) [blk b1 [(str b0.1), (Vi .i64 b0.2)] 119, blk b2 [(str a3.1), (str a3.2.1.1), (str a3.2.1.2.1), (str a3.2.1.2.2.1), (Vi .i64 a3.2.1.2.2.2.1), (Vs a4 a3.2.1.2.2.2.2.1.length a5), (Vs a6 a3.2.1.2.2.2.2.2.length a7), (Vs a8 a3.2.2.length a9)] 70, rwt aaa 46 3 b3 a4 a5 a3.2.1.2.2.2.2.1, rwt aaa 46 3 b4 a6 a7 a3.2.1.2.2.2.2.2, rwt aaa 46 3 b5 a8 a9 a3.2.2] w) (hS : ∀ b ∈ aah [blk b1 [(str b0.1), (Vi .i64 b0.2)] 119, blk b2 [(str a3.1), (str a3.2.1.1), (str a3.2.1.2.1), (str a3.2.1.2.2.1), (Vi .i64 a3.2.1.2.2.2.1), (Vs a4 a3.2.1.2.2.2.2.1.length a5), (Vs a6 a3.2.1.2.2.2.2.2.length a7), (Vs a8 a3.2.2.length a9)] 70, rwt aaa 46 3 b3 a4 a5 a3.2.1.2.2.2.2.1, rwt aaa 46 3 b4 a6 a7 a3.2.1.2.2.2.2.2, rwt aaa 46 3 b5 a8 a9 a3.2.2], 9 ≤ b) : CR Tryz.prog 148 [(Vp (some ⟨b1, 0, none⟩)), (Vp (some ⟨b2, 0, none⟩))] w fun v w' => ∃ (o0 : Option Nat), ∃ (a0 : Option Addr), ∃ (cap0 : Nat), ∃ (o1 : Option Nat), ∃ (a1 : Option Addr), ∃ (cap1 : Nat), ∃ (o2 : Option Nat), ∃ (a2 : Option Addr), ∃ (cap2 : Nat), v = (Value.tuple #[(Vi .i64 r.1), (bt r.2.1)]) ∧ Hp w (aah [blk b1 [(str b0.1), (Vi .i64 b0.2)] 119, blk b2 [(str a3.1), (str a3.2.1.1), (str a3.2.1.2.1), (str a3.2.1.2.2.1), (Vi .i64 a3.2.1.2.2.2.1), (Vs a4 a3.2.1.2.2.2.2.1.length a5), (Vs a6 a3.2.1.2.2.2.2.2.length a7), (Vs a8 a3.2.2.length a9)] 70, rwt aaa 46 3 b3 a4 a5 a3.2.1.2.2.2.2.1, rwt aaa 46 3 b4 a6 a7 a3.2.1.2.2.2.2.2, rwt aaa 46 3 b5 a8 a9 a3.2.2]) [blk b1 [(str r.2.2.1.1), (Vi .i64 r.2.2.1.2)] 119, blk b2 [(str r.2.2.2.1), (str r.2.2.2.2.1.1), (str r.2.2.2.2.1.2.1), (str r.2.2.2.2.1.2.2.1), (Vi .i64 r.2.2.2.2.1.2.2.2.1), (Vs a0 r.2.2.2.2.1.2.2.2.2.1.length cap0), (Vs a1 r.2.2.2.2.1.2.2.2.2.2.length cap1), (Vs a2 r.2.2.2.2.2.length cap2)] 70, rwt aaa 46 3 o0 a0 cap0 r.2.2.2.2.1.2.2.2.2.1, rwt aaa 46 3 o1 a1 cap1 r.2.2.2.2.1.2.2.2.2.2, rwt aaa 46 3 o2 a2 cap2 r.2.2.2.2.2] w' := by
  have hH : Hp w (aah [blk b1 [(str b0.1), (Vi .i64 b0.2)] 119, blk b2 [(str a3.1), (str a3.2.1.1), (str a3.2.1.2.1), (str a3.2.1.2.2.1), (Vi .i64 a3.2.1.2.2.2.1), (Vs a4 a3.2.1.2.2.2.2.1.length a5), (Vs a6 a3.2.1.2.2.2.2.2.length a7), (Vs a8 a3.2.2.length a9)] 70, rwt aaa 46 3 b3 a4 a5 a3.2.1.2.2.2.2.1, rwt aaa 46 3 b4 a6 a7 a3.2.1.2.2.2.2.2, rwt aaa 46 3 b5 a8 a9 a3.2.2]) [blk b1 [(str b0.1), (Vi .i64 b0.2)] 119, blk b2 [(str a3.1), (str a3.2.1.1), (str a3.2.1.2.1), (str a3.2.1.2.2.1), (Vi .i64 a3.2.1.2.2.2.1), (Vs a4 a3.2.1.2.2.2.2.1.length a5), (Vs a6 a3.2.1.2.2.2.2.2.length a7), (Vs a8 a3.2.2.length a9)] 70, rwt aaa 46 3 b3 a4 a5 a3.2.1.2.2.2.2.1, rwt aaa 46 3 b4 a6 a7 a3.2.1.2.2.2.2.2, rwt aaa 46 3 b5 a8 a9 a3.2.2] w := hM
  refine enter (k := 44) Tryz.func148 rfl rfl (Nat.le_of_ble_eq_true rfl) ?_
  unfold agn at hr
  refine sr (wp 2 (nq (cs (bi hr fun y1 c4 hr => adn 16 (fun j_ w_ w_' => acj [9, 10, 11, 12, 13, 14, 15, 16] (fun w' => w'.heap[b1]? = some (.cells [(str b0.1), (Vi .i64 b0.2)].toArray 119 (0, 0))) j_ w_ w_' ∧ True) [false, false, false, false, false, false, false, false, false, false, false, false, false, false, false, false, false] (fun _ _ => ⟨acj.same, trivial⟩) (by kernel_rfl) (by kernel_rfl) hH rfl (adi aco) fun w6 b7 => rp 12 [0, 1, 2, 3] (aag [true, true, true, true, true, false, false, false, false, false, false, false, false, false, false, false, false] 4 14 (str b0.1) [9, 10, 11, 12, 13, 14, 15, 16] (fun _ _ _ h => h.1) _ rfl rfl (by kernel_rfl) (by kernel_rfl) (by kernel_rfl) (by kernel_rfl) (by kernel_rfl) rfl (aam rfl (by intro w hS_; exact (afw b1 0 [(str b0.1), (Vi .i64 b0.2)] 119 (str b0.1) hS_ rfl (by kernel_rfl) (by kernel_rfl)))) (by exact b7.blkAt 0 rfl) ?_)))))
  refine rp 8 [5, 6, 7] (aag [true, true, true, true, true, true, true, true, true, false, false, false, false, false, false, false, false] 8 18 (Vi .i64 b0.2) [9, 10, 11, 12, 13, 14, 15, 16] (fun _ _ _ h => h.1) _ rfl rfl (by kernel_rfl) (by kernel_rfl) (by kernel_rfl) (by kernel_rfl) (by kernel_rfl) rfl (aam rfl (by intro w hS_; exact (afw b1 1 [(str b0.1), (Vi .i64 b0.2)] 119 (Vi .i64 b0.2) hS_ rfl (by kernel_rfl) (by kernel_rfl)))) (by exact b7.blkAt 0 rfl) (ro 9 rfl (wc ent145 b7 (als c4 (hG.hp b7 hS)) fun w3 c1 => wl (abl (by exact ⟨acj.out rfl, trivial⟩) (rp 0 [10, 11, 12, 13, 14, 15] (acy (by kernel_rfl) (wp 1 (wl ?_))))))))
  refine qn (cs (sr (wp 1 (aeb y1.2.2 (0 : UInt8) (by kernel_rfl) (by kernel_rfl) (nq (cn hr (fun h8 hr => ?_) (fun h8 hr => ?_)))))))
  refine sr (wp 4 (nq (ct (st ?_))))
  obtain rfl := oi hr
  refine ajk (Vi .i64 y1.2.1) (bt y1.2.2) rfl (by kernel_rfl) (by kernel_rfl) ?_
  exact ⟨b3, a4, a5, b4, a6, a7, b5, a8, a9, (by first | rfl | (simp; done) | (simp; omega)), (Hp.front (Hp.front (Hp.front (Hp.front (Hp.front c1 4 _ rfl) 4 _ rfl) 4 _ rfl) 4 _ rfl) 4 _ rfl).kp⟩
  refine ck (qn (sr (wp 6 (aet c1 1 b2 0 [(str a3.1), (str a3.2.1.1), (str a3.2.1.2.1), (str a3.2.1.2.2.1), (Vi .i64 a3.2.1.2.2.2.1), (Vs a4 a3.2.1.2.2.2.2.1.length a5), (Vs a6 a3.2.1.2.2.2.2.2.length a7), (Vs a8 a3.2.2.length a9)] 70 (str y1.1) [blk b1 [(str b0.1), (Vi .i64 b0.2)] 119, blk b2 [(str y1.1), (str a3.2.1.1), (str a3.2.1.2.1), (str a3.2.1.2.2.1), (Vi .i64 a3.2.1.2.2.2.1), (Vs a4 a3.2.1.2.2.2.2.1.length a5), (Vs a6 a3.2.1.2.2.2.2.2.length a7), (Vs a8 a3.2.2.length a9)] 70, rwt aaa 46 3 b3 a4 a5 a3.2.1.2.2.2.2.1, rwt aaa 46 3 b4 a6 a7 a3.2.1.2.2.2.2.2, rwt aaa 46 3 b5 a8 a9 a3.2.2] rfl (Nat.lt_of_lt_of_le (Nat.lt_succ_self _) (Nat.le_of_ble_eq_true rfl)) (by kernel_rfl) (by kernel_rfl) rfl (by kernel_rfl) rfl fun w9 c5 => wp 2 (aet c5 0 b1 1 [(str b0.1), (Vi .i64 b0.2)] 119 (Vi .i64 y1.2.1) [blk b1 [(str b0.1), (Vi .i64 y1.2.1)] 119, blk b2 [(str y1.1), (str a3.2.1.1), (str a3.2.1.2.1), (str a3.2.1.2.2.1), (Vi .i64 a3.2.1.2.2.2.1), (Vs a4 a3.2.1.2.2.2.2.1.length a5), (Vs a6 a3.2.1.2.2.2.2.2.length a7), (Vs a8 a3.2.2.length a9)] 70, rwt aaa 46 3 b3 a4 a5 a3.2.1.2.2.2.2.1, rwt aaa 46 3 b4 a6 a7 a3.2.1.2.2.2.2.2, rwt aaa 46 3 b5 a8 a9 a3.2.2] rfl (Nat.lt_of_lt_of_le (Nat.lt_succ_self _) (Nat.le_of_ble_eq_true rfl)) (by kernel_rfl) (by kernel_rfl) rfl (by kernel_rfl) rfl fun d1 b8 => nq ?_)))))
  refine sr (wp 1 (bi hr fun b6 c6 hr => aad 111 #[] [(Vp (some ⟨b1, 0, none⟩))] _ ent111 (by kernel_rfl) (by kernel_rfl) (acz b1 c6 (hG.hp b8 hS) (b8.hand (L1 := [blk b1 [(str b0.1), (Vi .i64 y1.2.1)] 119]) (L2 := [blk b2 [(str y1.1), (str a3.2.1.1), (str a3.2.1.2.1), (str a3.2.1.2.2.1), (Vi .i64 a3.2.1.2.2.2.1), (Vs a4 a3.2.1.2.2.2.2.1.length a5), (Vs a6 a3.2.1.2.2.2.2.2.length a7), (Vs a8 a3.2.2.length a9)] 70, rwt aaa 46 3 b3 a4 a5 a3.2.1.2.2.2.2.1, rwt aaa 46 3 b4 a6 a7 a3.2.1.2.2.2.2.2, rwt aaa 46 3 b5 a8 a9 a3.2.2])) (b8.highs hG hS 1 rfl)) ?_))
  rintro _ c7 ⟨rfl, c2⟩
  have b9 : Hp w (aah [blk b1 [(str b0.1), (Vi .i64 b0.2)] 119, blk b2 [(str a3.1), (str a3.2.1.1), (str a3.2.1.2.1), (str a3.2.1.2.2.1), (Vi .i64 a3.2.1.2.2.2.1), (Vs a4 a3.2.1.2.2.2.2.1.length a5), (Vs a6 a3.2.1.2.2.2.2.2.length a7), (Vs a8 a3.2.2.length a9)] 70, rwt aaa 46 3 b3 a4 a5 a3.2.1.2.2.2.2.1, rwt aaa 46 3 b4 a6 a7 a3.2.1.2.2.2.2.2, rwt aaa 46 3 b5 a8 a9 a3.2.2]) [blk b1 [(str b6.1), (Vi .i64 b6.2)] 119, blk b2 [(str y1.1), (str a3.2.1.1), (str a3.2.1.2.1), (str a3.2.1.2.2.1), (Vi .i64 a3.2.1.2.2.2.1), (Vs a4 a3.2.1.2.2.2.2.1.length a5), (Vs a6 a3.2.1.2.2.2.2.2.length a7), (Vs a8 a3.2.2.length a9)] 70, rwt aaa 46 3 b3 a4 a5 a3.2.1.2.2.2.2.1, rwt aaa 46 3 b4 a6 a7 a3.2.1.2.2.2.2.2, rwt aaa 46 3 b5 a8 a9 a3.2.2] c7 := Hp.callK (L1 := [blk b1 [(str b0.1), (Vi .i64 y1.2.1)] 119]) (L2 := [blk b2 [(str y1.1), (str a3.2.1.1), (str a3.2.1.2.1), (str a3.2.1.2.2.1), (Vi .i64 a3.2.1.2.2.2.1), (Vs a4 a3.2.1.2.2.2.2.1.length a5), (Vs a6 a3.2.1.2.2.2.2.2.length a7), (Vs a8 a3.2.2.length a9)] 70, rwt aaa 46 3 b3 a4 a5 a3.2.1.2.2.2.2.1, rwt aaa 46 3 b4 a6 a7 a3.2.1.2.2.2.2.2, rwt aaa 46 3 b5 a8 a9 a3.2.2]) b8 c2; clear c2
  refine nq (cs (sr (wp 1 (bi hr fun d2 c8 hr => aad 113 #[] [(Vp (some ⟨b1, 0, none⟩)), (bt (60 : UInt8))] _ amf (by kernel_rfl) (by kernel_rfl) (aar b1 c8 (hG.hp b9 hS) (b9.hand (L1 := [blk b1 [(str b6.1), (Vi .i64 b6.2)] 119]) (L2 := [blk b2 [(str y1.1), (str a3.2.1.1), (str a3.2.1.2.1), (str a3.2.1.2.2.1), (Vi .i64 a3.2.1.2.2.2.1), (Vs a4 a3.2.1.2.2.2.2.1.length a5), (Vs a6 a3.2.1.2.2.2.2.2.length a7), (Vs a8 a3.2.2.length a9)] 70, rwt aaa 46 3 b3 a4 a5 a3.2.1.2.2.2.2.1, rwt aaa 46 3 b4 a6 a7 a3.2.1.2.2.2.2.2, rwt aaa 46 3 b5 a8 a9 a3.2.2])) (b9.highs hG hS 1 rfl)) ?_))))
  rintro _ c9 ⟨rfl, c3⟩
  have c0 : Hp w (aah [blk b1 [(str b0.1), (Vi .i64 b0.2)] 119, blk b2 [(str a3.1), (str a3.2.1.1), (str a3.2.1.2.1), (str a3.2.1.2.2.1), (Vi .i64 a3.2.1.2.2.2.1), (Vs a4 a3.2.1.2.2.2.2.1.length a5), (Vs a6 a3.2.1.2.2.2.2.2.length a7), (Vs a8 a3.2.2.length a9)] 70, rwt aaa 46 3 b3 a4 a5 a3.2.1.2.2.2.2.1, rwt aaa 46 3 b4 a6 a7 a3.2.1.2.2.2.2.2, rwt aaa 46 3 b5 a8 a9 a3.2.2]) [blk b1 [(str b6.1), (Vi .i64 b6.2)] 119, blk b2 [(str y1.1), (str a3.2.1.1), (str a3.2.1.2.1), (str a3.2.1.2.2.1), (Vi .i64 a3.2.1.2.2.2.1), (Vs a4 a3.2.1.2.2.2.2.1.length a5), (Vs a6 a3.2.1.2.2.2.2.2.length a7), (Vs a8 a3.2.2.length a9)] 70, rwt aaa 46 3 b3 a4 a5 a3.2.1.2.2.2.2.1, rwt aaa 46 3 b4 a6 a7 a3.2.1.2.2.2.2.2, rwt aaa 46 3 b5 a8 a9 a3.2.2] c9 := Hp.callK (L1 := [blk b1 [(str b6.1), (Vi .i64 b6.2)] 119]) (L2 := [blk b2 [(str y1.1), (str a3.2.1.1), (str a3.2.1.2.1), (str a3.2.1.2.2.1), (Vi .i64 a3.2.1.2.2.2.1), (Vs a4 a3.2.1.2.2.2.2.1.length a5), (Vs a6 a3.2.1.2.2.2.2.2.length a7), (Vs a8 a3.2.2.length a9)] 70, rwt aaa 46 3 b3 a4 a5 a3.2.1.2.2.2.2.1, rwt aaa 46 3 b4 a6 a7 a3.2.1.2.2.2.2.2, rwt aaa 46 3 b5 a8 a9 a3.2.2]) b9 c3; clear c3
  refine wp 1 (nq (cb hr (fun d0 hr => ?_) (fun d0 hr => ?_)))
  refine sr (wp 3 (aav c0 0 b1 1 [(str b6.1), (Vi .i64 b6.2)] 119 (Vi .i64 b6.2) rfl rfl (by kernel_rfl) (by kernel_rfl) (wp 2 (nq (ct (st ?_))))))
  obtain rfl := oi hr
  refine ajk (Vi .i64 b6.2) (bt (5 : UInt8)) rfl (by kernel_rfl) (by kernel_rfl) ?_
  exact ⟨b3, a4, a5, b4, a6, a7, b5, a8, a9, (by first | rfl | (simp; done) | (simp; omega)), (Hp.front (Hp.front (Hp.front (Hp.front (Hp.front c0 4 _ rfl) 4 _ rfl) 4 _ rfl) 4 _ rfl) 4 _ rfl).kp⟩
  refine ck (qn (sr (wp 2 (nq (ct ?_)))))
  obtain rfl := oi hr
  refine ajk (Vi .i64 (0 : Int)) (bt (0 : UInt8)) rfl (by kernel_rfl) (by kernel_rfl) ?_
  exact ⟨b3, a4, a5, b4, a6, a7, b5, a8, a9, (by first | rfl | (simp; done) | (simp; omega)), (Hp.front (Hp.front (Hp.front (Hp.front (Hp.front c0 4 _ rfl) 4 _ rfl) 4 _ rfl) 4 _ rfl) 4 _ rfl).kp⟩
theorem ahx {fu : Nat} {a0 : (Str × Int)} (a1 : Nat) {w : World} {r : (Str × (Str × Int))} (hr : afi fu a0 = some r) (hG : Gl w) (hM : Hp w (aah [blk a1 [(str a0.1), (Vi .i64 a0.2)] 119]) [blk a1 [(str a0.1), (Vi .i64 a0.2)] 119] w) (hS : ∀ b ∈ aah [blk a1 [(str a0.1), (Vi .i64 a0.2)] 119], 9 ≤ b) : CR Tryz.prog 176 [(Vp (some ⟨a1, 0, none⟩))] w fun v w' => v = (str r.1) ∧ Hp w (aah [blk a1 [(str a0.1), (Vi .i64 a0.2)] 119]) [blk a1 [(str r.2.1), (Vi .i64 r.2.2)] 119] w' := by
  have hH : Hp w (aah [blk a1 [(str a0.1), (Vi .i64 a0.2)] 119]) [blk a1 [(str a0.1), (Vi .i64 a0.2)] 119] w := hM
  refine enter (k := 29) Tryz.func176 rfl rfl (Nat.le_of_ble_eq_true rfl) ?_
  unfold afi at hr
  refine sr (wp 1 (nq (sr (wp 3 (aav hH 0 a1 1 [(str a0.1), (Vi .i64 a0.2)] 119 (Vi .i64 a0.2) rfl rfl (by kernel_rfl) (by kernel_rfl) (wp 1 ?_))))))
  refine nq (sr (wp 5 (aav hH 0 a1 0 [(str a0.1), (Vi .i64 a0.2)] 119 (str a0.1) rfl rfl (by kernel_rfl) (by kernel_rfl) (wp 1 (bi hr fun y1 a3 hr => wc ent54 hH (aha a3 (hG.hp hH hS)) fun w3 a4 => wp 2 ?_)))))
  refine aet a4 0 a1 1 [(str a0.1), (Vi .i64 a0.2)] 119 (Vi .i64 y1) [blk a1 [(str a0.1), (Vi .i64 y1)] 119] rfl (Nat.lt_of_lt_of_le (Nat.lt_succ_self _) (Nat.le_of_ble_eq_true rfl)) (by kernel_rfl) (by kernel_rfl) rfl (by kernel_rfl) rfl fun w6 a5 => nq (cs (adn 10 (fun j_ w_ w_' => acj [10, 11] (fun w' => w'.heap[a1]? = some (.cells [(str a0.1), (Vi .i64 y1)].toArray 119 (0, 0))) j_ w_ w_' ∧ True) [false, false, false, false, false, false, false, false, false, false, false, false] (fun _ _ => ⟨acj.same, trivial⟩) (by kernel_rfl) (by kernel_rfl) a5 rfl (adi aco) fun w8 a2 => rp 6 [0, 1, 2, 3] (aag [true, true, true, true, true, false, false, false, false, false, false, false] 4 22 (str a0.1) [10, 11] (fun _ _ _ h => h.1) _ rfl rfl (by kernel_rfl) (by kernel_rfl) (by kernel_rfl) (by kernel_rfl) (by kernel_rfl) rfl (aam rfl (by intro w hS_; exact (afw a1 0 [(str a0.1), (Vi .i64 y1)] 119 (str a0.1) hS_ rfl (by kernel_rfl) (by kernel_rfl)))) (by exact a2.blkAt 0 rfl) (rp 1 [5, 6, 7, 8] (aag [true, true, true, true, true, true, true, true, true, true, false, false] 9 27 (Vi .i64 y1) [10, 11] (fun _ _ _ h => h.1) _ rfl rfl (by kernel_rfl) (by kernel_rfl) (by kernel_rfl) (by kernel_rfl) (by kernel_rfl) rfl (aam rfl (by intro w hS_; exact (afw a1 1 [(str a0.1), (Vi .i64 y1)] 119 (Vi .i64 y1) hS_ rfl (by kernel_rfl) (by kernel_rfl)))) (by exact a2.blkAt 0 rfl) (acy (by kernel_rfl) ?_))))))
  refine gi hr fun a6 hr => ani a0.1 .i64 .i64 a0.2 y1 Tryz.underlying9 (by kernel_rfl) (by kernel_rfl) (by kernel_rfl) a6 (wp 1 (nq (ct ?_)))
  obtain rfl := oi hr
  refine ano (str (sub a0.1 a0.2 y1)) rfl (by kernel_rfl) ?_
  exact ⟨(by first | rfl | (simp; done) | (simp; omega)), a2.kp⟩
theorem amo {fu : Nat} {b2 : (Str × Int)} {a3 : (Str × (Str × Str × Str × Int × (List (Str × Str × Bool)) × (List (Str × Str × Bool))) × (List (Str × Str × Bool)))} (b0 : Nat) (b1 : Nat) (b3 : Option Nat) (a4 : Option Addr) (a5 : Nat) (b4 : Option Nat) (a6 : Option Addr) (a7 : Nat) (b5 : Option Nat) (a8 : Option Addr) (a9 : Nat) {w : World} {r : (Int × UInt8 × (Str × Int) × (Str × (Str × Str × Str × Int × (List (Str × Str × Bool)) × (List (Str × Str × Bool))) × (List (Str × Str × Bool))))} (hr : agr fu b2 a3 = some r) (hG : Gl w) (hM : Hp w (aah [blk b0 [(str b2.1), (Vi .i64 b2.2)] 119, blk b1 [(str a3.1), (str a3.2.1.1), (str a3.2.1.2.1), (str a3.2.1.2.2.1), (Vi .i64 a3.2.1.2.2.2.1), (Vs a4 a3.2.1.2.2.2.2.1.length a5), (Vs a6 a3.2.1.2.2.2.2.2.length a7), (Vs a8 a3.2.2.length a9)] 70, rwt aaa 46 3 b3 a4 a5 a3.2.1.2.2.2.2.1, rwt aaa 46 3 b4 a6 a7 a3.2.1.2.2.2.2.2, rwt aaa 46 3 b5 a8 a9 a3.2.2]) [blk b0 [(str b2.1), (Vi .i64 b2.2)] 119, blk b1 [(str a3.1), (str a3.2.1.1), (str a3.2.1.2.1), (str a3.2.1.2.2.1), (Vi .i64 a3.2.1.2.2.2.1), (Vs a4 a3.2.1.2.2.2.2.1.length a5), (Vs a6 a3.2.1.2.2.2.2.2.length a7), (Vs a8 a3.2.2.length a9)] 70, rwt aaa 46 3 b3 a4 a5 a3.2.1.2.2.2.2.1, rwt aaa 46 3 b4 a6 a7 a3.2.1.2.2.2.2.2, rwt aaa 46 3 b5 a8 a9 a3.2.2] w) (hS : ∀ b ∈ aah [blk b0 [(str b2.1), (Vi .i64 b2.2)] 119, blk b1 [(str a3.1), (str a3.2.1.1), (str a3.2.1.2.1), (str a3.2.1.2.2.1), (Vi .i64 a3.2.1.2.2.2.1), (Vs a4 a3.2.1.2.2.2.2.1.length a5), (Vs a6 a3.2.1.2.2.2.2.2.length a7), (Vs a8 a3.2.2.length a9)] 70, rwt aaa 46 3 b3 a4 a5 a3.2.1.2.2.2.2.1, rwt aaa 46 3 b4 a6 a7 a3.2.1.2.2.2.2.2, rwt aaa 46 3 b5 a8 a9 a3.2.2], 9 ≤ b) : CR Tryz.prog 149 [(Vp (some ⟨b0, 0, none⟩)), (Vp (some ⟨b1, 0, none⟩))] w fun v w' => ∃ (o0 : Option Nat), ∃ (a0 : Option Addr), ∃ (cap0 : Nat), ∃ (o1 : Option Nat), ∃ (a1 : Option Addr), ∃ (cap1 : Nat), ∃ (o2 : Option Nat), ∃ (a2 : Option Addr), ∃ (cap2 : Nat), v = (Value.tuple #[(Vi .i64 r.1), (bt r.2.1)]) ∧ Hp w (aah [blk b0 [(str b2.1), (Vi .i64 b2.2)] 119, blk b1 [(str a3.1), (str a3.2.1.1), (str a3.2.1.2.1), (str a3.2.1.2.2.1), (Vi .i64 a3.2.1.2.2.2.1), (Vs a4 a3.2.1.2.2.2.2.1.length a5), (Vs a6 a3.2.1.2.2.2.2.2.length a7), (Vs a8 a3.2.2.length a9)] 70, rwt aaa 46 3 b3 a4 a5 a3.2.1.2.2.2.2.1, rwt aaa 46 3 b4 a6 a7 a3.2.1.2.2.2.2.2, rwt aaa 46 3 b5 a8 a9 a3.2.2]) [blk b0 [(str r.2.2.1.1), (Vi .i64 r.2.2.1.2)] 119, blk b1 [(str r.2.2.2.1), (str r.2.2.2.2.1.1), (str r.2.2.2.2.1.2.1), (str r.2.2.2.2.1.2.2.1), (Vi .i64 r.2.2.2.2.1.2.2.2.1), (Vs a0 r.2.2.2.2.1.2.2.2.2.1.length cap0), (Vs a1 r.2.2.2.2.1.2.2.2.2.2.length cap1), (Vs a2 r.2.2.2.2.2.length cap2)] 70, rwt aaa 46 3 o0 a0 cap0 r.2.2.2.2.1.2.2.2.2.1, rwt aaa 46 3 o1 a1 cap1 r.2.2.2.2.1.2.2.2.2.2, rwt aaa 46 3 o2 a2 cap2 r.2.2.2.2.2] w' := by
  have hH : Hp w (aah [blk b0 [(str b2.1), (Vi .i64 b2.2)] 119, blk b1 [(str a3.1), (str a3.2.1.1), (str a3.2.1.2.1), (str a3.2.1.2.2.1), (Vi .i64 a3.2.1.2.2.2.1), (Vs a4 a3.2.1.2.2.2.2.1.length a5), (Vs a6 a3.2.1.2.2.2.2.2.length a7), (Vs a8 a3.2.2.length a9)] 70, rwt aaa 46 3 b3 a4 a5 a3.2.1.2.2.2.2.1, rwt aaa 46 3 b4 a6 a7 a3.2.1.2.2.2.2.2, rwt aaa 46 3 b5 a8 a9 a3.2.2]) [blk b0 [(str b2.1), (Vi .i64 b2.2)] 119, blk b1 [(str a3.1), (str a3.2.1.1), (str a3.2.1.2.1), (str a3.2.1.2.2.1), (Vi .i64 a3.2.1.2.2.2.1), (Vs a4 a3.2.1.2.2.2.2.1.length a5), (Vs a6 a3.2.1.2.2.2.2.2.length a7), (Vs a8 a3.2.2.length a9)] 70, rwt aaa 46 3 b3 a4 a5 a3.2.1.2.2.2.2.1, rwt aaa 46 3 b4 a6 a7 a3.2.1.2.2.2.2.2, rwt aaa 46 3 b5 a8 a9 a3.2.2] w := hM
  refine enter (k := 30) Tryz.func149 rfl rfl (Nat.le_of_ble_eq_true rfl) ?_
  unfold agr at hr
  refine sr (wp 2 (nq (sr (wp 1 (nq ?_)))))
  refine bi hr fun e0 e7 hr => cut (σ := ((List Str) × Str × Int) × (Option Nat) × (Option Addr) × Nat) [1, 4, 5, 6] (fun ⟨b9, d3, c5, c6⟩ => [(6, (Vs c5 b9.1.length c6))]) (fun ⟨b9, d3, c5, c6⟩ w' => Hp w (aah [blk b0 [(str b2.1), (Vi .i64 b2.2)] 119, blk b1 [(str a3.1), (str a3.2.1.1), (str a3.2.1.2.1), (str a3.2.1.2.2.1), (Vi .i64 a3.2.1.2.2.2.1), (Vs a4 a3.2.1.2.2.2.2.1.length a5), (Vs a6 a3.2.1.2.2.2.2.2.length a7), (Vs a8 a3.2.2.length a9)] 70, rwt aaa 46 3 b3 a4 a5 a3.2.1.2.2.2.2.1, rwt aaa 46 3 b4 a6 a7 a3.2.1.2.2.2.2.2, rwt aaa 46 3 b5 a8 a9 a3.2.2]) [blk b0 [(str b9.2.1), (Vi .i64 b9.2.2)] 119, blk b1 [(str a3.1), (str a3.2.1.1), (str a3.2.1.2.1), (str a3.2.1.2.2.1), (Vi .i64 a3.2.1.2.2.2.1), (Vs a4 a3.2.1.2.2.2.2.1.length a5), (Vs a6 a3.2.1.2.2.2.2.2.length a7), (Vs a8 a3.2.2.length a9)] 70, rwt aaa 46 3 b3 a4 a5 a3.2.1.2.2.2.2.1, rwt aaa 46 3 b4 a6 a7 a3.2.1.2.2.2.2.2, rwt aaa 46 3 b5 a8 a9 a3.2.2, rwt eS 9 1 d3 c5 c6 b9.1] w' ∧ .inl b9 = e0) ?_ ?_
  refine ce (lpG (σ := Nat × (List Str) × Str × Int × (Option Nat) × (Option Addr) × Nat) [0, 1, 4, 5, 6] (fun ⟨c8, b7, c3, c4, c2, c0, c1⟩ => [(6, (Vs c0 b7.length c1))]) (fun ⟨c8, b7, c3, c4, c2, c0, c1⟩ w' => Hp w (aah [blk b0 [(str b2.1), (Vi .i64 b2.2)] 119, blk b1 [(str a3.1), (str a3.2.1.1), (str a3.2.1.2.1), (str a3.2.1.2.2.1), (Vi .i64 a3.2.1.2.2.2.1), (Vs a4 a3.2.1.2.2.2.2.1.length a5), (Vs a6 a3.2.1.2.2.2.2.2.length a7), (Vs a8 a3.2.2.length a9)] 70, rwt aaa 46 3 b3 a4 a5 a3.2.1.2.2.2.2.1, rwt aaa 46 3 b4 a6 a7 a3.2.1.2.2.2.2.2, rwt aaa 46 3 b5 a8 a9 a3.2.2]) [blk b0 [(str c3), (Vi .i64 c4)] 119, blk b1 [(str a3.1), (str a3.2.1.1), (str a3.2.1.2.1), (str a3.2.1.2.2.1), (Vi .i64 a3.2.1.2.2.2.1), (Vs a4 a3.2.1.2.2.2.2.1.length a5), (Vs a6 a3.2.1.2.2.2.2.2.length a7), (Vs a8 a3.2.2.length a9)] 70, rwt aaa 46 3 b3 a4 a5 a3.2.1.2.2.2.2.1, rwt aaa 46 3 b4 a6 a7 a3.2.1.2.2.2.2.2, rwt aaa 46 3 b5 a8 a9 a3.2.2, rwt eS 9 1 c2 c0 c1 b7] w' ∧ aeh fu a3 c8 b7 c3 c4 = some e0) (fun ⟨c8, b7, c3, c4, c2, c0, c1⟩ => c8) (fu, ([] : List Str), b2.1, b2.2, none, none, 0) (by exact ⟨(Hp.front (Hp.front (Hp.front (Hp.front (Hp.front (Hp.nilrw hH eS 9 1 none) 5 _ rfl) 5 _ rfl) 5 _ rfl) 5 _ rfl) 5 _ rfl).kp, e7⟩) ?_ (mc (by kernel_rfl) (mc (by kernel_rfl) (mc (by kernel_rfl) (mc (by kernel_rfl) (mc (Eq.trans (b := (Vs none 0 0)) (by kernel_rfl) (aae (by (try simp only [List.length_set]) <;> first | rfl | omega | simp))) rfl))))))
  rintro ⟨_ | c8, b7, c3, c4, c2, c0, c1⟩ g2 G ⟨d4, b8⟩
  · exact absurd (show none = some _ from b8) (by simp)
  rw [aeh.eq_2] at b8
  refine cs (sr (wp 1 (bi b8 fun g3 e8 b8 => aad 113 #[] [(Vp (some ⟨b0, 0, none⟩)), (bt (60 : UInt8))] _ amf (by kernel_rfl) (by kernel_rfl) (aar b0 e8 (hG.hp d4 hS) (d4.hand (L1 := [blk b0 [(str c3), (Vi .i64 c4)] 119]) (L2 := [blk b1 [(str a3.1), (str a3.2.1.1), (str a3.2.1.2.1), (str a3.2.1.2.2.1), (Vi .i64 a3.2.1.2.2.2.1), (Vs a4 a3.2.1.2.2.2.2.1.length a5), (Vs a6 a3.2.1.2.2.2.2.2.length a7), (Vs a8 a3.2.2.length a9)] 70, rwt aaa 46 3 b3 a4 a5 a3.2.1.2.2.2.2.1, rwt aaa 46 3 b4 a6 a7 a3.2.1.2.2.2.2.2, rwt aaa 46 3 b5 a8 a9 a3.2.2, rwt eS 9 1 c2 c0 c1 b7])) (d4.highs hG hS 1 rfl)) ?_)))
  rintro _ e9 ⟨rfl, e1⟩
  have d2 : Hp w (aah [blk b0 [(str b2.1), (Vi .i64 b2.2)] 119, blk b1 [(str a3.1), (str a3.2.1.1), (str a3.2.1.2.1), (str a3.2.1.2.2.1), (Vi .i64 a3.2.1.2.2.2.1), (Vs a4 a3.2.1.2.2.2.2.1.length a5), (Vs a6 a3.2.1.2.2.2.2.2.length a7), (Vs a8 a3.2.2.length a9)] 70, rwt aaa 46 3 b3 a4 a5 a3.2.1.2.2.2.2.1, rwt aaa 46 3 b4 a6 a7 a3.2.1.2.2.2.2.2, rwt aaa 46 3 b5 a8 a9 a3.2.2]) [blk b0 [(str c3), (Vi .i64 c4)] 119, blk b1 [(str a3.1), (str a3.2.1.1), (str a3.2.1.2.1), (str a3.2.1.2.2.1), (Vi .i64 a3.2.1.2.2.2.1), (Vs a4 a3.2.1.2.2.2.2.1.length a5), (Vs a6 a3.2.1.2.2.2.2.2.length a7), (Vs a8 a3.2.2.length a9)] 70, rwt aaa 46 3 b3 a4 a5 a3.2.1.2.2.2.2.1, rwt aaa 46 3 b4 a6 a7 a3.2.1.2.2.2.2.2, rwt aaa 46 3 b5 a8 a9 a3.2.2, rwt eS 9 1 c2 c0 c1 b7] e9 := Hp.callK (L1 := [blk b0 [(str c3), (Vi .i64 c4)] 119]) (L2 := [blk b1 [(str a3.1), (str a3.2.1.1), (str a3.2.1.2.1), (str a3.2.1.2.2.1), (Vi .i64 a3.2.1.2.2.2.1), (Vs a4 a3.2.1.2.2.2.2.1.length a5), (Vs a6 a3.2.1.2.2.2.2.2.length a7), (Vs a8 a3.2.2.length a9)] 70, rwt aaa 46 3 b3 a4 a5 a3.2.1.2.2.2.2.1, rwt aaa 46 3 b4 a6 a7 a3.2.1.2.2.2.2.2, rwt aaa 46 3 b5 a8 a9 a3.2.2, rwt eS 9 1 c2 c0 c1 b7]) d4 e1; clear e1
  refine wp 1 (nq (cb b8 (fun f0 b8 => ?_) (fun f0 b8 => ?_)))
  refine ck (qn (ce (sr (wp 1 (bi b8 fun b6 f1 b8 => aad 176 #[] [(Vp (some ⟨b0, 0, none⟩))] _ ent176 (by kernel_rfl) (by kernel_rfl) (ahx b0 f1 (hG.hp d2 hS) (d2.hand (L1 := [blk b0 [(str c3), (Vi .i64 c4)] 119]) (L2 := [blk b1 [(str a3.1), (str a3.2.1.1), (str a3.2.1.2.1), (str a3.2.1.2.2.1), (Vi .i64 a3.2.1.2.2.2.1), (Vs a4 a3.2.1.2.2.2.2.1.length a5), (Vs a6 a3.2.1.2.2.2.2.2.length a7), (Vs a8 a3.2.2.length a9)] 70, rwt aaa 46 3 b3 a4 a5 a3.2.1.2.2.2.2.1, rwt aaa 46 3 b4 a6 a7 a3.2.1.2.2.2.2.2, rwt aaa 46 3 b5 a8 a9 a3.2.2, rwt eS 9 1 c2 c0 c1 b7])) (d2.highs hG hS 1 rfl)) ?_)))))
  rintro _ f2 ⟨rfl, e2⟩
  have d7 : Hp w (aah [blk b0 [(str b2.1), (Vi .i64 b2.2)] 119, blk b1 [(str a3.1), (str a3.2.1.1), (str a3.2.1.2.1), (str a3.2.1.2.2.1), (Vi .i64 a3.2.1.2.2.2.1), (Vs a4 a3.2.1.2.2.2.2.1.length a5), (Vs a6 a3.2.1.2.2.2.2.2.length a7), (Vs a8 a3.2.2.length a9)] 70, rwt aaa 46 3 b3 a4 a5 a3.2.1.2.2.2.2.1, rwt aaa 46 3 b4 a6 a7 a3.2.1.2.2.2.2.2, rwt aaa 46 3 b5 a8 a9 a3.2.2]) [blk b0 [(str b6.2.1), (Vi .i64 b6.2.2)] 119, blk b1 [(str a3.1), (str a3.2.1.1), (str a3.2.1.2.1), (str a3.2.1.2.2.1), (Vi .i64 a3.2.1.2.2.2.1), (Vs a4 a3.2.1.2.2.2.2.1.length a5), (Vs a6 a3.2.1.2.2.2.2.2.length a7), (Vs a8 a3.2.2.length a9)] 70, rwt aaa 46 3 b3 a4 a5 a3.2.1.2.2.2.2.1, rwt aaa 46 3 b4 a6 a7 a3.2.1.2.2.2.2.2, rwt aaa 46 3 b5 a8 a9 a3.2.2, rwt eS 9 1 c2 c0 c1 b7] f2 := Hp.callK (L1 := [blk b0 [(str c3), (Vi .i64 c4)] 119]) (L2 := [blk b1 [(str a3.1), (str a3.2.1.1), (str a3.2.1.2.1), (str a3.2.1.2.2.1), (Vi .i64 a3.2.1.2.2.2.1), (Vs a4 a3.2.1.2.2.2.2.1.length a5), (Vs a6 a3.2.1.2.2.2.2.2.length a7), (Vs a8 a3.2.2.length a9)] 70, rwt aaa 46 3 b3 a4 a5 a3.2.1.2.2.2.2.1, rwt aaa 46 3 b4 a6 a7 a3.2.1.2.2.2.2.2, rwt aaa 46 3 b5 a8 a9 a3.2.2, rwt eS 9 1 c2 c0 c1 b7]) d2 e2; clear e2
  refine wp 1 (nq (cs (sr (wp 2 (nq (cd b8 (fun f3 b8 => ?_) (fun f3 b8 => ?_)))))))
  refine sr (wp 3 (aav d7 0 b0 1 [(str b6.2.1), (Vi .i64 b6.2.2)] 119 (Vi .i64 b6.2.2) rfl rfl (by kernel_rfl) (by kernel_rfl) (wp 2 (nq (ct (st (bt_ ?_)))))))
  refine ach (bt_ (ach ?_))
  obtain rfl := oi b8
  obtain rfl := oi hr
  refine ajk (Vi .i64 b6.2.2) (bt (5 : UInt8)) rfl (by kernel_rfl) (by kernel_rfl) ?_
  exact ⟨b3, a4, a5, b4, a6, a7, b5, a8, a9, (by first | rfl | (simp; done) | (simp; omega)), (Hp.front (Hp.front (Hp.front (Hp.front (Hp.front d7 4 _ rfl) 4 _ rfl) 4 _ rfl) 4 _ rfl) 4 _ rfl).kp⟩
  refine ck (qn (sr (wp 2 (acx d7 [(str b6.1)] 9 (fun b => (Vs (some ⟨b, 0, none⟩) 1 1)) rfl rfl (by kernel_rfl) fun c7 g4 e3 => gi b8 fun f4 b8 => adu e3 6 c2 c0 (some ⟨c7, 0, none⟩) c1 1 9 1 16 b7 ([b6.1] : List Str) alw rfl Tryz.underlying54 (by unfold TI; kernel_rfl) (by decide) (by decide) (by kernel_rfl) (Eq.trans (b := (Vs (some ⟨c7, 0, none⟩) 1 1)) (by kernel_rfl) (aae (by first | rfl | (simp; done) | omega | (simp; omega) | (rw [List.length_take]; omega)))) (e3.rdblk 0 rfl) f4 fun c9 d0 d1 e4 d8 => ?_))))
  replace d8 : Hp w (aah [blk b0 [(str b2.1), (Vi .i64 b2.2)] 119, blk b1 [(str a3.1), (str a3.2.1.1), (str a3.2.1.2.1), (str a3.2.1.2.2.1), (Vi .i64 a3.2.1.2.2.2.1), (Vs a4 a3.2.1.2.2.2.2.1.length a5), (Vs a6 a3.2.1.2.2.2.2.2.length a7), (Vs a8 a3.2.2.length a9)] 70, rwt aaa 46 3 b3 a4 a5 a3.2.1.2.2.2.2.1, rwt aaa 46 3 b4 a6 a7 a3.2.1.2.2.2.2.2, rwt aaa 46 3 b5 a8 a9 a3.2.2]) [blk c7 [(str b6.1)] 9, blk b0 [(str b6.2.1), (Vi .i64 b6.2.2)] 119, blk b1 [(str a3.1), (str a3.2.1.1), (str a3.2.1.2.1), (str a3.2.1.2.2.1), (Vi .i64 a3.2.1.2.2.2.1), (Vs a4 a3.2.1.2.2.2.2.1.length a5), (Vs a6 a3.2.1.2.2.2.2.2.length a7), (Vs a8 a3.2.2.length a9)] 70, rwt aaa 46 3 b3 a4 a5 a3.2.1.2.2.2.2.1, rwt aaa 46 3 b4 a6 a7 a3.2.1.2.2.2.2.2, rwt aaa 46 3 b5 a8 a9 a3.2.2, rwt eS 9 1 c9 d0 d1 (b7 ++ ([b6.1] : List Str))] e4 := d8
  refine wp 1 (nq (cr (wp 1 (bi b8 fun d5 f5 b8 => ?_))))
  have d6 : Hp w (aah [blk b0 [(str b2.1), (Vi .i64 b2.2)] 119, blk b1 [(str a3.1), (str a3.2.1.1), (str a3.2.1.2.1), (str a3.2.1.2.2.1), (Vi .i64 a3.2.1.2.2.2.1), (Vs a4 a3.2.1.2.2.2.2.1.length a5), (Vs a6 a3.2.1.2.2.2.2.2.length a7), (Vs a8 a3.2.2.length a9)] 70, rwt aaa 46 3 b3 a4 a5 a3.2.1.2.2.2.2.1, rwt aaa 46 3 b4 a6 a7 a3.2.1.2.2.2.2.2, rwt aaa 46 3 b5 a8 a9 a3.2.2]) [blk b0 [(str b6.2.1), (Vi .i64 b6.2.2)] 119, blk c7 [(str b6.1)] 9, blk b1 [(str a3.1), (str a3.2.1.1), (str a3.2.1.2.1), (str a3.2.1.2.2.1), (Vi .i64 a3.2.1.2.2.2.1), (Vs a4 a3.2.1.2.2.2.2.1.length a5), (Vs a6 a3.2.1.2.2.2.2.2.length a7), (Vs a8 a3.2.2.length a9)] 70, rwt aaa 46 3 b3 a4 a5 a3.2.1.2.2.2.2.1, rwt aaa 46 3 b4 a6 a7 a3.2.1.2.2.2.2.2, rwt aaa 46 3 b5 a8 a9 a3.2.2, rwt eS 9 1 c9 d0 d1 (b7 ++ ([b6.1] : List Str))] e4 := d8.front 1 _ rfl
  refine aad 111 #[] [(Vp (some ⟨b0, 0, none⟩))] _ ent111 (by kernel_rfl) (by kernel_rfl) (acz b0 f5 (hG.hp d6 hS) (d6.hand (L1 := [blk b0 [(str b6.2.1), (Vi .i64 b6.2.2)] 119]) (L2 := [blk c7 [(str b6.1)] 9, blk b1 [(str a3.1), (str a3.2.1.1), (str a3.2.1.2.1), (str a3.2.1.2.2.1), (Vi .i64 a3.2.1.2.2.2.1), (Vs a4 a3.2.1.2.2.2.2.1.length a5), (Vs a6 a3.2.1.2.2.2.2.2.length a7), (Vs a8 a3.2.2.length a9)] 70, rwt aaa 46 3 b3 a4 a5 a3.2.1.2.2.2.2.1, rwt aaa 46 3 b4 a6 a7 a3.2.1.2.2.2.2.2, rwt aaa 46 3 b5 a8 a9 a3.2.2, rwt eS 9 1 c9 d0 d1 (b7 ++ ([b6.1] : List Str))])) (d6.highs hG hS 1 rfl)) ?_
  rintro _ f6 ⟨rfl, e5⟩
  have f7 : Hp w (aah [blk b0 [(str b2.1), (Vi .i64 b2.2)] 119, blk b1 [(str a3.1), (str a3.2.1.1), (str a3.2.1.2.1), (str a3.2.1.2.2.1), (Vi .i64 a3.2.1.2.2.2.1), (Vs a4 a3.2.1.2.2.2.2.1.length a5), (Vs a6 a3.2.1.2.2.2.2.2.length a7), (Vs a8 a3.2.2.length a9)] 70, rwt aaa 46 3 b3 a4 a5 a3.2.1.2.2.2.2.1, rwt aaa 46 3 b4 a6 a7 a3.2.1.2.2.2.2.2, rwt aaa 46 3 b5 a8 a9 a3.2.2]) [blk b0 [(str d5.1), (Vi .i64 d5.2)] 119, blk c7 [(str b6.1)] 9, blk b1 [(str a3.1), (str a3.2.1.1), (str a3.2.1.2.1), (str a3.2.1.2.2.1), (Vi .i64 a3.2.1.2.2.2.1), (Vs a4 a3.2.1.2.2.2.2.1.length a5), (Vs a6 a3.2.1.2.2.2.2.2.length a7), (Vs a8 a3.2.2.length a9)] 70, rwt aaa 46 3 b3 a4 a5 a3.2.1.2.2.2.2.1, rwt aaa 46 3 b4 a6 a7 a3.2.1.2.2.2.2.2, rwt aaa 46 3 b5 a8 a9 a3.2.2, rwt eS 9 1 c9 d0 d1 (b7 ++ ([b6.1] : List Str))] f6 := Hp.callK (L1 := [blk b0 [(str b6.2.1), (Vi .i64 b6.2.2)] 119]) (L2 := [blk c7 [(str b6.1)] 9, blk b1 [(str a3.1), (str a3.2.1.1), (str a3.2.1.2.1), (str a3.2.1.2.2.1), (Vi .i64 a3.2.1.2.2.2.1), (Vs a4 a3.2.1.2.2.2.2.1.length a5), (Vs a6 a3.2.1.2.2.2.2.2.length a7), (Vs a8 a3.2.2.length a9)] 70, rwt aaa 46 3 b3 a4 a5 a3.2.1.2.2.2.2.1, rwt aaa 46 3 b4 a6 a7 a3.2.1.2.2.2.2.2, rwt aaa 46 3 b5 a8 a9 a3.2.2, rwt eS 9 1 c9 d0 d1 (b7 ++ ([b6.1] : List Str))]) d6 e5; clear e5
  refine wl (bn (ql ?_))
  exact ⟨(c8, b7 ++ ([b6.1] : List Str), d5.1, d5.2, c9, d0, d1), _, rfl, by kernel_rfl, ⟨(Hp.front (Hp.front (Hp.front (Hp.front (Hp.front (Hp.front f7 6 _ rfl) 6 _ rfl) 6 _ rfl) 6 _ rfl) 6 _ rfl) 5 _ rfl).kp, b8⟩, Nat.lt_succ_self _⟩
  refine acc (acb (aci (acd (ql ?_))))
  obtain rfl := oi b8
  exact ⟨((b7, c3, c4), c2, c0, c1), _, rfl, by kernel_rfl, (Hp.front (Hp.front (Hp.front (Hp.front (Hp.front (Hp.front d2 5 _ rfl) 5 _ rfl) 5 _ rfl) 5 _ rfl) 5 _ rfl) 5 _ rfl).kp, rfl⟩
  rintro ⟨b9, d3, c5, c6⟩ f8 G ⟨d9, rfl⟩
  refine sr (wp 2 (gi hr fun f9 hr => aad 80 #[] [(Vs c5 b9.1.length c6), (str ([32] : Str))] _ ent80 (by kernel_rfl) (by kernel_rfl) (sh_Join ([32] : Str) f8 c5 b9.1.length c6 b9.1 rfl (d9.rdrw 5 rfl) (d9.rwcap 5 rfl) f9) ?_))
  rintro _ g5 ⟨rfl, e6⟩
  have g0 := d9.call e6; clear e6
  refine wp 2 (aet g0 1 b1 0 [(str a3.1), (str a3.2.1.1), (str a3.2.1.2.1), (str a3.2.1.2.2.1), (Vi .i64 a3.2.1.2.2.2.1), (Vs a4 a3.2.1.2.2.2.2.1.length a5), (Vs a6 a3.2.1.2.2.2.2.2.length a7), (Vs a8 a3.2.2.length a9)] 70 (str (Lib.join b9.1 ([32] : Str))) [blk b0 [(str b9.2.1), (Vi .i64 b9.2.2)] 119, blk b1 [(str (Lib.join b9.1 ([32] : Str))), (str a3.2.1.1), (str a3.2.1.2.1), (str a3.2.1.2.2.1), (Vi .i64 a3.2.1.2.2.2.1), (Vs a4 a3.2.1.2.2.2.2.1.length a5), (Vs a6 a3.2.1.2.2.2.2.2.length a7), (Vs a8 a3.2.2.length a9)] 70, rwt aaa 46 3 b3 a4 a5 a3.2.1.2.2.2.2.1, rwt aaa 46 3 b4 a6 a7 a3.2.1.2.2.2.2.2, rwt aaa 46 3 b5 a8 a9 a3.2.2, rwt eS 9 1 d3 c5 c6 b9.1] rfl (Nat.lt_of_lt_of_le (Nat.lt_succ_self _) (Nat.le_of_ble_eq_true rfl)) (by kernel_rfl) (by kernel_rfl) rfl (by kernel_rfl) rfl fun g6 g1 => nq (sr (wp 2 (nq (ct ?_)))))
  obtain rfl := oi hr
  refine ajk (Vi .i64 (0 : Int)) (bt (0 : UInt8)) rfl (by kernel_rfl) (by kernel_rfl) ?_
  exact ⟨b3, a4, a5, b4, a6, a7, b5, a8, a9, (by first | rfl | (simp; done) | (simp; omega)), (Hp.front (Hp.front (Hp.front (Hp.front (Hp.front g1 4 _ rfl) 4 _ rfl) 4 _ rfl) 4 _ rfl) 4 _ rfl).kp⟩
theorem acl {fu : Nat} {a0 : Str} {a1 : Int} {a2 : Str} {w : World} {r : Int} (hr : ace fu a0 a1 a2 = some r) (hG : Gl w) : CR Tryz.prog 177 [(Value.agg #[(str a0)]), (Vi .i64 a1), (str a2)] w fun v w' => v = (Vi .i64 r) ∧ Hp w [] [] w' := by
  have hH : Hp w [] [] w := Hp.refl w
  refine enter (k := 22) Tryz.func177 rfl rfl (Nat.le_of_ble_eq_true rfl) ?_
  unfold ace at hr
  refine sr (acx hH [(str a0)] 117 (fun b => (Vp (some ⟨b, 0, none⟩))) rfl rfl (by kernel_rfl) fun b1 w2 a4 => wp 1 (nq (cs (sr (wp 1 ?_)))))
  refine aav a4 0 b1 0 [(str a0)] 117 (str a0) rfl rfl (by kernel_rfl) (by kernel_rfl) (wp 1 (gi hr fun g4 hr => agt a0 .i64 a1 Tryz.underlying9 (by kernel_rfl) (by kernel_rfl) g4 (wp 1 (gi hr fun g8 hr => aad 56 #[] [(str (List.drop (Int.toNat a1) a0)), (str a2)] _ ent56 (by kernel_rfl) (by kernel_rfl) (sh_IndexAny (List.drop (Int.toNat a1) a0) a2 w2 g8) ?_))))
  rintro _ w5 ⟨rfl, a5⟩
  have a3 := a4.call a5; clear a5
  refine wp 1 (nq (sr (wp 2 (nq (cd hr (fun h9 hr => ?_) (fun h9 hr => ?_))))))
  refine sr (wp 2 (gi hr fun a6 hr => aac a1 (Lib.indexAny (List.drop (Int.toNat a1) a0) a2) (by kernel_rfl) (by kernel_rfl) a6 (wp 1 (nq (ct (st ?_))))))
  obtain rfl := oi hr
  exact rv a3.kp
  refine ck (qn (sr (wp 1 (aav a3 0 b1 0 [(str a0)] 117 (str a0) rfl rfl (by kernel_rfl) (by kernel_rfl) (wp 2 (nq (ct ?_)))))))
  obtain rfl := oi hr
  exact rv a3.kp
theorem acw {fu : Nat} {s_0 : Str} {w : World} {r : Str} (hr : adq fu s_0 = some r) (hG : Gl w) : CR Tryz.prog 84 [(str s_0)] w fun v w' => v = (str r) ∧ Hp w [] [] w' := by
  have hH : Hp w [] [] w := Hp.refl w
  refine enter (k := 29) Tryz.func84 rfl rfl (Nat.le_of_ble_eq_true rfl) ?_
  unfold adq at hr
  refine sr (wp 1 (nq (sr (wp 1 (ann hH s_0 5 Tryz.underlying9 Tryz.underlying92 Tryz.underlying5 (by kernel_rfl) fun a1 cap2 w3 b2 => wp 1 ?_)))))
  refine nq (bi hr fun b1 b3 hr => cut (σ := Str) [2, 3] (fun a6 => []) (fun a6 w' => Hp w [] [brow (Vs a1 s_0.length cap2) s_0.length a6] w' ∧ a6 = b1) ?_ ?_)
  refine sr (wp 3 (nq (ce (lpG (σ := Nat × Str × Int) [2, 3, 8, 9, 10] (fun ⟨a4, a3, a2⟩ => [(10, (Vi .i64 a2))]) (fun ⟨a4, a3, a2⟩ w' => Hp w [] [brow (Vs a1 s_0.length cap2) s_0.length a3] w' ∧ agl fu s_0 a4 a3 a2 = some b1) (fun ⟨a4, a3, a2⟩ => a4) (fu, s_0, (0 : Int)) (by exact ⟨b2.kp, b3⟩) ?_))))
  rintro ⟨_ | a4, a3, a2⟩ c6 G ⟨a5, a0⟩
  · exact absurd (show none = some _ from a0) (by simp)
  rw [agl.eq_2] at a0
  refine sr (wp 1 (nq (cs (cd a0 (fun b4 a0 => ?_) (fun b4 a0 => ?_)))))
  refine ck (qn (cs (ce (sr (wp 1 (gi a0 fun b5 a0 => afk a1 s_0.length cap2 5 1 .i64 a2 Tryz.underlying92 (by kernel_rfl) (by kernel_rfl) (by kernel_rfl) a3 (a5.browlen 0 rfl).symm b5 (Rd.ofbytes (a5.rdbrow 0 rfl)) agf (by decide) (gi a0 fun b6 a0 => ?_)))))))
  refine ajy a1 eB a3 1 a2 agf (Rd.ofbytes (a5.rdbrow 0 rfl)) (bt (at_ a3 a2)) b6 (by decide) (by kernel_rfl) (by kernel_rfl) (by kernel_rfl) (wp 2 (nq (bi a0 fun b7 a7 a0 => afy a5 [2, 3, 4, 5, 8, 9, 10, 20] [(20, (Vb b7))] ?_ ?_)))
  refine cr (wp 1 (aiu (at_ a3 a2) (65 : UInt8) (by kernel_rfl) (by kernel_rfl) (wd a7 (fun b8 a7 => ?_) (fun b8 a7 => ?_))))
  refine wp 1 (gy 17 (ait (at_ a3 a2) (90 : UInt8) (by kernel_rfl) (by kernel_rfl) (wp 1 (wl (ql ?_)))))
  obtain rfl := oi a7
  exact je a5.kp
  refine wp 3 (wl (ql ?_))
  obtain rfl := oi a7
  exact je a5.kp
  intro c7 G a8
  refine cb a0 (fun b9 a0 => ?_) (fun b9 a0 => ?_)
  refine cr (wp 3 (w8_add (at_ a3 a2) (32 : UInt8) (by kernel_rfl) (by kernel_rfl) (gi a0 fun c0 a0 => afk a1 s_0.length cap2 5 1 .i64 a2 Tryz.underlying92 (by kernel_rfl) (by kernel_rfl) (by kernel_rfl) a3 (a8.browlen 0 rfl).symm c0 (Rd.ofbytes (a8.rdbrow 0 rfl)) agf (by decide) (gi a0 fun c1 a0 => w_stB a8 0 a1 s_0.length cap2 a2 a3 ((at_ a3 a2) + (32 : UInt8)) rfl c1 (by kernel_rfl) (by kernel_rfl) (by kernel_rfl) fun c2 a9 => ?_))))
  replace a9 : Hp w [] [brow (Vs a1 s_0.length cap2) s_0.length (List.set a3 (Int.toNat a2) ((at_ a3 a2) + (32 : UInt8)))] c2 := a9
  refine wl (bn (qn (cr (gi a0 fun c3 a0 => aac a2 (1 : Int) (by kernel_rfl) (by kernel_rfl) c3 (wp 1 (wl (ql ?_)))))))
  exact ⟨(a4, List.set a3 (Int.toNat a2) ((at_ a3 a2) + (32 : UInt8)), a2 + (1 : Int)), _, rfl, by kernel_rfl, ⟨a9.kp, a0⟩, Nat.lt_succ_self _⟩
  refine ck (bn (qn (cr (gi a0 fun c4 a0 => aac a2 (1 : Int) (by kernel_rfl) (by kernel_rfl) c4 (wp 1 (wl (ql ?_)))))))
  exact ⟨(a4, a3, a2 + (1 : Int)), _, rfl, by kernel_rfl, ⟨a8.kp, a0⟩, Nat.lt_succ_self _⟩
  refine acc (acb (aci (acd (ql ?_))))
  obtain rfl := oi a0
  exact ⟨a3, _, rfl, by kernel_rfl, a5.kp, rfl⟩
  rintro a6 c5 G ⟨b0, rfl⟩
  refine sr (wp 1 (ady (v := (str a6)) (w' := c5) rfl rfl (amq a6 a1 s_0.length cap2 5 (Rd.bytes (Rd.ofbytes (b0.rdbrow 0 rfl))) (b0.browlen 0 rfl) Tryz.underlying92 Tryz.underlying9 Tryz.underlying5 (by kernel_rfl)) (wp 1 (nq (ct ?_)))))
  obtain rfl := oi hr
  exact rv b0.kp
theorem ang {fu : Nat} {a1 : UInt8} {w : World} {r : Bool} (hr : akh fu a1 = some r) (hG : Gl w) : CR Tryz.prog 144 [(bt a1)] w fun v w' => v = (Vb r) ∧ Hp w [] [] w' := by
  have hH : Hp w [] [] w := Hp.refl w
  refine enter (k := 17) Tryz.func144 rfl rfl (Nat.le_of_ble_eq_true rfl) ?_
  unfold akh at hr
  refine sr (wp 1 (nq (bi hr fun v8 a0 hr => afy hH [2] [(2, (Vb v8))] ?_ ?_)))
  refine cr (wp 1 (aiu a1 (97 : UInt8) (by kernel_rfl) (by kernel_rfl) (wd a0 (fun h9 a0 => ?_) (fun h9 a0 => ?_))))
  refine wp 1 (gy 5 (ait a1 (122 : UInt8) (by kernel_rfl) (by kernel_rfl) (wp 1 (wd a0 (fun a2 a0 => ?_) (fun a2 a0 => ?_)))))
  refine wp 8 (wl (ql ?_))
  obtain rfl := oi a0
  exact je hH.kp
  refine wp 1 (gy 9 (aiu a1 (65 : UInt8) (by kernel_rfl) (by kernel_rfl) (gy 9 (wd a0 (fun a3 a0 => ?_) (fun a3 a0 => ?_)))))
  refine wp 1 (gy 12 (ait a1 (90 : UInt8) (by kernel_rfl) (by kernel_rfl) (wp 3 (wl (ql ?_)))))
  obtain rfl := oi a0
  exact je hH.kp
  refine wp 5 (wl (ql ?_))
  obtain rfl := oi a0
  exact je hH.kp
  refine wp 5 (gy 9 (aiu a1 (65 : UInt8) (by kernel_rfl) (by kernel_rfl) (gy 9 (wd a0 (fun a4 a0 => ?_) (fun a4 a0 => ?_)))))
  refine wp 1 (gy 12 (ait a1 (90 : UInt8) (by kernel_rfl) (by kernel_rfl) (wp 3 (wl (ql ?_)))))
  obtain rfl := oi a0
  exact je hH.kp
  refine wp 5 (wl (ql ?_))
  obtain rfl := oi a0
  exact je hH.kp
  intro a6 G a5
  refine ct ?_
  obtain rfl := oi hr
  exact rv a5.kp
theorem agi {fu : Nat} {a1 : UInt8} {w : World} {r : Bool} (hr : afp fu a1 = some r) (hG : Gl w) : CR Tryz.prog 142 [(bt a1)] w fun v w' => v = (Vb r) ∧ Hp w [] [] w' := by
  have hH : Hp w [] [] w := Hp.refl w
  refine enter (k := 9) Tryz.func142 rfl rfl (Nat.le_of_ble_eq_true rfl) ?_
  unfold afp at hr
  refine sr (wp 1 (nq (bi hr fun v5 a0 hr => afy hH [2] [(2, (Vb v5))] ?_ ?_)))
  refine cr (wp 1 (aiu a1 (48 : UInt8) (by kernel_rfl) (by kernel_rfl) (wd a0 (fun h6 a0 => ?_) (fun h6 a0 => ?_))))
  refine wp 1 (gy 5 (ait a1 (57 : UInt8) (by kernel_rfl) (by kernel_rfl) (wp 2 (wl (ql ?_)))))
  obtain rfl := oi a0
  exact je hH.kp
  refine wp 4 (wl (ql ?_))
  obtain rfl := oi a0
  exact je hH.kp
  intro w7 G a2
  refine ct ?_
  obtain rfl := oi hr
  exact rv a2.kp
end Go.Proofs
set_option linter.unusedVariables false
set_option linter.unusedSimpArgs false
set_option maxRecDepth 20000
set_option maxHeartbeats 1000000
namespace Go.Proofs
open Go.Wk Go.Px
open Go.Value renaming slice → Vs, int → Vi, bool → Vb, pointer → Vp
theorem ent84 : Go.Wk.Enters Tryz.prog 84 := ⟨Tryz.f84, _, Tryz.func84, rfl, by kernel_rfl⟩
theorem ent141 : Go.Wk.Enters Tryz.prog 141 := ⟨Tryz.f141, _, Tryz.func141, rfl, by kernel_rfl⟩
theorem ent142 : Go.Wk.Enters Tryz.prog 142 := ⟨Tryz.f142, _, Tryz.func142, rfl, by kernel_rfl⟩
theorem ent144 : Go.Wk.Enters Tryz.prog 144 := ⟨Tryz.f144, _, Tryz.func144, rfl, by kernel_rfl⟩
theorem ent146 : Go.Wk.Enters Tryz.prog 146 := ⟨Tryz.f146, _, Tryz.func146, rfl, by kernel_rfl⟩
theorem ent192 : Go.Wk.Enters Tryz.prog 192 := ⟨Tryz.f192, _, Tryz.func192, rfl, by kernel_rfl⟩
theorem ent193 : Go.Wk.Enters Tryz.prog 193 := ⟨Tryz.f193, _, Tryz.func193, rfl, by kernel_rfl⟩
theorem ent204 : Go.Wk.Enters Tryz.prog 204 := ⟨Tryz.f204, _, Tryz.func204, rfl, by kernel_rfl⟩
theorem ent238 : Go.Wk.Enters Tryz.prog 238 := ⟨Tryz.f238, _, Tryz.func238, rfl, by kernel_rfl⟩
theorem ent265 : Go.Wk.Enters Tryz.prog 265 := ⟨Tryz.f265, _, Tryz.func265, rfl, by kernel_rfl⟩
theorem ent266 : Go.Wk.Enters Tryz.prog 266 := ⟨Tryz.f266, _, Tryz.func266, rfl, by kernel_rfl⟩
theorem amz {fu : Nat} {a3 : UInt8} {a2 : Int} {w : World} {r : Bool} (hr : ajt fu a3 a2 = some r) (hG : Gl w) : CR Tryz.prog 204 [(bt a3), (Vi .i64 a2)] w fun v w' => v = (Vb r) ∧ Hp w [] [] w' := by
  have hH : Hp w [] [] w := Hp.refl w
  refine enter (k := 30) Tryz.func204 rfl rfl (Nat.le_of_ble_eq_true rfl) ?_
  unfold ajt at hr
  refine sr (wp 1 (nq (cs (bi hr fun a9 a0 hr => afy hH [0, 1, 4, 15] [(15, (Vb a9))] ?_ ?_))))
  refine cr (wp 1 (bi a0 fun c5 b0 a0 => wc ent144 hH (ang b0 (hG.hp0 hH)) fun c6 a5 => wb a0 (fun b1 a0 => ?_) (fun b1 a0 => ?_)))
  refine wp 8 (wl (ql ?_))
  obtain rfl := oi a0
  exact je a5.kp
  refine wp 1 (gy 7 (bi a0 fun c7 b2 a0 => wc ent142 a5 (agi b2 (hG.hp0 a5)) fun b3 a6 => wp 1 (wb a0 (fun b4 a0 => ?_) (fun b4 a0 => ?_))))
  refine wp 4 (wl (ql ?_))
  obtain rfl := oi a0
  exact je a6.kp
  refine wp 1 (gy 11 (aad 146 #[] [(str ([45, 95, 46, 33, 126, 42, 39, 40, 41] : Str)), (bt a3)] _ ent146 (by kernel_rfl) (by kernel_rfl) (akr ([45, 95, 46, 33, 126, 42, 39, 40, 41] : Str) a3 b3) ?_))
  rintro _ c8 ⟨rfl, a7⟩
  have b5 := a6.call a7; clear a7
  refine wp 2 (wl (ql ?_))
  obtain rfl := oi a0
  exact je b5.kp
  intro b6 G a4
  refine cb hr (fun b7 hr => ?_) (fun b7 hr => ?_)
  refine sr (wp 1 (nq (ct (st ?_))))
  obtain rfl := oi hr
  exact rv a4.kp
  refine ck (qn (bi hr fun b8 a1 hr => afy a4 [4] [(4, (Vb b8))] ?_ ?_))
  refine cr (wp 2 (wd a1 (fun b9 a1 => ?_) (fun b9 a1 => ?_)))
  refine wp 3 (wd a1 (fun c0 a1 => ?_) (fun c0 a1 => ?_))
  refine wp 1 (gy 22 (gi a1 fun c1 a1 => w_ixaA ⟨3, 0, none⟩ 3 9 1 .i64 a2 Tryz.underlying220 (by kernel_rfl) (by kernel_rfl) (by kernel_rfl) c1 (by decide) (gy 22 (gi a1 fun c2 a1 => ajy (some ⟨3, 0, none⟩) eS ajl 1 a2 alw (hG.classes.rd.hp a4) (str (el ajl a2)) c2 (by decide) (by kernel_rfl) (by kernel_rfl) (by kernel_rfl) (wp 1 (gy 22 (aad 146 #[] [(str (el ajl a2)), (bt a3)] _ ent146 (by kernel_rfl) (by kernel_rfl) (akr (el ajl a2) a3 b6) ?_)))))))
  rintro _ c9 ⟨rfl, a8⟩
  have c3 := a4.call a8; clear a8
  refine wp 3 (wl (ql ?_))
  obtain rfl := oi a1
  exact je c3.kp
  refine wp 8 (wl (ql ?_))
  obtain rfl := oi a1
  exact je a4.kp
  refine wp 12 (wl (ql ?_))
  obtain rfl := oi a1
  exact je a4.kp
  intro d0 G c4
  refine ct ?_
  obtain rfl := oi hr
  exact rv c4.kp
theorem akd {fu : Nat} {a0 : UInt8} {w : World} {r : (UInt8 × Bool)} (hr : agy fu a0 = some r) (hG : Gl w) : CR Tryz.prog 192 [(bt a0)] w fun v w' => v = (Value.tuple #[(bt r.1), (Vb r.2)]) ∧ Hp w [] [] w' := by
  have hH : Hp w [] [] w := Hp.refl w
  refine enter (k := 29) Tryz.func192 rfl rfl (Nat.le_of_ble_eq_true rfl) ?_
  unfold agy at hr
  refine sr (wp 2 (nq (cs (ce (sr (wp 1 ?_))))))
  refine bi hr fun y1 a6 hr => wc ent142 hH (agi a6 (hG.hp0 hH)) fun w3 a3 => wp 1 (nq (cb hr (fun h6 hr => ?_) (fun h6 hr => ?_)))
  refine sr (wp 1 (w8_sub a0 (48 : UInt8) (by kernel_rfl) (by kernel_rfl) (wp 2 (nq (ct (bt_ (st ?_)))))))
  obtain rfl := oi hr
  exact rv a3.kp
  refine bi hr fun a7 a1 hr => afy a3 [0, 2, 3, 9] [(9, (Vb a7))] ?_ ?_
  refine cr (wp 1 (aiu a0 (97 : UInt8) (by kernel_rfl) (by kernel_rfl) (wd a1 (fun a8 a1 => ?_) (fun a8 a1 => ?_))))
  refine wp 1 (gy 12 (ait a0 (102 : UInt8) (by kernel_rfl) (by kernel_rfl) (wp 2 (wl (ql ?_)))))
  obtain rfl := oi a1
  exact je a3.kp
  refine wp 4 (wl (ql ?_))
  obtain rfl := oi a1
  exact je a3.kp
  intro b3 G a4
  refine cb hr (fun a9 hr => ?_) (fun a9 hr => ?_)
  refine sr (wp 1 (w8_sub a0 (97 : UInt8) (by kernel_rfl) (by kernel_rfl) (w8_add (a0 - (97 : UInt8)) (10 : UInt8) (by kernel_rfl) (by kernel_rfl) (wp 2 (nq (ct (bt_ ?_)))))))
  refine st ?_
  obtain rfl := oi hr
  exact rv a4.kp
  refine bi hr fun b0 a2 hr => afy a4 [0, 2, 3, 19] [(19, (Vb b0))] ?_ ?_
  refine cr (wp 1 (aiu a0 (65 : UInt8) (by kernel_rfl) (by kernel_rfl) (wd a2 (fun b1 a2 => ?_) (fun b1 a2 => ?_))))
  refine wp 1 (gy 22 (ait a0 (70 : UInt8) (by kernel_rfl) (by kernel_rfl) (wp 2 (wl (ql ?_)))))
  obtain rfl := oi a2
  exact je a4.kp
  refine wp 4 (wl (ql ?_))
  obtain rfl := oi a2
  exact je a4.kp
  intro b4 G a5
  refine cb hr (fun b2 hr => ?_) (fun b2 hr => ?_)
  refine sr (wp 1 (w8_sub a0 (65 : UInt8) (by kernel_rfl) (by kernel_rfl) (w8_add (a0 - (65 : UInt8)) (10 : UInt8) (by kernel_rfl) (by kernel_rfl) (wp 2 (nq (ct (bt_ ?_)))))))
  refine st ?_
  obtain rfl := oi hr
  exact rv a5.kp
  refine ck (bn (qn (sr (wp 2 (nq (ct ?_))))))
  obtain rfl := oi hr
  exact rv a5.kp
theorem amj {fu : Nat} {s_0 : Str} {a0 : Int} {w : World} {r : (UInt8 × Bool)} (hr : aiz fu s_0 a0 = some r) (hG : Gl w) : CR Tryz.prog 265 [(str s_0), (Vi .i64 a0)] w fun v w' => v = (Value.tuple #[(bt r.1), (Vb r.2)]) ∧ Hp w [] [] w' := by
  have hH : Hp w [] [] w := Hp.refl w
  refine enter (k := 45) Tryz.func265 rfl rfl (Nat.le_of_ble_eq_true rfl) ?_
  unfold aiz at hr
  refine sr (wp 2 (nq (cs (bi hr fun v7 a1 hr => afy hH [0, 1, 4, 5, 20] [(20, (Vb v7))] ?_ ?_))))
  refine cr (wp 1 (gi a1 fun g8 a1 => aac a0 (2 : Int) (by kernel_rfl) (by kernel_rfl) g8 (wp 3 (wd a1 (fun h9 a1 => ?_) (fun h9 a1 => ?_)))))
  refine wp 5 (wl (ql ?_))
  obtain rfl := oi a1
  exact je hH.kp
  refine wp 2 (gy 15 (gi a1 fun a8 a1 => adc s_0 .i64 a0 Tryz.underlying9 (by kernel_rfl) (by kernel_rfl) a8 (gy 15 (aeb (at_ s_0 a0) (37 : UInt8) (by kernel_rfl) (by kernel_rfl) (wp 1 (wl (ql ?_)))))))
  obtain rfl := oi a1
  exact je hH.kp
  intro c0 G a3
  refine cb hr (fun a9 hr => ?_) (fun a9 hr => ?_)
  refine sr (wp 2 (nq (ct (st ?_))))
  obtain rfl := oi hr
  exact rv a3.kp
  refine ck (qn (sr (wp 2 (gi hr fun b0 hr => aac a0 (1 : Int) (by kernel_rfl) (by kernel_rfl) b0 (gi hr fun b1 hr => adc s_0 .i64 (a0 + (1 : Int)) Tryz.underlying9 (by kernel_rfl) (by kernel_rfl) b1 (bi hr fun a4 b2 hr => ?_))))))
  refine wc ent192 a3 (akd b2 (hG.hp0 a3)) fun c1 a6 => wp 5 (nq (sr (wp 2 (gi hr fun b3 hr => aac a0 (2 : Int) (by kernel_rfl) (by kernel_rfl) b3 (gi hr fun b4 hr => ?_)))))
  refine adc s_0 .i64 (a0 + (2 : Int)) Tryz.underlying9 (by kernel_rfl) (by kernel_rfl) b4 (bi hr fun a7 b5 hr => wc ent192 a6 (akd b5 (hG.hp0 a6)) fun c2 a5 => wp 5 (nq (bi hr fun b6 a2 hr => afy a5 [4, 5] [(4, (bt ((shl8 a4.1 (4 : Int)) ||| a7.1))), (5, (Vb b6))] ?_ ?_)))
  refine cr (wp 1 (gi a2 fun b7 a2 => w8_shl .u64 a4.1 (4 : Int) (by kernel_rfl) (by kernel_rfl) b7 (wp 1 (w8_or (shl8 a4.1 (4 : Int)) a7.1 (by kernel_rfl) (by kernel_rfl) (wp 1 (wb a2 (fun b8 a2 => ?_) (fun b8 a2 => ?_)))))))
  refine wp 4 (wl (ql ?_))
  obtain rfl := oi a2
  exact je a5.kp
  refine wp 4 (wl (ql ?_))
  obtain rfl := oi a2
  exact je a5.kp
  intro c3 G b9
  refine ct ?_
  obtain rfl := oi hr
  exact rv b9.kp
theorem ana {fu : Nat} {a1 : UInt8} {w : World} {r : Bool} (hr : aju fu a1 = some r) (hG : Gl w) : CR Tryz.prog 238 [(bt a1)] w fun v w' => v = (Vb r) ∧ Hp w [] [] w' := by
  have hH : Hp w [] [] w := Hp.refl w
  refine enter (k := 13) Tryz.func238 rfl rfl (Nat.le_of_ble_eq_true rfl) ?_
  unfold aju at hr
  refine sr (wp 1 (nq (bi hr fun v6 a0 hr => afy hH [2] [(2, (Vb v6))] ?_ ?_)))
  refine cr (wp 1 (w8_lss a1 (32 : UInt8) (by kernel_rfl) (by kernel_rfl) (wd a0 (fun h7 a0 => ?_) (fun h7 a0 => ?_))))
  refine wp 1 (gy 5 (aeb a1 (9 : UInt8) (by kernel_rfl) (by kernel_rfl) (wp 1 (wn a0 (fun h8 a0 => ?_) (fun h8 a0 => ?_)))))
  refine wp 4 (wl (ql ?_))
  obtain rfl := oi a0
  exact je hH.kp
  refine wp 1 (gy 9 (acf a1 (127 : UInt8) (by kernel_rfl) (by kernel_rfl) (wp 2 (wl (ql ?_)))))
  obtain rfl := oi a0
  exact je hH.kp
  refine wp 5 (gy 9 (acf a1 (127 : UInt8) (by kernel_rfl) (by kernel_rfl) (wp 2 (wl (ql ?_)))))
  obtain rfl := oi a0
  exact je hH.kp
  intro w9 G a2
  refine ct ?_
  obtain rfl := oi hr
  exact rv a2.kp
theorem ahw {fu : Nat} {a1 : (Str × Int)} {a5 : Int} {a9 : Int} (a2 : Nat) {w : World} {r : (Int × Bool)} (hr : afh fu a1 a5 a9 = some r) (hG : Gl w) (hM : Hp w (aah [blk a2 [(str a1.1), (Vi .i64 a1.2)] 119]) [blk a2 [(str a1.1), (Vi .i64 a1.2)] 119] w) (hS : ∀ b ∈ aah [blk a2 [(str a1.1), (Vi .i64 a1.2)] 119], 9 ≤ b) : CR Tryz.prog 254 [(Vp (some ⟨a2, 0, none⟩)), (Vi .i64 a5), (Vi .i64 a9)] w fun v w' => v = (Value.tuple #[(Vi .i64 r.1), (Vb r.2)]) ∧ Hp w (aah [blk a2 [(str a1.1), (Vi .i64 a1.2)] 119]) [blk a2 [(str a1.1), (Vi .i64 a1.2)] 119] w' := by
  have hH : Hp w (aah [blk a2 [(str a1.1), (Vi .i64 a1.2)] 119]) [blk a2 [(str a1.1), (Vi .i64 a1.2)] 119] w := hM
  refine enter (k := 50) Tryz.func254 rfl rfl (Nat.le_of_ble_eq_true rfl) ?_
  unfold afh at hr
  refine sr (wp 2 (nq (bi hr fun b2 b3 hr => cut1 hH b2 [6, 7] (fun b4 => []) ?_ ?_)))
  refine sr (wp 3 (aav hH 0 a2 1 [(str a1.1), (Vi .i64 a1.2)] 119 (Vi .i64 a1.2) rfl rfl (by kernel_rfl) (by kernel_rfl) (wp 1 (nq (ce (lpS (fun b0 a3 => aec fu a1 a5 a9 b0 a3) a1.2 hH b3 [0, 1, 2, 6, 7, 8] (fun a3 => [(8, (Vi .i64 a3))]) (fun _ => rfl) ?_))))))
  rintro b0 a3 d0 G a6 a0
  rw [aec.eq_2] at a0
  refine cs (sr (wp 3 (nq (cd a0 (fun b5 a0 => ?_) (fun b5 a0 => ?_)))))
  refine ck (qn (cs (ce (cs (sr (wp 4 (aav a6 0 a2 0 [(str a1.1), (Vi .i64 a1.2)] 119 (str a1.1) rfl rfl (by kernel_rfl) (by kernel_rfl) (wp 1 ?_))))))))
  refine gi a0 fun b6 a0 => adc a1.1 .i64 a3 Tryz.underlying9 (by kernel_rfl) (by kernel_rfl) b6 (wp 1 (bi a0 fun d1 b7 a0 => wc ent204 a6 (amz b7 (hG.hp a6 hS)) fun d2 a7 => nq (cb a0 (fun b8 a0 => ?_) (fun b8 a0 => ?_))))
  refine acc (acb (acd (qn (cr (wp 1 (gi a0 fun b9 a0 => aac a3 (1 : Int) (by kernel_rfl) (by kernel_rfl) b9 (wp 1 (wl ?_))))))))
  exact ql (le' (a3 + (1 : Int)) a7.kp a0)
  refine ck (qn (sr (wp 4 (aav a7 0 a2 0 [(str a1.1), (Vi .i64 a1.2)] 119 (str a1.1) rfl rfl (by kernel_rfl) (by kernel_rfl) (wp 1 (gi a0 fun c0 a0 => alk a1.1 .i64 a5 Tryz.underlying9 (by kernel_rfl) (by kernel_rfl) c0 (wp 1 ?_)))))))
  refine bi a0 fun d3 c1 a0 => wc ent265 a7 (amj c1 (hG.hp a7 hS)) fun d4 a8 => wp 5 (nq (cs (bi a0 fun c2 a4 a0 => afy a8 [0, 1, 2, 6, 7, 8, 46] [(46, (Vb c2))] ?_ ?_)))
  refine cr (wp 2 (wb a4 (fun c3 a4 => ?_) (fun c3 a4 => ?_)))
  refine wp 3 (wl (ql ?_))
  obtain rfl := oi a4
  exact je a8.kp
  refine wp 1 (gy 43 (bi a4 fun d5 c4 a4 => wc ent238 a8 (ana c4 (hG.hp a8 hS)) fun d6 c5 => wp 1 (wl (ql ?_))))
  obtain rfl := oi a4
  exact je c5.kp
  intro d7 G b1
  refine cb a0 (fun c6 a0 => ?_) (fun c6 a0 => ?_)
  refine sr (wp 3 (nq (ct (st (bt_ (st (ach ?_)))))))
  refine bt_ (ach ?_)
  obtain rfl := oi a0
  obtain rfl := oi hr
  refine ajk (Vi .i64 a3) (Vb true) rfl (by kernel_rfl) (by kernel_rfl) ?_
  exact ⟨(by first | rfl | (simp; done) | (simp; omega)), b1.kp⟩
  refine ck (qn (cr (wp 1 (gi a0 fun c7 a0 => aac a3 (2 : Int) (by kernel_rfl) (by kernel_rfl) c7 (wp 1 (wl (bn (qn ?_))))))))
  exact cr (wp 1 (gi a0 fun c8 a0 => aac (a3 + (2 : Int)) (1 : Int) (by kernel_rfl) (by kernel_rfl) c8 (wp 1 (wl (ql (le' ((a3 + (2 : Int)) + (1 : Int)) b1.kp a0))))))
  refine acc (acb (aci (acd (ql ?_))))
  obtain rfl := oi a0
  exact je1 rfl a6.kp
  rintro b4 d8 G c9 rfl
  refine sr (wp 2 (nq (ct ?_)))
  obtain rfl := oi hr
  refine ajk (Vi .i64 (0 : Int)) (Vb false) rfl (by kernel_rfl) (by kernel_rfl) ?_
  exact ⟨(by first | rfl | (simp; done) | (simp; omega)), c9.kp⟩
theorem K_L_address_Unescape {fu : Nat} {s_0 : Str} {w : World} {r : (Str × Int × UInt8)} (hr : alf fu s_0 = some r) (hG : Gl w) : CR Tryz.prog 266 [(str s_0)] w fun v w' => v = (Value.tuple #[(str r.1), (Vi .i64 r.2.1), (bt r.2.2)]) ∧ Hp w [] [] w' := by
  have hH : Hp w [] [] w := Hp.refl w
  refine enter (k := 45) Tryz.func266 rfl rfl (Nat.le_of_ble_eq_true rfl) ?_
  unfold alf at hr
  refine sr (wp 3 (nq (sr (wp 2 (gi hr fun g1 hr => w_makeT (f := eB) hH 5 1 1 .i64 .i64 (s_0.length : Int) Tryz.underlying92 (by unfold TI; kernel_rfl) (by decide) (by kernel_rfl) (by kernel_rfl) g1 fun o2 a3 cap4 w5 c9 => ?_)))))
  refine wp 1 (nq (bi hr fun b8 d0 hr => cut (σ := (List UInt8) × (Option Nat) × (Option Addr) × Nat) [2, 3, 4, 5] (fun ⟨a4, b3, a9, b0⟩ => [(5, (Vs a9 a4.length b0))]) (fun ⟨a4, b3, a9, b0⟩ w' => Hp w [] [rwt eB 5 1 b3 a9 b0 a4] w' ∧ .inl a4 = b8) ?_ ?_))
  refine sr (wp 1 (nq (ce (lpG (σ := Nat × (List UInt8) × Int × (Option Nat) × (Option Addr) × Nat) [0, 2, 3, 4, 5, 6] (fun ⟨a7, a2, a1, a8, a5, a6⟩ => [(5, (Vs a5 a2.length a6)), (6, (Vi .i64 a1))]) (fun ⟨a7, a2, a1, a8, a5, a6⟩ w' => Hp w [] [rwt eB 5 1 a8 a5 a6 a2] w' ∧ afj fu s_0 a7 a2 a1 = some b8) (fun ⟨a7, a2, a1, a8, a5, a6⟩ => a7) (fu, ([] : List UInt8), (0 : Int), o2, a3, cap4) (by exact ⟨c9.kp, d0⟩) ?_ (mc (by kernel_rfl) (mc (by kernel_rfl) (mc (by kernel_rfl) (mc (by kernel_rfl) (mc (Eq.trans (b := (Vs a3 0 cap4)) (by kernel_rfl) (aae (by (try simp only [List.length_set]) <;> first | rfl | omega | simp))) (mc (by kernel_rfl) rfl))))))))))
  rintro ⟨_ | a7, a2, a1, a8, a5, a6⟩ e5 G ⟨b2, a0⟩
  · exact absurd (show none = some _ from a0) (by simp)
  rw [afj.eq_2] at a0
  refine cs (sr (wp 4 (nq (cd a0 (fun d1 a0 => ?_) (fun d1 a0 => ?_)))))
  refine ck (qn (cs (ce (cs (sr (wp 2 (gi a0 fun d2 a0 => adc s_0 .i64 a1 Tryz.underlying9 (by kernel_rfl) (by kernel_rfl) d2 ?_)))))))
  refine aeb (at_ s_0 a1) (37 : UInt8) (by kernel_rfl) (by kernel_rfl) (nq (cn a0 (fun d3 a0 => ?_) (fun d3 a0 => ?_)))
  refine sr (wp 3 (gi a0 fun d4 a0 => adc s_0 .i64 a1 Tryz.underlying9 (by kernel_rfl) (by kernel_rfl) d4 (acx b2 [(bt (at_ s_0 a1))] 5 (fun b => (Vs (some ⟨b, 0, none⟩) 1 1)) rfl rfl (by kernel_rfl) fun b4 e6 b9 => gi a0 fun d5 a0 => adu b9 1 a8 a5 (some ⟨b4, 0, none⟩) a6 1 5 1 1 a2 ([at_ s_0 a1] : List UInt8) agf rfl Tryz.underlying92 (by unfold TI; kernel_rfl) (by decide) (by decide) (by kernel_rfl) (Eq.trans (b := (Vs (some ⟨b4, 0, none⟩) 1 1)) (by kernel_rfl) (aae (by first | rfl | (simp; done) | omega | (simp; omega) | (rw [List.length_take]; omega)))) (b9.rdblk 0 rfl) d5 fun c0 c1 c2 d6 b5 => ?_)))
  replace b5 : Hp w [] [blk b4 [(bt (at_ s_0 a1))] 5, rwt eB 5 1 c0 c1 c2 (a2 ++ ([at_ s_0 a1] : List UInt8))] d6 := b5
  refine wp 1 (nq (acc (acb (acd (qn (cr (wp 1 (gi a0 fun d7 a0 => ?_))))))))
  refine aac a1 (1 : Int) (by kernel_rfl) (by kernel_rfl) d7 (wp 1 (wl (ql ?_)))
  exact ⟨(a7, a2 ++ ([at_ s_0 a1] : List UInt8), a1 + (1 : Int), c0, c1, c2), _, rfl, by kernel_rfl, ⟨(Hp.front b5 1 _ rfl).kp, a0⟩, Nat.lt_succ_self _⟩
  refine ck (qn (sr (wp 2 (bi a0 fun b1 d8 a0 => wc ent265 b2 (amj d8 (hG.hp0 b2)) fun e7 c3 => wp 5 (nq ?_)))))
  refine cs (sr (wp 2 (nq (cb a0 (fun d9 a0 => ?_) (fun d9 a0 => ?_)))))
  refine sr (wp 4 (nq (ct (st (bt_ (st (ach ?_)))))))
  refine bt_ (ach ?_)
  obtain rfl := oi a0
  obtain rfl := oi hr
  exact rv c3.kp
  refine ck (qn (sr (wp 2 (acx c3 [(bt b1.1)] 5 (fun b => (Vs (some ⟨b, 0, none⟩) 1 1)) rfl rfl (by kernel_rfl) fun b6 e8 c4 => gi a0 fun e0 a0 => adu c4 1 a8 a5 (some ⟨b6, 0, none⟩) a6 1 5 1 1 a2 ([b1.1] : List UInt8) agf rfl Tryz.underlying92 (by unfold TI; kernel_rfl) (by decide) (by decide) (by kernel_rfl) (Eq.trans (b := (Vs (some ⟨b6, 0, none⟩) 1 1)) (by kernel_rfl) (aae (by first | rfl | (simp; done) | omega | (simp; omega) | (rw [List.length_take]; omega)))) (c4.rdblk 0 rfl) e0 fun c5 c6 c7 e1 b7 => ?_))))
  replace b7 : Hp w [] [blk b6 [(bt b1.1)] 5, rwt eB 5 1 c5 c6 c7 (a2 ++ ([b1.1] : List UInt8))] e1 := b7
  refine wp 1 (nq (cr (wp 1 (gi a0 fun e2 a0 => aac a1 (2 : Int) (by kernel_rfl) (by kernel_rfl) e2 (wp 1 (wl (bn ?_)))))))
  refine qn (cr (wp 1 (gi a0 fun e3 a0 => aac (a1 + (2 : Int)) (1 : Int) (by kernel_rfl) (by kernel_rfl) e3 (wp 1 (wl (ql ?_))))))
  exact ⟨(a7, a2 ++ ([b1.1] : List UInt8), (a1 + (2 : Int)) + (1 : Int), c5, c6, c7), _, rfl, by kernel_rfl, ⟨(Hp.front b7 1 _ rfl).kp, a0⟩, Nat.lt_succ_self _⟩
  refine acc (acb (aci (acd (ql ?_))))
  obtain rfl := oi a0
  exact ⟨(a2, a8, a5, a6), _, rfl, by kernel_rfl, b2.kp, rfl⟩
  rintro ⟨a4, b3, a9, b0⟩ e4 G ⟨c8, rfl⟩
  refine sr (wp 1 (ady (v := (str a4)) (w' := e4) rfl rfl (amq a4 a9 a4.length b0 5 (Rd.bytes (c8.rdrw 0 rfl)) (by first | rfl | (simp; done) | omega | (simp; omega) | (rw [List.length_take]; omega)) Tryz.underlying92 Tryz.underlying9 Tryz.underlying5 (by kernel_rfl)) (wp 3 (nq (ct ?_)))))
  obtain rfl := oi hr
  exact rv c8.kp
theorem ako {fu : Nat} {s_0 : Str} {w : World} {r : Str} (hr : ahu fu s_0 = some r) (hG : Gl w) : CR Tryz.prog 255 [(str s_0)] w fun v w' => v = (str r) ∧ Hp w [] [] w' := by
  have hH : Hp w [] [] w := Hp.refl w
  refine enter (k := 13) Tryz.func255 rfl rfl (Nat.le_of_ble_eq_true rfl) ?_
  unfold ahu at hr
  refine sr (wp 1 (nq (sr (wp 1 (bi hr fun y1 a0 hr => wc ent266 hH (K_L_address_Unescape a0 (hG.hp0 hH)) fun w3 a1 => ?_)))))
  refine wp 7 (nq (sr (wp 2 (nq (ct ?_)))))
  obtain rfl := oi hr
  exact rv a1.kp
theorem ajj {fu : Nat} {s_0 : Str} {w : World} {r : ((List Str) × Bool)} (hr : agm fu s_0 = some r) (hG : Gl w) : CR Tryz.prog 140 [(str s_0)] w fun v w' => ∃ (o0 : Option Nat), ∃ (a0 : Option Addr), ∃ (cap0 : Nat), v = (Value.tuple #[(Vs a0 r.1.length cap0), (Vb r.2)]) ∧ Hp w [] [rwt eS 9 1 o0 a0 cap0 r.1] w' := by
  have hH : Hp w [] [] w := Hp.refl w
  refine enter (k := 53) Tryz.func140 rfl rfl (Nat.le_of_ble_eq_true rfl) ?_
  unfold agm at hr
  refine sr (wp 2 (nq (sr (wp 1 (gi hr fun g4 hr => aad 141 #[] [(str s_0), (str ([58] : Str))] _ ent141 (by kernel_rfl) (by kernel_rfl) (sh_Split s_0 58 w g4 (hG.hp0 hH)) ?_)))))
  rintro _ w1 ⟨o5, a6, cap7, rfl, b9⟩
  have c5 : Hp w [] [rwt eS 9 1 o5 a6 cap7 (spl 58 s_0)] w1 := Hp.callK (L1 := []) (L2 := []) hH b9; clear b9
  refine wp 1 (nq (bi hr fun c0 c6 hr => cut (σ := (List Str)) [2, 3, 4] (fun a8 => [(4, (Vs a6 a8.length cap7))]) (fun a8 w' => Hp w [] [rwt eS 9 1 o5 a6 cap7 a8] w' ∧ a8.length = (spl 58 s_0).length ∧ .inl a8 = c0) ?_ ?_))
  refine sr (wp 3 (nq (ce (lpG (σ := Nat × (List Str) × Int) [2, 3, 4, 12, 13, 14] (fun ⟨b0, a2, a3⟩ => [(4, (Vs a6 a2.length cap7)), (12, (Vs a6 a2.length cap7)), (14, (Vi .i64 a3))]) (fun ⟨b0, a2, a3⟩ w' => Hp w [] [rwt eS 9 1 o5 a6 cap7 a2] w' ∧ a2.length = (spl 58 s_0).length ∧ agb fu s_0 b0 a2 a3 = some c0) (fun ⟨b0, a2, a3⟩ => b0) (fu, spl 58 s_0, (0 : Int)) (by exact ⟨c5.kp, (by (try simp only [List.length_set]) <;> first | rfl | omega), c6⟩) ?_))))
  rintro ⟨_ | b0, a2, a3⟩ f7 G ⟨b1, f8, a5⟩
  · exact absurd (show none = some _ from a5) (by simp)
  rw [agb.eq_2] at a5
  refine sr (wp 1 (nq (cs (cd a5 (fun c7 a5 => ?_) (fun c7 a5 => ?_)))))
  refine ck (qn (bi a5 fun c8 a1 a5 => cut (σ := (List Str)) [2, 3, 4, 12, 13, 14] (fun a7 => [(4, (Vs a6 a7.length cap7)), (12, (Vs a6 a7.length cap7))]) (fun a7 w' => Hp w [] [rwt eS 9 1 o5 a6 cap7 a7] w' ∧ a7.length = a2.length ∧ .inl a7 = c8) ?_ ?_))
  refine ce (sr (wp 1 (gi a1 fun c9 a1 => afk a6 a2.length cap7 9 1 .i64 a3 Tryz.underlying54 (by kernel_rfl) (by kernel_rfl) (by kernel_rfl) a2 rfl c9 (b1.rdrw 0 rfl) alw (by decide) (gi a1 fun d0 a1 => ajy a6 eS a2 1 a3 alw (b1.rdrw 0 rfl) (str (el a2 a3)) d0 (by decide) (by kernel_rfl) (by kernel_rfl) (by kernel_rfl) (wp 2 (wl ?_))))))
  refine qn (cs (bi a1 fun d1 b3 a1 => afy b1 [2, 3, 4, 5, 6, 12, 13, 14, 26] [(26, (Vb d1))] ?_ ?_))
  refine cr (wp 3 (wd b3 (fun d2 b3 => ?_) (fun d2 b3 => ?_)))
  refine wp 4 (wl (ql ?_))
  obtain rfl := oi b3
  exact je b1.kp
  refine wp 4 (wl (ql ?_))
  obtain rfl := oi b3
  exact je b1.kp
  intro f9 G b5
  refine cb a1 (fun d3 a1 => ?_) (fun d3 a1 => ?_)
  refine sr (wp 2 (nq (ct (st (bt_ (ach ?_))))))
  obtain rfl := oi a1
  refine ach (bt_ (ach ?_))
  obtain rfl := oi a5
  obtain rfl := oi hr
  refine ajk (Vs none 0 0) (Vb false) rfl (by kernel_rfl) (by kernel_rfl) ?_
  exact ⟨none, none, 0, (by first | rfl | (simp; done) | (simp; omega)), (Hp.nilrw b5 eS 9 1 none).kp⟩
  refine ck (qn (bi a1 fun d4 d5 a1 => cut1 b5 d4 [2, 3, 4, 5, 6, 12, 13, 14] (fun d6 => []) ?_ ?_))
  refine sr (wp 3 (nq (ce (lpS (fun c1 a9 => aga fu a2 a3 c1 a9) (0 : Int) b5 d5 [2, 3, 4, 5, 6, 12, 13, 14, 28, 29] (fun a9 => [(29, (Vi .i64 a9))]) (fun _ => rfl) ?_))))
  rintro c1 a9 g0 G b6 a4
  rw [aga.eq_2] at a4
  refine sr (wp 1 (nq (cs (cd a4 (fun d7 a4 => ?_) (fun d7 a4 => ?_)))))
  refine ck (qn (cs (ce (sr (wp 2 (nq (cs ?_)))))))
  refine cr (wp 2 (gi a4 fun d8 a4 => adc (el a2 a3) .i64 a9 Tryz.underlying9 (by kernel_rfl) (by kernel_rfl) d8 (bi a4 fun g1 d9 a4 => wc ent192 b6 (akd d9 (hG.hp0 b6)) fun g2 c2 => wp 5 (nq (cs ?_)))))
  refine cr (wp 2 (nq (cb a4 (fun e0 a4 => ?_) (fun e0 a4 => ?_))))
  refine sr (wp 2 (nq (ct (bt_ (st (ach (bt_ ?_)))))))
  refine ach ?_
  obtain rfl := oi a4
  refine bt_ (ach ?_)
  obtain rfl := oi a1
  refine ach (bt_ (ach ?_))
  obtain rfl := oi a5
  obtain rfl := oi hr
  refine ajk (Vs none 0 0) (Vb false) rfl (by kernel_rfl) (by kernel_rfl) ?_
  exact ⟨none, none, 0, (by first | rfl | (simp; done) | (simp; omega)), (Hp.nilrw c2 eS 9 1 none).kp⟩
  exact ck (bn (qn (cr (gi a4 fun e1 a4 => aac a9 (1 : Int) (by kernel_rfl) (by kernel_rfl) e1 (wp 1 (wl (ql (le' (a9 + (1 : Int)) c2.kp a4))))))))
  refine acc (acb (aci (acd (ql ?_))))
  obtain rfl := oi a4
  exact je1 rfl b6.kp
  rintro d6 g3 G c3 rfl
  refine sr (wp 1 (bi a1 fun b2 e2 a1 => wc ent84 c3 (acw e2 (hG.hp0 c3)) fun e3 e4 => gi a1 fun e5 a1 => gi a1 fun e6 a1 => aad 193 #[] [(str b2), (str ([48] : Str))] _ ent193 (by kernel_rfl) (by kernel_rfl) (sh_TrimLeft b2 ([48] : Str) e3 e5 e6) ?_))
  rintro _ g5 ⟨rfl, c4⟩
  have b4 := e4.call c4; clear c4
  refine wp 1 (nq (cs (sr (wp 2 (nq (cd a1 (fun e7 a1 => ?_) (fun e7 a1 => ?_)))))))
  refine cr (wp 1 (nq (cr (wp 3 (gi a1 fun e8 a1 => afk a6 a2.length cap7 9 1 .i64 a3 Tryz.underlying54 (by kernel_rfl) (by kernel_rfl) (by kernel_rfl) a2 rfl e8 (b4.rdrw 0 rfl) alw (by decide) (gi a1 fun e9 a1 => w_stE1 b4 0 o5 a6 cap7 9 a3 a2 ([48] : Str) rfl alw (str ([48] : Str)) e9 (by kernel_rfl) (by kernel_rfl) (by kernel_rfl) (by kernel_rfl) fun f0 b7 => ?_))))))
  replace b7 : Hp w [] [rwt eS 9 1 o5 a6 cap7 (List.set a2 (Int.toNat a3) ([48] : Str))] f0 := b7
  refine wl (bn (ql ?_))
  obtain rfl := oi a1
  exact ⟨List.set a2 (Int.toNat a3) ([48] : Str), _, rfl, (mc (by kernel_rfl) (mc (by kernel_rfl) (mc (Eq.trans (b := (Vs a6 a2.length cap7)) (by kernel_rfl) (aae (by (try simp only [List.length_set]) <;> first | rfl | omega | simp))) (mc (Eq.trans (b := (Vs a6 a2.length cap7)) (by kernel_rfl) (aae (by (try simp only [List.length_set]) <;> first | rfl | omega | simp))) (mc (by kernel_rfl) (mc (by kernel_rfl) rfl)))))), b7.kp, (by (try simp only [List.length_set]) <;> first | rfl | omega), rfl⟩
  refine ck (qn (cr (wp 3 (gi a1 fun f1 a1 => afk a6 a2.length cap7 9 1 .i64 a3 Tryz.underlying54 (by kernel_rfl) (by kernel_rfl) (by kernel_rfl) a2 rfl f1 (b4.rdrw 0 rfl) alw (by decide) (gi a1 fun f2 a1 => w_stE1 b4 0 o5 a6 cap7 9 a3 a2 (Lib.trimLeftS b2 ([48] : Str)) rfl alw (str (Lib.trimLeftS b2 ([48] : Str))) f2 (by kernel_rfl) (by kernel_rfl) (by kernel_rfl) (by kernel_rfl) fun f3 b8 => ?_)))))
  replace b8 : Hp w [] [rwt eS 9 1 o5 a6 cap7 (List.set a2 (Int.toNat a3) (Lib.trimLeftS b2 ([48] : Str)))] f3 := b8
  refine wl (bn (ql ?_))
  obtain rfl := oi a1
  exact ⟨List.set a2 (Int.toNat a3) (Lib.trimLeftS b2 ([48] : Str)), _, rfl, (mc (by kernel_rfl) (mc (by kernel_rfl) (mc (Eq.trans (b := (Vs a6 a2.length cap7)) (by kernel_rfl) (aae (by (try simp only [List.length_set]) <;> first | rfl | omega | simp))) (mc (Eq.trans (b := (Vs a6 a2.length cap7)) (by kernel_rfl) (aae (by (try simp only [List.length_set]) <;> first | rfl | omega | simp))) (mc (by kernel_rfl) (mc (by kernel_rfl) rfl)))))), b8.kp, (by (try simp only [List.length_set]) <;> first | rfl | omega), rfl⟩
  rintro a7 g6 G ⟨f4, g7, rfl⟩
  refine cr (gi a5 fun f5 a5 => aac a3 (1 : Int) (by kernel_rfl) (by kernel_rfl) f5 (wp 1 (wl (ql ?_))))
  exact ⟨(b0, a7, a3 + (1 : Int)), _, rfl, by kernel_rfl, ⟨f4.kp, (by (try simp only [List.length_set]) <;> first | rfl | omega), a5⟩, Nat.lt_succ_self _⟩
  refine acc (acb (aci (acd (ql ?_))))
  obtain rfl := oi a5
  exact ⟨a2, _, rfl, by kernel_rfl, b1.kp, (by (try simp only [List.length_set]) <;> first | rfl | omega), rfl⟩
  rintro a8 g8 G ⟨f6, g9, rfl⟩
  refine sr (wp 3 (nq (ct ?_)))
  obtain rfl := oi hr
  refine ajk (Vs a6 a8.length cap7) (Vb true) rfl (by kernel_rfl) (by kernel_rfl) ?_
  exact ⟨o5, a6, cap7, (by first | rfl | (simp; done) | (simp; omega)), f6.kp⟩
end Go.Proofs
set_option linter.unusedVariables false
set_option linter.unusedSimpArgs false
set_option maxRecDepth 20000
set_option maxHeartbeats 1000000
namespace Go.Proofs
open Go.Wk Go.Px
open Go.Value renaming slice → Vs, int → Vi, bool → Vb, pointer → Vp
theorem ent72 : Go.Wk.Enters Tryz.prog 72 := ⟨Tryz.f72, _, Tryz.func72, rfl, by kernel_rfl⟩
theorem ent77 : Go.Wk.Enters Tryz.prog 77 := ⟨Tryz.f77, _, Tryz.func77, rfl, by kernel_rfl⟩
theorem ent81 : Go.Wk.Enters Tryz.prog 81 := ⟨Tryz.f81, _, Tryz.func81, rfl, by kernel_rfl⟩
theorem ent82 : Go.Wk.Enters Tryz.prog 82 := ⟨Tryz.f82, _, Tryz.func82, rfl, by kernel_rfl⟩
theorem ent83 : Go.Wk.Enters Tryz.prog 83 := ⟨Tryz.f83, _, Tryz.func83, rfl, by kernel_rfl⟩
theorem ent140 : Go.Wk.Enters Tryz.prog 140 := ⟨Tryz.f140, _, Tryz.func140, rfl, by kernel_rfl⟩
theorem ent143 : Go.Wk.Enters Tryz.prog 143 := ⟨Tryz.f143, _, Tryz.func143, rfl, by kernel_rfl⟩
theorem ent175 : Go.Wk.Enters Tryz.prog 175 := ⟨Tryz.f175, _, Tryz.func175, rfl, by kernel_rfl⟩
theorem ent195 : Go.Wk.Enters Tryz.prog 195 := ⟨Tryz.f195, _, Tryz.func195, rfl, by kernel_rfl⟩
theorem ent227 : Go.Wk.Enters Tryz.prog 227 := ⟨Tryz.f227, _, Tryz.func227, rfl, by kernel_rfl⟩
theorem K_L_address_groups {fu : Nat} {s_0 : Str} {w : World} {r : (Str × Bool)} (hr : ama fu s_0 = some r) (hG : Gl w) : CR Tryz.prog 81 [(str s_0)] w fun v w' => v = (Value.tuple #[(str r.1), (Vb r.2)]) ∧ Hp w [] [] w' := by
  have hH : Hp w [] [] w := Hp.refl w
  refine enter (k := 71) Tryz.func81 rfl rfl (Nat.le_of_ble_eq_true rfl) ?_
  unfold ama at hr
  refine sr (wp 2 (nq (cs (sr (wp 3 (wl ?_))))))
  refine qn (cd hr (fun h1 hr => ?_) (fun h1 hr => ?_))
  refine sr (wp 2 (nq (ct (st ?_))))
  obtain rfl := oi hr
  exact rv hH.kp
  refine ck (qn (sr (wp 1 (gi hr fun g5 hr => aad 77 #[] [(str s_0), (str ([58, 58] : Str))] _ ent77 (by kernel_rfl) (by kernel_rfl) (sh_Cut s_0 ([58, 58] : Str) w g5 (hG.hp0 hH)) ?_))))
  rintro _ w2 ⟨rfl, c3⟩
  have b1 := hH.call c3; clear c3
  refine wp 7 (nq (cs (sr (wp 2 (nq (cb hr (fun h6 hr => ?_) (fun h6 hr => ?_)))))))
  refine sr (wp 1 (bi hr fun y7 d7 hr => aad 140 #[] [(str s_0)] _ ent140 (by kernel_rfl) (by kernel_rfl) (ajj d7 (hG.hp0 b1)) ?_))
  rintro _ w9 ⟨d8, b5, b6, rfl, c4⟩
  have b7 : Hp w [] [rwt eS 9 1 d8 b5 b6 y7.1] w9 := Hp.callK (L1 := []) (L2 := []) b1 c4; clear c4
  refine wp 5 (nq (bi hr fun d9 a5 hr => cut (σ := Bool) [2, 3, 4, 5] (fun b2 => [(2, (str (Lib.join y7.1 ([58] : Str)))), (3, (Vb b2))]) (fun b2 w' => Hp w [] [] w' ∧ b2 = d9) ?_ ?_))
  refine cr (wp 1 (gi a5 fun e0 a5 => aad 80 #[] [(Vs b5 y7.1.length b6), (str ([58] : Str))] _ ent80 (by kernel_rfl) (by kernel_rfl) (sh_Join ([58] : Str) w9 b5 y7.1.length b6 y7.1 rfl (b7.rdrw 0 rfl) (b7.rwcap 0 rfl) e0) ?_))
  rintro _ g6 ⟨rfl, c5⟩
  have c6 := b7.call c5; clear c5
  refine wp 1 (wb a5 (fun e1 a5 => ?_) (fun e1 a5 => ?_))
  refine wp 6 (wl (ql ?_))
  obtain rfl := oi a5
  exact ⟨(decide ((y7.1.length : Int) = (8 : Int))), _, rfl, by kernel_rfl, c6.kp, rfl⟩
  refine wp 6 (wl (ql ?_))
  obtain rfl := oi a5
  exact ⟨false, _, rfl, by kernel_rfl, c6.kp, rfl⟩
  rintro b2 g7 G ⟨e2, rfl⟩
  refine ct (st ?_)
  obtain rfl := oi hr
  exact rv e2.kp
  refine ck (qn (sr (wp 2 (nq (sr (wp 2 ?_))))))
  refine nq (bi hr fun e3 a6 hr => cut (σ := ((List Str) × Bool) × (Option Nat) × (Option Addr) × Nat) [2, 3, 5, 9, 10, 11, 12] (fun ⟨a0, a8, a3, a4⟩ => [(9, (Vs a3 a0.1.length a4)), (11, (Vb a0.2))]) (fun ⟨a0, a8, a3, a4⟩ w' => Hp w [] [rwt eS 9 1 a8 a3 a4 a0.1] w' ∧ a0 = e3) ?_ ?_)
  refine sr (wp 2 (nq (cn a6 (fun e4 a6 => ?_) (fun e4 a6 => ?_))))
  refine cr (wp 1 (bi a6 fun b8 e5 a6 => aad 140 #[] [(str ((Lib.cut s_0 ([58, 58] : Str)).1))] _ ent140 (by kernel_rfl) (by kernel_rfl) (ajj e5 (hG.hp0 b1)) ?_))
  rintro _ e6 ⟨c7, c8, c9, rfl, d0⟩
  have e7 : Hp w [] [rwt eS 9 1 c7 c8 c9 b8.1] e6 := Hp.callK (L1 := []) (L2 := []) b1 d0; clear d0
  refine wp 5 (wl (ql ?_))
  obtain rfl := oi a6
  exact ⟨((b8.1, b8.2), c7, c8, c9), _, rfl, by kernel_rfl, e7.kp, rfl⟩
  refine ck (ql ?_)
  obtain rfl := oi a6
  exact ⟨((([] : List Str), true), none, none, 0), _, rfl, (mc (by kernel_rfl) (mc (by kernel_rfl) (mc (by kernel_rfl) (mc (Eq.trans (b := (Vs none 0 0)) (by kernel_rfl) (aae (by (try simp only [List.length_set]) <;> first | rfl | omega | simp))) (mc (by kernel_rfl) (mc (by kernel_rfl) (mc (by kernel_rfl) rfl))))))), (Hp.nilrw b1 eS 9 1 none).kp, rfl⟩
  rintro ⟨a0, a8, a3, a4⟩ g8 G ⟨b9, rfl⟩
  refine bi hr fun e8 a7 hr => cut (σ := ((List Str) × Bool) × (Option Nat) × (Option Addr) × Nat) [2, 3, 9, 10, 11, 12] (fun ⟨a1, c0, a9, b0⟩ => [(10, (Vs a9 a1.1.length b0)), (12, (Vb a1.2))]) (fun ⟨a1, c0, a9, b0⟩ w' => Hp w [] [rwt eS 9 1 a8 a3 a4 a0.1, rwt eS 9 1 c0 a9 b0 a1.1] w' ∧ a1 = e8) ?_ ?_
  refine sr (wp 2 (nq (cn a7 (fun e9 a7 => ?_) (fun e9 a7 => ?_))))
  refine cr (wp 1 (bi a7 fun c1 f0 a7 => aad 140 #[] [(str ((Lib.cut s_0 ([58, 58] : Str)).2.1))] _ ent140 (by kernel_rfl) (by kernel_rfl) (ajj f0 (hG.hp0 b9)) ?_))
  rintro _ f1 ⟨d1, d2, d3, rfl, d4⟩
  have f2 : Hp w [] [rwt eS 9 1 d1 d2 d3 c1.1, rwt eS 9 1 a8 a3 a4 a0.1] f1 := Hp.callK (L1 := []) (L2 := [rwt eS 9 1 a8 a3 a4 a0.1]) b9 d4; clear d4
  refine wp 5 (wl (ql ?_))
  obtain rfl := oi a7
  exact ⟨((c1.1, c1.2), d1, d2, d3), _, rfl, by kernel_rfl, (Hp.front f2 1 _ rfl).kp, rfl⟩
  refine ck (ql ?_)
  obtain rfl := oi a7
  exact ⟨((([] : List Str), true), none, none, 0), _, rfl, (mc (by kernel_rfl) (mc (by kernel_rfl) (mc (by kernel_rfl) (mc (Eq.trans (b := (Vs none 0 0)) (by kernel_rfl) (aae (by (try simp only [List.length_set]) <;> first | rfl | omega | simp))) (mc (by kernel_rfl) (mc (by kernel_rfl) rfl)))))), (Hp.front (Hp.nilrw b9 eS 9 1 none) 1 _ rfl).kp, rfl⟩
  rintro ⟨a1, c0, a9, b0⟩ g9 G ⟨b3, rfl⟩
  refine cs (bi hr fun f3 a2 hr => afy b3 [2, 3, 9, 10, 64] [(64, (Vb f3))] ?_ ?_)
  refine cr (wp 2 (wb a2 (fun f4 a2 => ?_) (fun f4 a2 => ?_)))
  refine wp 11 (wl (ql ?_))
  obtain rfl := oi a2
  exact je (Hp.front (Hp.front b3 1 _ rfl) 1 _ rfl).kp
  refine wp 3 (wb a2 (fun f5 a2 => ?_) (fun f5 a2 => ?_))
  refine wp 7 (wl (ql ?_))
  obtain rfl := oi a2
  exact je (Hp.front (Hp.front b3 1 _ rfl) 1 _ rfl).kp
  refine wp 4 (gy 57 (gi a2 fun f6 a2 => aac (a0.1.length : Int) (a1.1.length : Int) (by kernel_rfl) (by kernel_rfl) f6 (wp 2 (wl (ql ?_)))))
  obtain rfl := oi a2
  exact je (Hp.front (Hp.front b3 1 _ rfl) 1 _ rfl).kp
  intro f7 G b4
  refine cb hr (fun f8 hr => ?_) (fun f8 hr => ?_)
  refine sr (wp 2 (nq (ct (st ?_))))
  obtain rfl := oi hr
  exact rv b4.kp
  refine ck (qn (sr (wp 1 (gi hr fun f9 hr => aad 80 #[] [(Vs a3 a0.1.length a4), (str ([58] : Str))] _ ent80 (by kernel_rfl) (by kernel_rfl) (sh_Join ([58] : Str) f7 a3 a0.1.length a4 a0.1 rfl (b4.rdrw 0 rfl) (b4.rwcap 0 rfl) f9) ?_))))
  rintro _ g0 ⟨rfl, d5⟩
  have c2 := b4.call d5; clear d5
  refine gi hr fun g1 hr => adh (Lib.join a0.1 ([58] : Str)) ([58, 58] : Str) (by kernel_rfl) (by kernel_rfl) g1 (wp 1 (gi hr fun g2 hr => aad 80 #[] [(Vs a9 a1.1.length b0), (str ([58] : Str))] _ ent80 (by kernel_rfl) (by kernel_rfl) (sh_Join ([58] : Str) g0 a9 a1.1.length b0 a1.1 rfl (c2.rdrw 1 rfl) (c2.rwcap 1 rfl) g2) ?_))
  rintro _ h0 ⟨rfl, d6⟩
  have g3 := c2.call d6; clear d6
  refine gi hr fun g4 hr => adh ((Lib.join a0.1 ([58] : Str)) ++ ([58, 58] : Str)) (Lib.join a1.1 ([58] : Str)) (by kernel_rfl) (by kernel_rfl) g4 (wp 2 (nq (ct ?_)))
  obtain rfl := oi hr
  exact rv g3.kp
theorem K_L_address_numbers {fu : Nat} {s_0 : Str} {w : World} {r : Bool} (hr : alo fu s_0 = some r) (hG : Gl w) : CR Tryz.prog 82 [(str s_0)] w fun v w' => v = (Vb r) ∧ Hp w [] [] w' := by
  have hH : Hp w [] [] w := Hp.refl w
  refine enter (k := 54) Tryz.func82 rfl rfl (Nat.le_of_ble_eq_true rfl) ?_
  unfold alo at hr
  refine sr (wp 1 (nq (cs (sr (wp 3 (wl ?_))))))
  refine qn (cd hr (fun h1 hr => ?_) (fun h1 hr => ?_))
  refine sr (wp 1 (nq (ct (st ?_))))
  obtain rfl := oi hr
  exact rv hH.kp
  refine ck (qn (sr (wp 1 (gi hr fun g5 hr => aad 141 #[] [(str s_0), (str ([46] : Str))] _ ent141 (by kernel_rfl) (by kernel_rfl) (sh_Split s_0 46 w g5 (hG.hp0 hH)) ?_))))
  rintro _ w2 ⟨o6, a7, cap8, rfl, b2⟩
  have b3 : Hp w [] [rwt eS 9 1 o6 a7 cap8 (spl 46 s_0)] w2 := Hp.callK (L1 := []) (L2 := []) hH b2; clear b2
  refine wp 1 (nq (bi hr fun b9 c0 hr => cut1 b3 b9 [2, 3] (fun c1 => []) ?_ ?_))
  refine sr (wp 3 (nq (ce (lpS (fun b4 a1 => agx fu s_0 b4 a1) (0 : Int) b3 c0 [2, 3, 13, 14, 15] (fun a1 => [(15, (Vi .i64 a1))]) (fun _ => rfl) ?_))))
  rintro b4 a1 e7 G a8 a3
  rw [agx.eq_2] at a3
  refine sr (wp 1 (nq (cs (cd a3 (fun c2 a3 => ?_) (fun c2 a3 => ?_)))))
  refine ck (qn (bi a3 fun c3 a2 a3 => cut1 a8 c3 [2, 3, 13, 14, 15] (fun c4 => []) ?_ ?_))
  refine ce (sr (gi a2 fun c5 a2 => afk a7 ((spl 46 s_0).length) cap8 9 1 .i64 a1 Tryz.underlying54 (by kernel_rfl) (by kernel_rfl) (by kernel_rfl) (spl 46 s_0) rfl c5 (a8.rdrw 0 rfl) alw (by decide) (gi a2 fun c6 a2 => ajy a7 eS (spl 46 s_0) 1 a1 alw (a8.rdrw 0 rfl) (str (el (spl 46 s_0) a1)) c6 (by decide) (by kernel_rfl) (by kernel_rfl) (by kernel_rfl) (wp 1 (nq ?_)))))
  refine sr (wp 1 (nq (bi a2 fun c7 c8 a2 => cut1 a8 c7 [2, 3, 5, 6, 13, 14, 15] (fun b0 => [(6, (Vi .i64 b0))]) ?_ ?_)))
  refine sr (wp 3 (nq (ce (lpS (fun b5 ⟨a6, a4⟩ => agw fu s_0 a1 b5 a6 a4) ((0 : Int), (0 : Int)) a8 c8 [2, 3, 5, 6, 13, 14, 15, 20, 21] (fun ⟨a6, a4⟩ => [(6, (Vi .i64 a6)), (21, (Vi .i64 a4))]) (fun _ => rfl) ?_))))
  rintro b5 ⟨a6, a4⟩ e8 G b1 a0
  dsimp only at a0
  rw [agw.eq_2] at a0
  refine sr (wp 1 (nq (cs (cd a0 (fun c9 a0 => ?_) (fun c9 a0 => ?_)))))
  refine ck (qn (cs (ce (sr (wp 2 (nq (cs ?_)))))))
  refine sr (wp 2 (gi a0 fun d0 a0 => adc (el (spl 46 s_0) a1) .i64 a4 Tryz.underlying9 (by kernel_rfl) (by kernel_rfl) d0 (bi a0 fun e9 d1 a0 => wc ent142 b1 (agi d1 (hG.hp0 b1)) fun f0 b6 => wp 1 (nq (cb a0 (fun d2 a0 => ?_) (fun d2 a0 => ?_))))))
  refine sr (wp 1 (nq (ct (st (bt_ (st (ach ?_)))))))
  refine bt_ (ach ?_)
  obtain rfl := oi a0
  refine bt_ (ach ?_)
  obtain rfl := oi a2
  refine ach (bt_ (ach ?_))
  obtain rfl := oi a3
  obtain rfl := oi hr
  exact rv b6.kp
  refine ck (qn (cr (wp 1 (gi a0 fun d3 a0 => anj (10 : Int) a6 (by kernel_rfl) (by kernel_rfl) d3 (wp 2 (gi a0 fun d4 a0 => adc (el (spl 46 s_0) a1) .i64 a4 Tryz.underlying9 (by kernel_rfl) (by kernel_rfl) d4 (w8_sub (at_ (el (spl 46 s_0) a1) a4) (48 : UInt8) (by kernel_rfl) (by kernel_rfl) ?_)))))))
  refine w_convx .i64 .u8 (((at_ (el (spl 46 s_0) a1) a4) - (48 : UInt8)).toNat : Int) Tryz.underlying5 Tryz.underlying3 (by kernel_rfl) (wrap_u8_i64 _) (gi a0 fun d5 a0 => aac ((10 : Int) * a6) (((at_ (el (spl 46 s_0) a1) a4) - (48 : UInt8)).toNat : Int) (by kernel_rfl) (by kernel_rfl) d5 (wp 1 (wl (bn (qn (cr (gi a0 fun d6 a0 => aac a4 (1 : Int) (by kernel_rfl) (by kernel_rfl) d6 ?_)))))))
  exact wp 1 (wl (ql (le' (((10 : Int) * a6) + (((at_ (el (spl 46 s_0) a1) a4) - (48 : UInt8)).toNat : Int), a4 + (1 : Int)) b6.kp a0)))
  refine acc (acb (aci (acd (ql ?_))))
  obtain rfl := oi a0
  exact je1 rfl b1.kp
  rintro b0 d7 G a9 rfl
  refine bi a2 fun d8 a5 a2 => afy a9 [2, 3, 13, 14, 15, 49] [(49, (Vb d8))] ?_ ?_
  refine cr (wp 2 (wd a5 (fun d9 a5 => ?_) (fun d9 a5 => ?_)))
  refine wp 9 (wl (ql ?_))
  obtain rfl := oi a5
  exact je a9.kp
  refine wp 3 (wd a5 (fun e0 a5 => ?_) (fun e0 a5 => ?_))
  refine wp 5 (wl (ql ?_))
  obtain rfl := oi a5
  exact je a9.kp
  refine wp 2 (gy 44 (gi a5 fun e1 a5 => aad 72 #[] [(Vi .i64 b0)] _ ent72 (by kernel_rfl) (by kernel_rfl) (sh_Itoa b0 d7 e1 (hG.hp0 a9)) ?_))
  rintro _ f1 ⟨rfl, b7⟩
  have e2 := a9.call b7; clear b7
  refine wp 2 (wl (ql ?_))
  obtain rfl := oi a5
  exact je e2.kp
  intro f2 G b8
  refine cb a2 (fun e3 a2 => ?_) (fun e3 a2 => ?_)
  refine sr (wp 1 (nq (ct (bt_ (ach ?_)))))
  obtain rfl := oi a2
  refine ach (bt_ (ach ?_))
  obtain rfl := oi a3
  obtain rfl := oi hr
  exact rv b8.kp
  refine ck (bn (ql ?_))
  obtain rfl := oi a2
  exact je1 rfl b8.kp
  rintro c4 f3 G e4 rfl
  exact cr (gi a3 fun e5 a3 => aac a1 (1 : Int) (by kernel_rfl) (by kernel_rfl) e5 (wp 1 (wl (ql (le' (a1 + (1 : Int)) e4.kp a3)))))
  refine acc (acb (aci (acd (ql ?_))))
  obtain rfl := oi a3
  exact je1 rfl a8.kp
  rintro c1 f4 G e6 rfl
  refine sr (wp 4 (nq (ct ?_)))
  obtain rfl := oi hr
  exact rv e6.kp
theorem K_L_strings_splitSeq {fu : Nat} {s_0 : Str} {a0 : Str} {a1 : Int} {w : World} {r : (Str × Str × Int)} (hr : akw fu s_0 a0 a1 = some r) (hG : Gl w) : CR Tryz.prog 195 [(str s_0), (str a0), (Vi .i64 a1)] w fun v w' => ∃ (b0 : Nat), ∃ (b1 : Nat), ∃ (b2 : Nat), v = (Value.func (.func 227) #[] #[(Vp (some ⟨b0, 0, none⟩)), (Vp (some ⟨b1, 0, none⟩)), (Vp (some ⟨b2, 0, none⟩))]) ∧ Hp w [] [blk b0 [(str r.1)] 9, blk b1 [(str r.2.1)] 9, blk b2 [(Vi .i64 r.2.2)] 3] w' := by
  have hH : Hp w [] [] w := Hp.refl w
  refine enter (k := 8) Tryz.func195 rfl rfl (Nat.le_of_ble_eq_true rfl) ?_
  unfold akw at hr
  refine sr (acx hH [(str s_0)] 9 (fun b => (Vp (some ⟨b, 0, none⟩))) rfl rfl (by kernel_rfl) fun b1 w2 a2 => acx a2 [(str a0)] 9 (fun b => (Vp (some ⟨b, 0, none⟩))) rfl rfl (by kernel_rfl) fun b4 w5 a3 => acx a3 [(Vi .i64 a1)] 3 (fun b => (Vp (some ⟨b, 0, none⟩))) rfl rfl (by kernel_rfl) fun b7 w8 a4 => wp 1 (nq (sr ?_)))
  refine wp 2 (nq (ct ?_))
  obtain rfl := oi hr
  refine ano (Value.func (.func 227) #[] #[(Vp (some ⟨b4, 0, none⟩)), (Vp (some ⟨b1, 0, none⟩)), (Vp (some ⟨b7, 0, none⟩))]) rfl (by kernel_rfl) ?_
  exact ⟨b4, b1, b7, (by first | rfl | (simp; done) | (simp; omega)), (Hp.front (Hp.front a4 2 _ rfl) 2 _ rfl).kp⟩
theorem K_L_strings_SplitSeq {fu : Nat} {s_0 : Str} {a0 : Str} {w : World} {r : (Str × Str × Int)} (hr : akx fu s_0 a0 = some r) (hG : Gl w) : CR Tryz.prog 143 [(str s_0), (str a0)] w fun v w' => ∃ (b0 : Nat), ∃ (b1 : Nat), ∃ (b2 : Nat), v = (Value.func (.func 227) #[] #[(Vp (some ⟨b0, 0, none⟩)), (Vp (some ⟨b1, 0, none⟩)), (Vp (some ⟨b2, 0, none⟩))]) ∧ Hp w [] [blk b0 [(str r.1)] 9, blk b1 [(str r.2.1)] 9, blk b2 [(Vi .i64 r.2.2)] 3] w' := by
  have hH : Hp w [] [] w := Hp.refl w
  refine enter (k := 8) Tryz.func143 rfl rfl (Nat.le_of_ble_eq_true rfl) ?_
  unfold akx at hr
  refine sr (wp 1 (nq (sr (wp 2 (bi hr fun y1 a2 hr => aad 195 #[] [(str s_0), (str a0), (Vi .i64 (0 : Int))] _ ent195 (by kernel_rfl) (by kernel_rfl) (K_L_strings_splitSeq a2 (hG.hp0 hH)) ?_)))))
  rintro _ w3 ⟨b6, b7, b8, rfl, a1⟩
  have a3 : Hp w [] [blk b6 [(str y1.1)] 9, blk b7 [(str y1.2.1)] 9, blk b8 [(Vi .i64 y1.2.2)] 3] w3 := Hp.callK (L1 := []) (L2 := []) hH a1; clear a1
  refine wp 1 (nq (ct ?_))
  obtain rfl := oi hr
  refine ano (Value.func (.func 227) #[] #[(Vp (some ⟨b6, 0, none⟩)), (Vp (some ⟨b7, 0, none⟩)), (Vp (some ⟨b8, 0, none⟩))]) rfl (by kernel_rfl) ?_
  exact ⟨b6, b7, b8, (by first | rfl | (simp; done) | (simp; omega)), (Hp.front (Hp.front (Hp.front a3 2 _ rfl) 2 _ rfl) 2 _ rfl).kp⟩
theorem ajc {fu : Nat} {b3 : Bool} {b4 : Bool} {a0 : Str} {b1 : Str} {a2 : Int} (a1 : Nat) (a4 : Loop) (a5 : Nat) (a6 : Nat) (a7 : Nat) (a3 : Nat) (a8 : Nat) {w : World} {r : (Bool × Bool × Str × Nat)} (hr : aea fu b3 b4 a0 b1 a2 = some r) (hG : Gl w) (hM : Hp w (aah [afd a1 0 a4, blk a5 [(Vb b3)] 4, blk a6 [(Vb b4)] 4, blk a7 [(str a0)] 9, blk a3 [(str b1)] 9, blk a8 [(Vi .i64 a2)] 3]) [afd a1 0 a4, blk a5 [(Vb b3)] 4, blk a6 [(Vb b4)] 4, blk a7 [(str a0)] 9, blk a3 [(str b1)] 9, blk a8 [(Vi .i64 a2)] 3] w) (hS : ∀ b ∈ aah [afd a1 0 a4, blk a5 [(Vb b3)] 4, blk a6 [(Vb b4)] 4, blk a7 [(str a0)] 9, blk a3 [(str b1)] 9, blk a8 [(Vi .i64 a2)] 3], 9 ≤ b) (d2 : ∀  (d3 : Str) (c9 : Bool) (d0 : Bool) (w_ : World), Hp w (aah [afd a1 0 a4, blk a5 [(Vb b3)] 4, blk a6 [(Vb b4)] 4, blk a7 [(str a0)] 9, blk a3 [(str b1)] 9, blk a8 [(Vi .i64 a2)] 3]) [afd a1 0 a4, blk a5 [(Vb c9)] 4, blk a6 [(Vb d0)] 4] w_ → ∀ (yr : (Nat × Bool × Bool)), agk fu d3 c9 d0 = some yr → YR Tryz.prog a1 [(str d3)] w_ fun v e3 => v = Vb (decide (yr.1 = 0)) ∧ Hp w_ (aah [afd a1 0 a4, blk a5 [(Vb c9)] 4, blk a6 [(Vb d0)] 4]) [afd a1 yr.1 a4, blk a5 [(Vb yr.2.1)] 4, blk a6 [(Vb yr.2.2)] 4] e3) : CR Tryz.prog 227 [(Value.func (.yield a1) #[] #[]), (Vp (some ⟨a7, 0, none⟩)), (Vp (some ⟨a3, 0, none⟩)), (Vp (some ⟨a8, 0, none⟩))] w fun v w' => v = (Value.tuple #[]) ∧ Hp w (aah [afd a1 0 a4, blk a5 [(Vb b3)] 4, blk a6 [(Vb b4)] 4, blk a7 [(str a0)] 9, blk a3 [(str b1)] 9, blk a8 [(Vi .i64 a2)] 3]) [blk a5 [(Vb r.1)] 4, blk a6 [(Vb r.2.1)] 4, blk a7 [(str a0)] 9, blk a3 [(str r.2.2.1)] 9, blk a8 [(Vi .i64 a2)] 3, afd a1 r.2.2.2 a4] w' := by
  have hH : Hp w (aah [afd a1 0 a4, blk a5 [(Vb b3)] 4, blk a6 [(Vb b4)] 4, blk a7 [(str a0)] 9, blk a3 [(str b1)] 9, blk a8 [(Vi .i64 a2)] 3]) [afd a1 0 a4, blk a5 [(Vb b3)] 4, blk a6 [(Vb b4)] 4, blk a7 [(str a0)] 9, blk a3 [(str b1)] 9, blk a8 [(Vi .i64 a2)] 3] w := hM
  refine enterF (k := 52) Tryz.func227 rfl rfl (Nat.le_of_ble_eq_true rfl) ?_
  unfold aea at hr
  refine bi hr fun e4 b8 hr => cut1 hH e4 [0, 1, 2, 3] (fun e5 => []) ?_ ?_
  refine sr (aav hH 3 a7 0 [(str a0)] 9 (str a0) rfl rfl (by kernel_rfl) (by kernel_rfl) (wp 2 (nq (cd b8 (fun e6 b8 => ?_) (fun e6 b8 => ?_)))))
  refine bi b8 fun h0 e7 b8 => afy hH [0, 1, 2, 3] [] ?_ ?_
  refine ce (lpS (fun d4 (_ : Unit) => ado fu b1 d4) () hH e7 [0, 1, 2, 3] (fun (_ : Unit) => []) (fun _ => rfl) ?_)
  rintro d4 _ h1 G d5 c0
  rw [ado.eq_2] at c0
  refine cs (sr (aav d5 4 a3 0 [(str b1)] 9 (str b1) rfl rfl (by kernel_rfl) (by kernel_rfl) (wp 2 (nq (cd c0 (fun e8 c0 => ?_) (fun e8 c0 => ?_))))))
  exact absurd c0 (by simp)
  refine acc (acb (aci (acd (ql ?_))))
  obtain rfl := oi c0
  exact je (Hp.front (Hp.front (Hp.front (Hp.front (Hp.front (Hp.front d5 5 _ rfl) 5 _ rfl) 5 _ rfl) 5 _ rfl) 5 _ rfl) 5 _ rfl).kp
  intro h2 G e9
  refine ct (ach ?_)
  obtain rfl := oi b8
  obtain rfl := oi hr
  refine r_none  rfl  ?_
  exact ⟨(by first | rfl | (simp; done) | (simp; omega)), (Hp.front (Hp.front (Hp.front (Hp.front (Hp.front e9 5 _ rfl) 5 _ rfl) 5 _ rfl) 5 _ rfl) 5 _ rfl).kp⟩
  refine ck (ql ?_)
  obtain rfl := oi b8
  exact je1 rfl (Hp.front (Hp.front (Hp.front (Hp.front (Hp.front (Hp.front hH 5 _ rfl) 5 _ rfl) 5 _ rfl) 5 _ rfl) 5 _ rfl) 5 _ rfl).kp
  rintro e5 h3 G f0 rfl
  refine bi hr fun d6 f1 hr => cut (σ := (Bool × Bool × Str)) [0, 2] (fun b0 => []) (fun b0 w' => Hp w (aah [afd a1 0 a4, blk a5 [(Vb b3)] 4, blk a6 [(Vb b4)] 4, blk a7 [(str a0)] 9, blk a3 [(str b1)] 9, blk a8 [(Vi .i64 a2)] 3]) [afd a1 0 a4, blk a5 [(Vb b0.1)] 4, blk a6 [(Vb b0.2.1)] 4, blk a7 [(str a0)] 9, blk a3 [(str b0.2.2)] 9, blk a8 [(Vi .i64 a2)] 3] w' ∧ .inl b0 = d6) ?_ ?_
  refine ce (lpG (σ := Nat × Bool × Bool × Str) [0, 1, 2, 3] (fun ⟨c1, b5, b6, a9⟩ => []) (fun ⟨c1, b5, b6, a9⟩ w' => Hp w (aah [afd a1 0 a4, blk a5 [(Vb b3)] 4, blk a6 [(Vb b4)] 4, blk a7 [(str a0)] 9, blk a3 [(str b1)] 9, blk a8 [(Vi .i64 a2)] 3]) [afd a1 0 a4, blk a5 [(Vb b5)] 4, blk a6 [(Vb b6)] 4, blk a7 [(str a0)] 9, blk a3 [(str a9)] 9, blk a8 [(Vi .i64 a2)] 3] w' ∧ acq fu a0 a2 c1 b5 b6 a9 = some d6) (fun ⟨c1, b5, b6, a9⟩ => c1) (fu, b3, b4, b1) (by exact ⟨(Hp.front (Hp.front (Hp.front (Hp.front (Hp.front (Hp.front f0 5 _ rfl) 5 _ rfl) 5 _ rfl) 5 _ rfl) 5 _ rfl) 5 _ rfl).kp, f1⟩) ?_)
  rintro ⟨_ | c1, b5, b6, a9⟩ f2 G ⟨c7, b2⟩
  · exact absurd (show none = some _ from b2) (by simp)
  rw [acq.eq_2] at b2
  refine ce (sr (aav c7 4 a3 0 [(str a9)] 9 (str a9) rfl rfl (by kernel_rfl) (by kernel_rfl) (aav c7 3 a7 0 [(str a0)] 9 (str a0) rfl rfl (by kernel_rfl) (by kernel_rfl) (gi b2 fun f3 b2 => aad 175 #[] [(str a9), (str a0)] _ ent175 (by kernel_rfl) (by kernel_rfl) (sh_Index a9 a0 f2 f3 (hG.hp c7 hS)) ?_))))
  rintro _ c2 ⟨rfl, d7⟩
  have c8 := c7.call d7; clear d7
  refine wp 1 (nq (cs (sr (wp 2 (nq (cd b2 (fun f4 b2 => ?_) (fun f4 b2 => ?_)))))))
  refine acc (acb (b_past (by kernel_rfl) (aci (acd (ql ?_)))))
  obtain rfl := oi b2
  exact ⟨(b5, b6, a9), _, rfl, by kernel_rfl, (Hp.front (Hp.front (Hp.front (Hp.front (Hp.front (Hp.front c8 5 _ rfl) 5 _ rfl) 5 _ rfl) 5 _ rfl) 5 _ rfl) 5 _ rfl).kp, rfl⟩
  refine ck (qn (sr (aav c8 4 a3 0 [(str a9)] 9 (str a9) rfl rfl (by kernel_rfl) (by kernel_rfl) (wp 1 (aav c8 5 a8 0 [(Vi .i64 a2)] 3 (Vi .i64 a2) rfl rfl (by kernel_rfl) (by kernel_rfl) (gi b2 fun f5 b2 => aac (Lib.index a9 a0) a2 (by kernel_rfl) (by kernel_rfl) f5 (gi b2 fun f6 b2 => ?_)))))))
  refine alk a9 .i64 ((Lib.index a9 a0) + a2) Tryz.underlying9 (by kernel_rfl) (by kernel_rfl) f6 (wp 1 (nq (cs (sr (wp 2 (bi b2 fun b7 f7 b2 => ?_))))))
  have f8 : Hp w (aah [afd a1 0 a4, blk a5 [(Vb b3)] 4, blk a6 [(Vb b4)] 4, blk a7 [(str a0)] 9, blk a3 [(str b1)] 9, blk a8 [(Vi .i64 a2)] 3]) [blk a6 [(Vb b6)] 4, afd a1 0 a4, blk a5 [(Vb b5)] 4, blk a7 [(str a0)] 9, blk a3 [(str a9)] 9, blk a8 [(Vi .i64 a2)] 3] c2 := c8.front 2 _ rfl
  have f9 : Hp w (aah [afd a1 0 a4, blk a5 [(Vb b3)] 4, blk a6 [(Vb b4)] 4, blk a7 [(str a0)] 9, blk a3 [(str b1)] 9, blk a8 [(Vi .i64 a2)] 3]) [blk a5 [(Vb b5)] 4, blk a6 [(Vb b6)] 4, afd a1 0 a4, blk a7 [(str a0)] 9, blk a3 [(str a9)] 9, blk a8 [(Vi .i64 a2)] 3] c2 := f8.front 2 _ rfl
  have d8 : Hp w (aah [afd a1 0 a4, blk a5 [(Vb b3)] 4, blk a6 [(Vb b4)] 4, blk a7 [(str a0)] 9, blk a3 [(str b1)] 9, blk a8 [(Vi .i64 a2)] 3]) [afd a1 0 a4, blk a5 [(Vb b5)] 4, blk a6 [(Vb b6)] 4, blk a7 [(str a0)] 9, blk a3 [(str a9)] 9, blk a8 [(Vi .i64 a2)] 3] c2 := f9.front 2 _ rfl
  have g0 : Hp w (aah [afd a1 0 a4, blk a5 [(Vb b3)] 4, blk a6 [(Vb b4)] 4, blk a7 [(str a0)] 9, blk a3 [(str b1)] 9, blk a8 [(Vi .i64 a2)] 3]) [afd a1 0 a4, blk a5 [(Vb b5)] 4, blk a6 [(Vb b6)] 4] c2 := Hp.keep (L1 := [afd a1 0 a4, blk a5 [(Vb b5)] 4, blk a6 [(Vb b6)] 4]) (L2 := [blk a7 [(str a0)] 9, blk a3 [(str a9)] 9, blk a8 [(Vi .i64 a2)] 3]) d8
  refine w_yield a1 [(str (List.take (Int.toNat ((Lib.index a9 a0) + a2)) a9))] _ (by kernel_rfl) (by kernel_rfl) (d2 (List.take (Int.toNat ((Lib.index a9 a0) + a2)) a9) b5 b6 c2 g0 b7 f7) ?_
  rintro _ g1 ⟨rfl, d9⟩
  have c3 : Hp w (aah [afd a1 0 a4, blk a5 [(Vb b3)] 4, blk a6 [(Vb b4)] 4, blk a7 [(str a0)] 9, blk a3 [(str b1)] 9, blk a8 [(Vi .i64 a2)] 3]) [afd a1 b7.1 a4, blk a5 [(Vb b7.2.1)] 4, blk a6 [(Vb b7.2.2)] 4, blk a7 [(str a0)] 9, blk a3 [(str a9)] 9, blk a8 [(Vi .i64 a2)] 3] g1 := Hp.callK (L1 := [afd a1 0 a4, blk a5 [(Vb b5)] 4, blk a6 [(Vb b6)] 4]) (L2 := [blk a7 [(str a0)] 9, blk a3 [(str a9)] 9, blk a8 [(Vi .i64 a2)] 3]) d8 d9; clear d9
  by_cases c4 : b7.1 = 0
  replace b2 := ift c4 b2
  rw [c4] at c3
  rw [show decide (b7.1 = 0) = true from (decide_eq_true c4)]
  refine wp 1 (nq (c_false (by kernel_rfl) (ck (qn (cr (aav c3 4 a3 0 [(str a9)] 9 (str a9) rfl rfl (by kernel_rfl) (by kernel_rfl) (wp 1 (aav c3 3 a7 0 [(str a0)] 9 (str a0) rfl rfl (by kernel_rfl) (by kernel_rfl) ?_))))))))
  refine wp 1 (gi b2 fun g2 b2 => aac (Lib.index a9 a0) (a0.length : Int) (by kernel_rfl) (by kernel_rfl) g2 (gi b2 fun g3 b2 => agt a9 .i64 ((Lib.index a9 a0) + (a0.length : Int)) Tryz.underlying9 (by kernel_rfl) (by kernel_rfl) g3 (aet c3 4 a3 0 [(str a9)] 9 (str (List.drop (Int.toNat ((Lib.index a9 a0) + (a0.length : Int))) a9)) [afd a1 0 a4, blk a5 [(Vb b7.2.1)] 4, blk a6 [(Vb b7.2.2)] 4, blk a7 [(str a0)] 9, blk a3 [(str (List.drop (Int.toNat ((Lib.index a9 a0) + (a0.length : Int))) a9))] 9, blk a8 [(Vi .i64 a2)] 3] rfl (Nat.lt_of_lt_of_le (Nat.lt_succ_self _) (Nat.le_of_ble_eq_true rfl)) (by kernel_rfl) (by kernel_rfl) rfl (by kernel_rfl) rfl fun h4 g4 => wl (bn (ql ?_)))))
  exact ⟨(c1, b7.2.1, b7.2.2, List.drop (Int.toNat ((Lib.index a9 a0) + (a0.length : Int))) a9), _, rfl, by kernel_rfl, ⟨(Hp.front (Hp.front (Hp.front (Hp.front (Hp.front (Hp.front g4 5 _ rfl) 5 _ rfl) 5 _ rfl) 5 _ rfl) 5 _ rfl) 5 _ rfl).kp, b2⟩, Nat.lt_succ_self _⟩
  replace b2 := ifn c4 b2
  rw [show decide (b7.1 = 0) = false from (decide_eq_false c4)]
  refine wp 1 (nq (c_true (by kernel_rfl) (ct (st (bt_ (ach (bt_ (ach ?_))))))))
  obtain rfl := oi b2
  obtain rfl := oi hr
  refine r_none  rfl  ?_
  exact ⟨(by first | rfl | (simp; done) | (simp; omega)), (Hp.front (Hp.front (Hp.front (Hp.front (Hp.front c3 5 _ rfl) 5 _ rfl) 5 _ rfl) 5 _ rfl) 5 _ rfl).kp⟩
  rintro b0 c5 G ⟨e0, rfl⟩
  refine cr (wp 1 (aav e0 4 a3 0 [(str b0.2.2)] 9 (str b0.2.2) rfl rfl (by kernel_rfl) (by kernel_rfl) (bi hr fun b9 g5 hr => ?_)))
  have g6 : Hp w (aah [afd a1 0 a4, blk a5 [(Vb b3)] 4, blk a6 [(Vb b4)] 4, blk a7 [(str a0)] 9, blk a3 [(str b1)] 9, blk a8 [(Vi .i64 a2)] 3]) [blk a6 [(Vb b0.2.1)] 4, afd a1 0 a4, blk a5 [(Vb b0.1)] 4, blk a7 [(str a0)] 9, blk a3 [(str b0.2.2)] 9, blk a8 [(Vi .i64 a2)] 3] c5 := e0.front 2 _ rfl
  have g7 : Hp w (aah [afd a1 0 a4, blk a5 [(Vb b3)] 4, blk a6 [(Vb b4)] 4, blk a7 [(str a0)] 9, blk a3 [(str b1)] 9, blk a8 [(Vi .i64 a2)] 3]) [blk a5 [(Vb b0.1)] 4, blk a6 [(Vb b0.2.1)] 4, afd a1 0 a4, blk a7 [(str a0)] 9, blk a3 [(str b0.2.2)] 9, blk a8 [(Vi .i64 a2)] 3] c5 := g6.front 2 _ rfl
  have e1 : Hp w (aah [afd a1 0 a4, blk a5 [(Vb b3)] 4, blk a6 [(Vb b4)] 4, blk a7 [(str a0)] 9, blk a3 [(str b1)] 9, blk a8 [(Vi .i64 a2)] 3]) [afd a1 0 a4, blk a5 [(Vb b0.1)] 4, blk a6 [(Vb b0.2.1)] 4, blk a7 [(str a0)] 9, blk a3 [(str b0.2.2)] 9, blk a8 [(Vi .i64 a2)] 3] c5 := g7.front 2 _ rfl
  have g8 : Hp w (aah [afd a1 0 a4, blk a5 [(Vb b3)] 4, blk a6 [(Vb b4)] 4, blk a7 [(str a0)] 9, blk a3 [(str b1)] 9, blk a8 [(Vi .i64 a2)] 3]) [afd a1 0 a4, blk a5 [(Vb b0.1)] 4, blk a6 [(Vb b0.2.1)] 4] c5 := Hp.keep (L1 := [afd a1 0 a4, blk a5 [(Vb b0.1)] 4, blk a6 [(Vb b0.2.1)] 4]) (L2 := [blk a7 [(str a0)] 9, blk a3 [(str b0.2.2)] 9, blk a8 [(Vi .i64 a2)] 3]) e1
  refine w_yield a1 [(str b0.2.2)] _ (by kernel_rfl) (by kernel_rfl) (d2 b0.2.2 b0.1 b0.2.1 c5 g8 b9 g5) ?_
  rintro _ g9 ⟨rfl, e2⟩
  have d1 : Hp w (aah [afd a1 0 a4, blk a5 [(Vb b3)] 4, blk a6 [(Vb b4)] 4, blk a7 [(str a0)] 9, blk a3 [(str b1)] 9, blk a8 [(Vi .i64 a2)] 3]) [afd a1 b9.1 a4, blk a5 [(Vb b9.2.1)] 4, blk a6 [(Vb b9.2.2)] 4, blk a7 [(str a0)] 9, blk a3 [(str b0.2.2)] 9, blk a8 [(Vi .i64 a2)] 3] g9 := Hp.callK (L1 := [afd a1 0 a4, blk a5 [(Vb b0.1)] 4, blk a6 [(Vb b0.2.1)] 4]) (L2 := [blk a7 [(str a0)] 9, blk a3 [(str b0.2.2)] 9, blk a8 [(Vi .i64 a2)] 3]) e1 e2; clear e2
  by_cases c6 : b9.1 = 0
  replace hr := ift c6 hr
  rw [c6] at d1
  rw [show decide (b9.1 = 0) = true from (decide_eq_true c6)]
  refine wl ?_
  obtain rfl := oi hr
  refine ahp  rfl  ?_
  exact ⟨(by first | rfl | (simp; done) | (simp; omega)), (Hp.front (Hp.front (Hp.front (Hp.front (Hp.front d1 5 _ rfl) 5 _ rfl) 5 _ rfl) 5 _ rfl) 5 _ rfl).kp⟩
  replace hr := ifn c6 hr
  rw [show decide (b9.1 = 0) = false from (decide_eq_false c6)]
  refine wl ?_
  obtain rfl := oi hr
  refine ahp  rfl  ?_
  exact ⟨(by first | rfl | (simp; done) | (simp; omega)), (Hp.front (Hp.front (Hp.front (Hp.front (Hp.front d1 5 _ rfl) 5 _ rfl) 5 _ rfl) 5 _ rfl) 5 _ rfl).kp⟩
theorem K_L_address_named {fu : Nat} {s_0 : Str} {w : World} {r : Bool} (hr : amt fu s_0 = some r) (hG : Gl w) : CR Tryz.prog 83 [(str s_0)] w fun v w' => v = (Vb r) ∧ Hp w [] [] w' := by
  have hH : Hp w [] [] w := Hp.refl w
  refine enterM (k := 67) Tryz.func83 rfl rfl (Nat.le_of_ble_eq_true rfl) ?_
  unfold amt at hr
  refine sr (acx hH [(Vb false)] 4 (fun b => (Vp (some ⟨b, 0, none⟩))) rfl rfl (by kernel_rfl) fun b1 w2 c6 => nq (cs (bi hr fun v8 c0 hr => afy c6 [0, 2, 14] [(14, (Vb v8))] ?_ ?_)))
  refine cr (wp 3 (wd c0 (fun h9 c0 => ?_) (fun h9 c0 => ?_)))
  refine wp 4 (wl (ql ?_))
  obtain rfl := oi c0
  exact je c6.kp
  refine wp 4 (wl (ql ?_))
  obtain rfl := oi c0
  exact je c6.kp
  intro j5 G d5
  refine cb hr (fun e3 hr => ?_) (fun e3 hr => ?_)
  refine sr (aet d5 0 b1 0 [(Vb false)] 4 (Vb false) [blk b1 [(Vb false)] 4] rfl (Nat.lt_of_lt_of_le (Nat.lt_succ_self _) (Nat.le_of_ble_eq_true rfl)) (by kernel_rfl) (by kernel_rfl) rfl (by kernel_rfl) rfl fun j6 d6 => nq (ct (st ?_)))
  obtain rfl := oi hr
  refine m_fin0 _ [(Vb false)] (Vb false) rfl rfl (aaf (rok_one d6 0 b1 4 (Vb false) rfl (by kernel_rfl) (by kernel_rfl)) adz) rfl ?_
  exact ⟨(by first | rfl | (simp; done) | (simp; omega)), d6.kp⟩
  refine ck (qn (sr (acx d5 [(Vb false)] 4 (fun b => (Vp (some ⟨b, 0, none⟩))) rfl rfl (by kernel_rfl) fun a1 j7 e4 => aet e4 0 a1 0 [(Vb false)] 4 (Vb false) [blk a1 [(Vb false)] 4, blk b1 [(Vb false)] 4] rfl (Nat.lt_of_lt_of_le (Nat.lt_succ_self _) (Nat.le_of_ble_eq_true rfl)) (by kernel_rfl) (by kernel_rfl) rfl (by kernel_rfl) rfl fun j8 d7 => nq (cs (cs ?_)))))
  refine cr (wp 1 (bi hr fun a0 e5 hr => aad 143 #[] [(str s_0), (str ([46] : Str))] _ ent143 (by kernel_rfl) (by kernel_rfl) (K_L_strings_SplitSeq e5 (hG.hp0 d7)) ?_))
  rintro _ e6 ⟨a7, a8, a9, rfl, d8⟩
  have e7 : Hp w [] [blk a7 [(str a0.1)] 9, blk a8 [(str a0.2.1)] 9, blk a9 [(Vi .i64 a0.2.2)] 3, blk a1 [(Vb false)] 4, blk b1 [(Vb false)] 4] e6 := Hp.callK (L1 := []) (L2 := [blk a1 [(Vb false)] 4, blk b1 [(Vb false)] 4]) d7 d8; clear d8
  refine nq (ce (c_rangeFunc e7 227 [(Vp (some ⟨a7, 0, none⟩)), (Vp (some ⟨a8, 0, none⟩)), (Vp (some ⟨a9, 0, none⟩))] (by kernel_rfl) ent227 fun b0 a2 a4 b8 e8 e9 f0 f1 f2 => bi hr fun a3 f3 hr => ?_))
  have f4 : Hp w [] [blk a9 [(Vi .i64 a0.2.2)] 3, afd a2 0 a4, dfr b0, blk a7 [(str a0.1)] 9, blk a8 [(str a0.2.1)] 9, blk a1 [(Vb false)] 4, blk b1 [(Vb false)] 4] b8 := f2.front 4 _ rfl
  have f5 : Hp w [] [blk a8 [(str a0.2.1)] 9, blk a9 [(Vi .i64 a0.2.2)] 3, afd a2 0 a4, dfr b0, blk a7 [(str a0.1)] 9, blk a1 [(Vb false)] 4, blk b1 [(Vb false)] 4] b8 := f4.front 4 _ rfl
  have f6 : Hp w [] [blk a7 [(str a0.1)] 9, blk a8 [(str a0.2.1)] 9, blk a9 [(Vi .i64 a0.2.2)] 3, afd a2 0 a4, dfr b0, blk a1 [(Vb false)] 4, blk b1 [(Vb false)] 4] b8 := f5.front 4 _ rfl
  have f7 : Hp w [] [blk b1 [(Vb false)] 4, blk a7 [(str a0.1)] 9, blk a8 [(str a0.2.1)] 9, blk a9 [(Vi .i64 a0.2.2)] 3, afd a2 0 a4, dfr b0, blk a1 [(Vb false)] 4] b8 := f6.front 6 _ rfl
  have f8 : Hp w [] [blk a1 [(Vb false)] 4, blk b1 [(Vb false)] 4, blk a7 [(str a0.1)] 9, blk a8 [(str a0.2.1)] 9, blk a9 [(Vi .i64 a0.2.2)] 3, afd a2 0 a4, dfr b0] b8 := f7.front 6 _ rfl
  have c1 : Hp w [] [afd a2 0 a4, blk a1 [(Vb false)] 4, blk b1 [(Vb false)] 4, blk a7 [(str a0.1)] 9, blk a8 [(str a0.2.1)] 9, blk a9 [(Vi .i64 a0.2.2)] 3, dfr b0] b8 := f8.front 5 _ rfl
  have HY30 : ∀  (b3 : Str) (b5 : Bool) (b2 : Bool) (w_ : World), Hp b8 (aah [afd a2 0 a4, blk a1 [(Vb false)] 4, blk b1 [(Vb false)] 4, blk a7 [(str a0.1)] 9, blk a8 [(str a0.2.1)] 9, blk a9 [(Vi .i64 a0.2.2)] 3]) [afd a2 0 a4, blk a1 [(Vb b5)] 4, blk b1 [(Vb b2)] 4] w_ → ∀ (yr : (Nat × Bool × Bool)), agk fu b3 b5 b2 = some yr → YR Tryz.prog a2 [(str b3)] w_ fun v f9 => v = Vb (decide (yr.1 = 0)) ∧ Hp w_ (aah [afd a2 0 a4, blk a1 [(Vb b5)] 4, blk b1 [(Vb b2)] 4]) [afd a2 yr.1 a4, blk a1 [(Vb yr.2.1)] 4, blk b1 [(Vb yr.2.2)] 4] f9 := by
    intro b3 b5 b2 c7 c4 yr hyr
    have hH0_ := Hp.callK (L1 := [afd a2 0 a4, blk a1 [(Vb false)] 4, blk b1 [(Vb false)] 4, blk a7 [(str a0.1)] 9, blk a8 [(str a0.2.1)] 9, blk a9 [(Vi .i64 a0.2.2)] 3]) (L2 := [dfr b0]) c1 c4
    have hG0_ := hG; replace hG := hG.hp0 hH0_
    have hS_ := Hp.highs hH0_ hG0_ (fun _ h => absurd h (by simp)) 3 rfl
    unfold agk at hyr
    refine yr_intro (Hp.hand (L1 := [afd a2 0 a4, blk a1 [(Vb b5)] 4, blk b1 [(Vb b2)] 4]) (L2 := []) (by simpa using c4)) 0 rfl e8 e9 f0 f1 rfl ?_
    have hH : Hp c7 (aah [afd a2 0 a4, blk a1 [(Vb b5)] 4, blk b1 [(Vb b2)] 4]) [afd a2 0 a4, blk a1 [(Vb b5)] 4, blk b1 [(Vb b2)] 4] c7 := Hp.hand (L1 := [afd a2 0 a4, blk a1 [(Vb b5)] 4, blk b1 [(Vb b2)] 4]) (L2 := []) (by simpa using c4)
    clear hH0_ c4
    refine cr (wp 1 (wl (asg_next hH 0 rfl fun j9 c2 => ce (cs (bi hyr fun g0 a6 hyr => afy c2 [2, 3, 4, 38] [(38, (Vb g0))] ?_ ?_)))))
    refine cr (wp 3 (wd a6 (fun g1 a6 => ?_) (fun g1 a6 => ?_)))
    refine wp 17 (wl (ql ?_))
    obtain rfl := oi a6
    exact je (Hp.front (Hp.front (Hp.front c2 2 _ rfl) 2 _ rfl) 2 _ rfl).kp
    refine wp 4 (wd a6 (fun g2 a6 => ?_) (fun g2 a6 => ?_))
    refine wp 12 (wl (ql ?_))
    obtain rfl := oi a6
    exact je (Hp.front (Hp.front (Hp.front c2 2 _ rfl) 2 _ rfl) 2 _ rfl).kp
    refine wp 1 (gy 26 (gi a6 fun g3 a6 => adc b3 .i64 (0 : Int) Tryz.underlying9 (by kernel_rfl) (by kernel_rfl) g3 (gy 26 (acf (at_ b3 (0 : Int)) (45 : UInt8) (by kernel_rfl) (by kernel_rfl) (wp 1 (wd a6 (fun g4 a6 => ?_) (fun g4 a6 => ?_)))))))
    refine wp 7 (wl (ql ?_))
    obtain rfl := oi a6
    exact je (Hp.front (Hp.front (Hp.front c2 2 _ rfl) 2 _ rfl) 2 _ rfl).kp
    refine wp 3 (gy 31 (gi a6 fun g5 a6 => adj (b3.length : Int) (1 : Int) (by kernel_rfl) (by kernel_rfl) g5 (gy 31 (gi a6 fun g6 a6 => adc b3 .i64 ((b3.length : Int) - (1 : Int)) Tryz.underlying9 (by kernel_rfl) (by kernel_rfl) g6 (gy 31 (acf (at_ b3 ((b3.length : Int) - (1 : Int))) (45 : UInt8) (by kernel_rfl) (by kernel_rfl) (wp 1 ?_)))))))
    refine wl (ql ?_)
    obtain rfl := oi a6
    exact je (Hp.front (Hp.front (Hp.front c2 2 _ rfl) 2 _ rfl) 2 _ rfl).kp
    intro k0 G d9
    refine cb hyr (fun g7 hyr => ?_) (fun g7 hyr => ?_)
    refine sr (aet d9 2 b1 0 [(Vb b2)] 4 (Vb false) [lbusy a2 a4, blk a1 [(Vb b5)] 4, blk b1 [(Vb false)] 4] rfl (Nat.lt_of_lt_of_le (Nat.lt_succ_self _) (Nat.le_of_ble_eq_true rfl)) (by kernel_rfl) (by kernel_rfl) rfl (by kernel_rfl) rfl fun k1 g8 => nq (ct (st (bt_ ?_))))
    obtain rfl := oi hyr
    refine rnd_ret g8 0 rfl fun k2 g9 => ?_
    exact ⟨(by first | rfl | (simp; done) | (simp; omega)), (Hp.front (Hp.front (Hp.front g9 2 _ rfl) 2 _ rfl) 2 _ rfl).kp⟩
    refine ck (qn (sr (wp 3 (nq (ce (lpG (σ := Nat × Int × Bool) [2, 3, 4, 40, 41] (fun ⟨b9, b6, b7⟩ => [(41, (Vi .i64 b6))]) (fun ⟨b9, b6, b7⟩ w' => Hp c7 (aah [afd a2 0 a4, blk a1 [(Vb b5)] 4, blk b1 [(Vb b2)] 4]) [lbusy a2 a4, blk a1 [(Vb b7)] 4, blk b1 [(Vb b2)] 4] w' ∧ afa fu b3 b2 b9 b6 b7 = some yr) (fun ⟨b9, b6, b7⟩ => b9) (fu, (0 : Int), b5) (by exact ⟨(Hp.front (Hp.front (Hp.front d9 2 _ rfl) 2 _ rfl) 2 _ rfl).kp, hyr⟩) ?_))))))
    rintro ⟨_ | b9, b6, b7⟩ k3 G ⟨c5, a5⟩
    · exact absurd (show none = some _ from a5) (by simp)
    rw [afa.eq_2] at a5
    refine sr (wp 1 (nq (cs (cd a5 (fun h0 a5 => ?_) (fun h0 a5 => ?_)))))
    refine ck (qn (cs (ce (sr (wp 2 (nq (cs ?_)))))))
    refine cr (wp 2 (gi a5 fun h1 a5 => adc b3 .i64 b6 Tryz.underlying9 (by kernel_rfl) (by kernel_rfl) h1 (wp 1 (nq (cs (bi a5 fun h2 b4 a5 => afy c5 [2, 3, 4, 6, 40, 41, 58] [(58, (Vb h2))] ?_ ?_))))))
    refine cr (wp 1 (bi b4 fun k4 h3 b4 => wc ent144 c5 (ang h3 (hG.hp c5 hS_)) fun k5 c8 => wp 1 (wb b4 (fun h4 b4 => ?_) (fun h4 b4 => ?_))))
    refine wp 1 (gy 50 (bi b4 fun k6 h5 b4 => wc ent142 c8 (agi h5 (hG.hp c8 hS_)) fun k7 e0 => wp 2 (wb b4 (fun h6 b4 => ?_) (fun h6 b4 => ?_))))
    refine wp 1 (gy 55 (aeb (at_ b3 b6) (45 : UInt8) (by kernel_rfl) (by kernel_rfl) (wp 1 (wl (ql ?_)))))
    obtain rfl := oi b4
    exact je (Hp.front (Hp.front (Hp.front e0 2 _ rfl) 2 _ rfl) 2 _ rfl).kp
    refine wp 3 (wl (ql ?_))
    obtain rfl := oi b4
    exact je (Hp.front (Hp.front (Hp.front e0 2 _ rfl) 2 _ rfl) 2 _ rfl).kp
    refine wp 8 (wl (ql ?_))
    obtain rfl := oi b4
    exact je (Hp.front (Hp.front (Hp.front c8 2 _ rfl) 2 _ rfl) 2 _ rfl).kp
    intro k8 G c3
    refine cb a5 (fun h7 a5 => ?_) (fun h7 a5 => ?_)
    refine sr (aet c3 2 b1 0 [(Vb b2)] 4 (Vb false) [lbusy a2 a4, blk a1 [(Vb b7)] 4, blk b1 [(Vb false)] 4] rfl (Nat.lt_of_lt_of_le (Nat.lt_succ_self _) (Nat.le_of_ble_eq_true rfl)) (by kernel_rfl) (by kernel_rfl) rfl (by kernel_rfl) rfl fun k9 h8 => nq (ct (st (bt_ (st (ach ?_))))))
    refine bt_ (bt_ ?_)
    obtain rfl := oi a5
    refine rnd_ret h8 0 rfl fun l0 i0 => ?_
    exact ⟨(by first | rfl | (simp; done) | (simp; omega)), (Hp.front (Hp.front (Hp.front i0 2 _ rfl) 2 _ rfl) 2 _ rfl).kp⟩
    refine ck (qn (cr (aav c3 1 a1 0 [(Vb b7)] 4 (Vb b7) rfl rfl (by kernel_rfl) (by kernel_rfl) (wb a5 (fun i1 a5 => ?_) (fun i1 a5 => ?_)))))
    refine wp 4 (aet c3 1 a1 0 [(Vb b7)] 4 (Vb true) [lbusy a2 a4, blk a1 [(Vb true)] 4, blk b1 [(Vb b2)] 4] rfl (Nat.lt_of_lt_of_le (Nat.lt_succ_self _) (Nat.le_of_ble_eq_true rfl)) (by kernel_rfl) (by kernel_rfl) rfl (by kernel_rfl) rfl fun l1 i2 => wl (bn (qn (cr (gi a5 fun i3 a5 => aac b6 (1 : Int) (by kernel_rfl) (by kernel_rfl) i3 (wp 1 (wl ?_)))))))
    refine ql ?_
    exact ⟨(b9, b6 + (1 : Int), true), _, rfl, by kernel_rfl, ⟨(Hp.front (Hp.front (Hp.front i2 2 _ rfl) 2 _ rfl) 2 _ rfl).kp, a5⟩, Nat.lt_succ_self _⟩
    refine wp 1 (gy 60 (bi a5 fun c9 i4 a5 => wc ent142 c3 (agi i4 (hG.hp c3 hS_)) fun l2 i5 => wp 2 (aet i5 1 a1 0 [(Vb b7)] 4 (Vb (!c9)) [lbusy a2 a4, blk a1 [(Vb (!c9))] 4, blk b1 [(Vb b2)] 4] rfl (Nat.lt_of_lt_of_le (Nat.lt_succ_self _) (Nat.le_of_ble_eq_true rfl)) (by kernel_rfl) (by kernel_rfl) rfl (by kernel_rfl) rfl fun l3 i6 => wl (bn (qn (cr ?_))))))
    refine gi a5 fun i7 a5 => aac b6 (1 : Int) (by kernel_rfl) (by kernel_rfl) i7 (wp 1 (wl (ql ?_)))
    exact ⟨(b9, b6 + (1 : Int), (!c9)), _, rfl, by kernel_rfl, ⟨(Hp.front (Hp.front (Hp.front i6 2 _ rfl) 2 _ rfl) 2 _ rfl).kp, a5⟩, Nat.lt_succ_self _⟩
    refine acc (acb (aci (acd (bn ?_))))
    obtain rfl := oi a5
    refine rnd_normal c5 0 rfl fun l4 i9 => ?_
    exact ⟨(by first | rfl | (simp; done) | (simp; omega)), (Hp.front (Hp.front (Hp.front i9 2 _ rfl) 2 _ rfl) 2 _ rfl).kp⟩
  refine CR.mono (ajc a2 a4 a1 b1 a7 a8 a9 f3 (hG.hp0 c1) (c1.hand (L1 := [afd a2 0 a4, blk a1 [(Vb false)] 4, blk b1 [(Vb false)] 4, blk a7 [(str a0.1)] 9, blk a8 [(str a0.2.1)] 9, blk a9 [(Vi .i64 a0.2.2)] 3]) (L2 := [dfr b0])) (c1.highs hG (fun _ h => absurd h (by simp)) 6 rfl) HY30) ?_
  rintro _ e1 ⟨rfl, e2⟩
  have j0 : Hp w [] [blk a1 [(Vb a3.1)] 4, blk b1 [(Vb a3.2.1)] 4, blk a7 [(str a0.1)] 9, blk a8 [(str a3.2.2.1)] 9, blk a9 [(Vi .i64 a0.2.2)] 3, afd a2 a3.2.2.2 a4, dfr b0] e1 := Hp.callK (L1 := [afd a2 0 a4, blk a1 [(Vb false)] 4, blk b1 [(Vb false)] 4, blk a7 [(str a0.1)] 9, blk a8 [(str a0.2.1)] 9, blk a9 [(Vi .i64 a0.2.2)] 3]) (L2 := [dfr b0]) c1 e2; clear e2
  have j1 : Hp w [] [afd a2 a3.2.2.2 a4, blk a1 [(Vb a3.1)] 4, blk b1 [(Vb a3.2.1)] 4, blk a7 [(str a0.1)] 9, blk a8 [(str a3.2.2.1)] 9, blk a9 [(Vi .i64 a0.2.2)] 3, dfr b0] e1 := j0.front 5 _ rfl
  refine ⟨a3.2.2.2, [blk a1 [(Vb a3.1)] 4, blk b1 [(Vb a3.2.1)] 4, blk a7 [(str a0.1)] 9, blk a8 [(str a3.2.2.1)] 9, blk a9 [(Vi .i64 a0.2.2)] 3, dfr b0], j1, ?_⟩
  intro l5 d0
  by_cases d1 : a3.2.2.2 = 0
  replace hr := ift d1 hr
  refine rg0 d1 (bn (qn (sr (aav d0 0 a1 0 [(Vb a3.1)] 4 (Vb a3.1) rfl rfl (by kernel_rfl) (by kernel_rfl) (aet d0 1 b1 0 [(Vb a3.2.1)] 4 (Vb a3.1) [blk a1 [(Vb a3.1)] 4, blk b1 [(Vb a3.1)] 4, blk a7 [(str a0.1)] 9, blk a8 [(str a3.2.2.1)] 9, blk a9 [(Vi .i64 a0.2.2)] 3, dfr b0] rfl (Nat.lt_of_lt_of_le (Nat.lt_succ_self _) (Nat.le_of_ble_eq_true rfl)) (by kernel_rfl) (by kernel_rfl) rfl (by kernel_rfl) rfl fun l6 j2 => nq (ct ?_))))))
  obtain rfl := oi hr
  refine m_fin1 j2 5 b0 rfl _ [(Vb a3.1)] (Vb a3.1) rfl rfl (fun j3 d2 => (aaf (rok_one d2 1 b1 4 (Vb a3.1) rfl (by kernel_rfl) (by kernel_rfl)) adz)) rfl fun j3 d2 => ?_
  exact ⟨(by first | rfl | (simp; done) | (simp; omega)), d2.kp⟩
  replace hr := ifn d1 hr
  by_cases d3 : a3.2.2.2 = 1
  replace hr := ift d3 hr
  refine rg1 d3 (ct (bt_ (st ?_)))
  obtain rfl := oi hr
  refine m_fin1 d0 5 b0 rfl _ [(Vb a3.2.1)] (Vb a3.2.1) rfl rfl (fun j4 d4 => (aaf (rok_one d4 1 b1 4 (Vb a3.2.1) rfl (by kernel_rfl) (by kernel_rfl)) adz)) rfl fun j4 d4 => ?_
  exact ⟨(by first | rfl | (simp; done) | (simp; omega)), d4.kp⟩
  replace hr := ifn d3 hr
  exact absurd hr (by simp)
theorem afv {fu : Nat} {s_0 : Str} {w : World} {r : (Str × Bool)} (hr : agd fu s_0 = some r) (hG : Gl w) : CR Tryz.prog 26 [(str s_0)] w fun v w' => v = (Value.tuple #[(str r.1), (Vb r.2)]) ∧ Hp w [] [] w' := by
  have hH : Hp w [] [] w := Hp.refl w
  refine enter (k := 43) Tryz.func26 rfl rfl (Nat.le_of_ble_eq_true rfl) ?_
  unfold agd at hr
  refine sr (wp 2 (nq (cs (bi hr fun v9 a0 hr => afy hH [0, 2, 3, 21] [(21, (Vb v9))] ?_ ?_))))
  refine cr (wp 3 (wd a0 (fun a6 a0 => ?_) (fun a6 a0 => ?_)))
  refine wp 1 (gy 9 (gi a0 fun a7 a0 => adc s_0 .i64 (0 : Int) Tryz.underlying9 (by kernel_rfl) (by kernel_rfl) a7 (gy 9 (acf (at_ s_0 (0 : Int)) (91 : UInt8) (by kernel_rfl) (by kernel_rfl) (wp 1 (wd a0 (fun a8 a0 => ?_) (fun a8 a0 => ?_)))))))
  refine wp 3 (gy 14 (gi a0 fun a9 a0 => adj (s_0.length : Int) (1 : Int) (by kernel_rfl) (by kernel_rfl) a9 (gy 14 (gi a0 fun b0 a0 => adc s_0 .i64 ((s_0.length : Int) - (1 : Int)) Tryz.underlying9 (by kernel_rfl) (by kernel_rfl) b0 (gy 14 (acf (at_ s_0 ((s_0.length : Int) - (1 : Int))) (93 : UInt8) (by kernel_rfl) (by kernel_rfl) (wp 1 ?_)))))))
  refine wl (ql ?_)
  obtain rfl := oi a0
  exact je hH.kp
  refine wp 7 (wl (ql ?_))
  obtain rfl := oi a0
  exact je hH.kp
  refine wp 12 (wl (ql ?_))
  obtain rfl := oi a0
  exact je hH.kp
  intro c4 G a1
  refine cb hr (fun b1 hr => ?_) (fun b1 hr => ?_)
  refine sr (wp 3 (gi hr fun b2 hr => adj (s_0.length : Int) (1 : Int) (by kernel_rfl) (by kernel_rfl) b2 (gi hr fun b3 hr => ani s_0 .i64 .i64 (1 : Int) ((s_0.length : Int) - (1 : Int)) Tryz.underlying9 (by kernel_rfl) (by kernel_rfl) (by kernel_rfl) b3 (bi hr fun a4 b4 hr => wc ent81 a1 (K_L_address_groups b4 (hG.hp0 a1)) fun c5 a5 => wp 5 ?_))))
  refine nq (cs (sr (wp 2 (nq (cb hr (fun b5 hr => ?_) (fun b5 hr => ?_))))))
  refine sr (wp 2 (nq (ct (st (st ?_)))))
  obtain rfl := oi hr
  exact rv a5.kp
  refine ck (qn (sr (wp 1 (gi hr fun b6 hr => adh ([91] : Str) a4.1 (by kernel_rfl) (by kernel_rfl) b6 (gi hr fun b7 hr => adh (([91] : Str) ++ a4.1) ([93] : Str) (by kernel_rfl) (by kernel_rfl) b7 (wp 2 ?_))))))
  refine nq (ct (st ?_))
  obtain rfl := oi hr
  exact rv a5.kp
  refine ck (qn (cs (sr (wp 1 (bi hr fun c6 b8 hr => wc ent82 a1 (K_L_address_numbers b8 (hG.hp0 a1)) fun c7 a2 => nq (cb hr (fun b9 hr => ?_) (fun b9 hr => ?_)))))))
  refine sr (wp 3 (nq (ct (st ?_))))
  obtain rfl := oi hr
  exact rv a2.kp
  refine ck (qn (cs (sr (wp 1 (bi hr fun c8 c0 hr => wc ent83 a2 (K_L_address_named c0 (hG.hp0 a2)) fun c9 a3 => nq (cb hr (fun c1 hr => ?_) (fun c1 hr => ?_)))))))
  refine sr (wp 1 (bi hr fun d0 c2 hr => wc ent84 a3 (acw c2 (hG.hp0 a3)) fun d1 c3 => wp 2 (nq (ct (st ?_)))))
  obtain rfl := oi hr
  exact rv c3.kp
  refine ck (qn (sr (wp 2 (nq (ct ?_)))))
  obtain rfl := oi hr
  exact rv a3.kp
end Go.Proofs
