/-
  The law HeaderElements holds: for every list of numbers and every number of blanks the call returns true; no condition beyond the statement's own (part 4 of 8).
-/
import Derived.Test.YtbfppjfgcjpknaaGreatDoorHe3
import Derived.Test.YtbfppjfgcjpknaaGreatDoorProg
set_option linter.unusedVariables false
set_option linter.unusedSimpArgs false
set_option maxRecDepth 20000
set_option maxHeartbeats 1000000
namespace Go.Proofs
open Go.Wk Go.Px
open Go.Value renaming slice → Vs, int → Vi, bool → Vb, pointer → Vp
theorem ent115 : Go.Wk.Enters Tryz.prog 115 := ⟨Tryz.f115, _, Tryz.func115, rfl, by kernel_rfl⟩
theorem ent131 : Go.Wk.Enters Tryz.prog 131 := ⟨Tryz.f131, _, Tryz.func131, rfl, by kernel_rfl⟩
theorem ent164 : Go.Wk.Enters Tryz.prog 164 := ⟨Tryz.f164, _, Tryz.func164, rfl, by kernel_rfl⟩
theorem ent187 : Go.Wk.Enters Tryz.prog 187 := ⟨Tryz.f187, _, Tryz.func187, rfl, by kernel_rfl⟩
theorem ent242 : Go.Wk.Enters Tryz.prog 242 := ⟨Tryz.f242, _, Tryz.func242, rfl, by kernel_rfl⟩
theorem ent262 : Go.Wk.Enters Tryz.prog 262 := ⟨Tryz.f262, _, Tryz.func262, rfl, by kernel_rfl⟩
theorem ent270 : Go.Wk.Enters Tryz.prog 270 := ⟨Tryz.f270, _, Tryz.func270, rfl, by kernel_rfl⟩
theorem akd {fu : Nat} {a1 : (Str × Int)} {a4 : List (Str × Str × Bool)} {a3 : Int} {b8 : Int} (a2 : Nat) (a8 : Option Nat) (a5 : Option Addr) (a6 : Nat) {w : World} {r : ((List (Str × Str × Bool)) × Int × UInt8 × (Str × Int))} (hr : agr fu a1 a4 a3 b8 = some r) (hG : Gl w) (hM : Hp w (aaj [blk a2 [(str a1.1), (Vi .i64 a1.2)] 119, rwt aaa 46 3 a8 a5 a6 a4]) [blk a2 [(str a1.1), (Vi .i64 a1.2)] 119, rwt aaa 46 3 a8 a5 a6 a4] w) (hS : ∀ b ∈ aaj [blk a2 [(str a1.1), (Vi .i64 a1.2)] 119, rwt aaa 46 3 a8 a5 a6 a4], 9 ≤ b) : CR Tryz.prog 231 [(Vp (some ⟨a2, 0, none⟩)), (Vs a5 a4.length a6), (Vi .i64 a3), (Vi .i64 b8)] w fun v w' => ∃ (o0 : Option Nat), ∃ (a0 : Option Addr), ∃ (cap0 : Nat), v = (Value.tuple #[(Vs a0 r.1.length cap0), (Vi .i64 r.2.1), (bt r.2.2.1)]) ∧ Hp w (aaj [blk a2 [(str a1.1), (Vi .i64 a1.2)] 119, rwt aaa 46 3 a8 a5 a6 a4]) [blk a2 [(str r.2.2.2.1), (Vi .i64 r.2.2.2.2)] 119, rwt aaa 46 3 o0 a0 cap0 r.1] w' := by
  have hH : Hp w (aaj [blk a2 [(str a1.1), (Vi .i64 a1.2)] 119, rwt aaa 46 3 a8 a5 a6 a4]) [blk a2 [(str a1.1), (Vi .i64 a1.2)] 119, rwt aaa 46 3 a8 a5 a6 a4] w := hM
  refine enter (k := 128) Tryz.func231 rfl rfl (Nat.le_of_ble_eq_true rfl) ?_
  unfold agr at hr
  refine sr (wp 3 (nq (sr (wp 3 (aav hH 0 a2 1 [(str a1.1), (Vi .i64 a1.2)] 119 (Vi .i64 a1.2) rfl rfl (by kernel_rfl) (by kernel_rfl) (wp 1 ?_))))))
  refine nq (sr (wp 4 (aav hH 0 a2 0 [(str a1.1), (Vi .i64 a1.2)] 119 (str a1.1) rfl rfl (by kernel_rfl) (by kernel_rfl) (wp 2 (gi hr fun g1 hr => amd a1.1 .i64 .i64 a1.2 a3 Tryz.underlying9 (by kernel_rfl) (by kernel_rfl) (by kernel_rfl) g1 (aad 146 #[] [(str (sub a1.1 a1.2 a3)), (bt (61 : UInt8))] _ ent146 (by kernel_rfl) (by kernel_rfl) (akc (sub a1.1 a1.2 a3) (61 : UInt8) w) ?_))))))
  rintro _ w2 ⟨rfl, d0⟩
  have c4 := hH.call d0; clear d0
  refine wp 1 (nq (sr (wp 2 (nq (bi hr fun b0 b3 hr => agq c4 [0, 1, 2, 3, 8, 9, 10, 11, 12, 13] [(13, (Vi .i64 b0))] ?_ ?_)))))
  refine sr (wp 2 (nq (cd b3 (fun d8 b3 => ?_) (fun d8 b3 => ?_))))
  refine cr (wp 2 (gi b3 fun d9 b3 => aac a1.2 (ixb (· == (61 : UInt8)) (sub a1.1 a1.2 a3)) (by kernel_rfl) (by kernel_rfl) d9 (wp 1 (wl (ql ?_)))))
  obtain rfl := oi b3
  exact je (Hp.front (Hp.front c4 1 _ rfl) 1 _ rfl).kp
  refine ck (ql ?_)
  obtain rfl := oi b3
  exact je (Hp.front (Hp.front c4 1 _ rfl) 1 _ rfl).kp
  intro h4 G b9
  refine cs (sr (wp 3 (bi hr fun e0 e1 hr => aad 254 #[] [(Vp (some ⟨a2, 0, none⟩)), (Vi .i64 b0), (Vi .i64 b8)] _ ent254 (by kernel_rfl) (by kernel_rfl) (ahr a2 e1 (hG.hp b9 hS) (b9.hand (L1 := [blk a2 [(str a1.1), (Vi .i64 a1.2)] 119]) (L2 := [rwt aaa 46 3 a8 a5 a6 a4])) (b9.highs hG hS 1 rfl)) ?_)))
  rintro _ e2 ⟨rfl, d1⟩
  have b4 : Hp w (aaj [blk a2 [(str a1.1), (Vi .i64 a1.2)] 119, rwt aaa 46 3 a8 a5 a6 a4]) [blk a2 [(str a1.1), (Vi .i64 a1.2)] 119, rwt aaa 46 3 a8 a5 a6 a4] e2 := Hp.callK (L1 := [blk a2 [(str a1.1), (Vi .i64 a1.2)] 119]) (L2 := [rwt aaa 46 3 a8 a5 a6 a4]) b9 d1; clear d1
  refine wp 5 (nq (sr (wp 1 (nq (cb hr (fun e3 hr => ?_) (fun e3 hr => ?_))))))
  refine sr (wp 4 (nq (ct (st ?_))))
  obtain rfl := oi hr
  refine ajy (Vs none 0 0) (Vi .i64 e0.1) (bt (5 : UInt8)) rfl (by kernel_rfl) (by kernel_rfl) (by kernel_rfl) ?_
  exact ⟨none, none, 0, (by first | rfl | (simp; done) | (simp; omega)), (Hp.front (Hp.nilrw b4 aaa 46 3 none) 1 _ rfl).kp⟩
  refine ck (qn (cs (sr (wp 3 (nq (cd hr (fun e4 hr => ?_) (fun e4 hr => ?_)))))))
  refine sr (wp 4 (nq (ct (st ?_))))
  obtain rfl := oi hr
  refine ajy (Vs none 0 0) (Vi .i64 a1.2) (bt (5 : UInt8)) rfl (by kernel_rfl) (by kernel_rfl) (by kernel_rfl) ?_
  exact ⟨none, none, 0, (by first | rfl | (simp; done) | (simp; omega)), (Hp.front (Hp.nilrw b4 aaa 46 3 none) 1 _ rfl).kp⟩
  refine ck (qn (sr (wp 4 (aav b4 0 a2 0 [(str a1.1), (Vi .i64 a1.2)] 119 (str a1.1) rfl rfl (by kernel_rfl) (by kernel_rfl) (wp 2 (gi hr fun e5 hr => amd a1.1 .i64 .i64 a1.2 b0 Tryz.underlying9 (by kernel_rfl) (by kernel_rfl) (by kernel_rfl) e5 (bi hr fun h5 e6 hr => ?_)))))))
  refine wc ent255 b4 (aka e6 (hG.hp b4 hS)) fun h6 d2 => bi hr fun a9 e7 hr => wc ent84 d2 (ada e7 (hG.hp d2 hS)) fun h7 e8 => wp 3 (adl e8 [(str ([] : Str)), (str ([] : Str)), (Vb false)] 46 (fun b => (Vp (some ⟨b, 0, none⟩))) rfl rfl (by kernel_rfl) fun b1 h8 e9 => aff e9 0 b1 0 [(str ([] : Str)), (str ([] : Str)), (Vb false)] [(str a9), (str ([] : Str)), (Vb (decide ((0 : Int) ≤ (ixb (· == (61 : UInt8)) (sub a1.1 a1.2 a3)))))] 46 [blk b1 [(str a9), (str ([] : Str)), (Vb (decide ((0 : Int) ≤ (ixb (· == (61 : UInt8)) (sub a1.1 a1.2 a3)))))] 46, blk a2 [(str a1.1), (Vi .i64 a1.2)] 119, rwt aaa 46 3 a8 a5 a6 a4] rfl (Nat.le_of_ble_eq_true rfl) (by kernel_rfl) (by kernel_rfl) rfl (by kernel_rfl) rfl fun h9 f0 => nq (sr ?_))
  refine wp 4 (aeu f0 1 a2 1 [(str a1.1), (Vi .i64 a1.2)] 119 (Vi .i64 a3) [blk b1 [(str a9), (str ([] : Str)), (Vb (decide ((0 : Int) ≤ (ixb (· == (61 : UInt8)) (sub a1.1 a1.2 a3)))))] 46, blk a2 [(str a1.1), (Vi .i64 a3)] 119, rwt aaa 46 3 a8 a5 a6 a4] rfl (Nat.lt_of_lt_of_le (Nat.lt_succ_self _) (Nat.le_of_ble_eq_true rfl)) (by kernel_rfl) (by kernel_rfl) rfl (by kernel_rfl) rfl fun i0 c0 => nq (bi hr fun f1 a7 hr => cut (σ := Str) [1, 8, 9, 10, 11, 16] (fun b2 => []) (fun b2 w' => Hp w (aaj [blk a2 [(str a1.1), (Vi .i64 a1.2)] 119, rwt aaa 46 3 a8 a5 a6 a4]) [blk a2 [(str a1.1), (Vi .i64 a3)] 119, blk b1 [(str a9), (str b2), (Vb (decide ((0 : Int) ≤ (ixb (· == (61 : UInt8)) (sub a1.1 a1.2 a3)))))] 46, rwt aaa 46 3 a8 a5 a6 a4] w' ∧ .inl b2 = f1) ?_ ?_))
  refine sr (wp 1 (aav c0 0 b1 2 [(str a9), (str ([] : Str)), (Vb (decide ((0 : Int) ≤ (ixb (· == (61 : UInt8)) (sub a1.1 a1.2 a3)))))] 46 (Vb (decide ((0 : Int) ≤ (ixb (· == (61 : UInt8)) (sub a1.1 a1.2 a3))))) rfl rfl (by kernel_rfl) (by kernel_rfl) (nq (cd a7 (fun f2 a7 => ?_) (fun f2 a7 => ?_)))))
  refine sr (wp 2 (gi a7 fun f3 a7 => aac b0 (1 : Int) (by kernel_rfl) (by kernel_rfl) f3 (wp 2 (aeu c0 1 a2 1 [(str a1.1), (Vi .i64 a3)] 119 (Vi .i64 (b0 + (1 : Int))) [blk b1 [(str a9), (str ([] : Str)), (Vb (decide ((0 : Int) ≤ (ixb (· == (61 : UInt8)) (sub a1.1 a1.2 a3)))))] 46, blk a2 [(str a1.1), (Vi .i64 (b0 + (1 : Int)))] 119, rwt aaa 46 3 a8 a5 a6 a4] rfl (Nat.lt_of_lt_of_le (Nat.lt_succ_self _) (Nat.le_of_ble_eq_true rfl)) (by kernel_rfl) (by kernel_rfl) rfl (by kernel_rfl) rfl fun f4 f5 => nq (cs ?_)))))
  refine sr (wp 3 (bi a7 fun f6 f7 a7 => ?_))
  have c1 : Hp w (aaj [blk a2 [(str a1.1), (Vi .i64 a1.2)] 119, rwt aaa 46 3 a8 a5 a6 a4]) [blk a2 [(str a1.1), (Vi .i64 (b0 + (1 : Int)))] 119, blk b1 [(str a9), (str ([] : Str)), (Vb (decide ((0 : Int) ≤ (ixb (· == (61 : UInt8)) (sub a1.1 a1.2 a3)))))] 46, rwt aaa 46 3 a8 a5 a6 a4] f4 := f5.front 1 _ rfl
  refine aad 254 #[] [(Vp (some ⟨a2, 0, none⟩)), (Vi .i64 a3), (Vi .i64 b8)] _ ent254 (by kernel_rfl) (by kernel_rfl) (ahr a2 f7 (hG.hp c1 hS) (c1.hand (L1 := [blk a2 [(str a1.1), (Vi .i64 (b0 + (1 : Int)))] 119]) (L2 := [blk b1 [(str a9), (str ([] : Str)), (Vb (decide ((0 : Int) ≤ (ixb (· == (61 : UInt8)) (sub a1.1 a1.2 a3)))))] 46, rwt aaa 46 3 a8 a5 a6 a4])) (c1.highs hG hS 1 rfl)) ?_
  rintro _ f8 ⟨rfl, d3⟩
  have b5 : Hp w (aaj [blk a2 [(str a1.1), (Vi .i64 a1.2)] 119, rwt aaa 46 3 a8 a5 a6 a4]) [blk a2 [(str a1.1), (Vi .i64 (b0 + (1 : Int)))] 119, blk b1 [(str a9), (str ([] : Str)), (Vb (decide ((0 : Int) ≤ (ixb (· == (61 : UInt8)) (sub a1.1 a1.2 a3)))))] 46, rwt aaa 46 3 a8 a5 a6 a4] f8 := Hp.callK (L1 := [blk a2 [(str a1.1), (Vi .i64 (b0 + (1 : Int)))] 119]) (L2 := [blk b1 [(str a9), (str ([] : Str)), (Vb (decide ((0 : Int) ≤ (ixb (· == (61 : UInt8)) (sub a1.1 a1.2 a3)))))] 46, rwt aaa 46 3 a8 a5 a6 a4]) c1 d3; clear d3
  refine wp 5 (nq (sr (wp 1 (nq (cb a7 (fun f9 a7 => ?_) (fun f9 a7 => ?_))))))
  refine sr (wp 4 (nq (ct (st (acp ?_)))))
  obtain rfl := oi a7
  obtain rfl := oi hr
  refine ajy (Vs none 0 0) (Vi .i64 f6.1) (bt (5 : UInt8)) rfl (by kernel_rfl) (by kernel_rfl) (by kernel_rfl) ?_
  exact ⟨none, none, 0, (by first | rfl | (simp; done) | (simp; omega)), (Hp.front (Hp.nilrw b5 aaa 46 3 none) 1 _ rfl).kp⟩
  refine ck (qn (cs (bi a7 fun g0 b6 a7 => agq b5 [0, 1, 2, 8, 9, 10, 11, 16, 94] [(94, (Vb g0))] ?_ ?_)))
  refine cr (wp 3 (aav b5 0 a2 1 [(str a1.1), (Vi .i64 (b0 + (1 : Int)))] 119 (Vi .i64 (b0 + (1 : Int))) rfl rfl (by kernel_rfl) (by kernel_rfl) (wp 2 (wd b6 (fun g2 b6 => ?_) (fun g2 b6 => ?_)))))
  refine wp 3 (wl (ql ?_))
  obtain rfl := oi b6
  exact je (Hp.front (Hp.front (Hp.front b5 2 _ rfl) 2 _ rfl) 2 _ rfl).kp
  refine wp 3 (wl (ql ?_))
  obtain rfl := oi b6
  exact je (Hp.front (Hp.front (Hp.front b5 2 _ rfl) 2 _ rfl) 2 _ rfl).kp
  intro i1 G d4
  refine cb a7 (fun g3 a7 => ?_) (fun g3 a7 => ?_)
  refine sr (wp 4 (nq (ct (st (acp ?_)))))
  obtain rfl := oi a7
  obtain rfl := oi hr
  refine ajy (Vs none 0 0) (Vi .i64 a3) (bt (5 : UInt8)) rfl (by kernel_rfl) (by kernel_rfl) (by kernel_rfl) ?_
  exact ⟨none, none, 0, (by first | rfl | (simp; done) | (simp; omega)), (Hp.front (Hp.nilrw d4 aaa 46 3 none) 1 _ rfl).kp⟩
  refine ck (qn (cs (adm 10 (fun j_ w_ w_' => abv [10, 11, 12, 13] (fun w' => w'.heap[a2]? = some (.cells [(str a1.1), (Vi .i64 (b0 + (1 : Int)))].toArray 119 (0, 0))) j_ w_ w_' ∧ True) [false, false, false, false, false, false, false, false, false, false, false, false, false, false] (fun _ _ => ⟨abv.same, trivial⟩) (by kernel_rfl) (by kernel_rfl) d4 rfl (adb (aal acf)) fun i2 c2 => rp 6 [0, 1, 2, 3] (aag [true, true, true, true, true, false, false, false, false, false, false, false, false, false] 4 100 (str a1.1) [10, 11, 12, 13] (fun _ _ _ h => h.1) _ rfl rfl (by kernel_rfl) (by kernel_rfl) (by kernel_rfl) (by kernel_rfl) (by kernel_rfl) rfl (aai rfl (by intro w hS_; exact (afx a2 0 [(str a1.1), (Vi .i64 (b0 + (1 : Int)))] 119 (str a1.1) hS_ rfl (by kernel_rfl) (by kernel_rfl)))) (by exact c2.blkAt 0 rfl) (rp 2 [5, 6, 7] (aag [true, true, true, true, true, true, true, true, true, false, false, false, false, false] 8 104 (Vi .i64 (b0 + (1 : Int))) [10, 11, 12, 13] (fun _ _ _ h => h.1) _ rfl rfl (by kernel_rfl) (by kernel_rfl) (by kernel_rfl) (by kernel_rfl) (by kernel_rfl) rfl (aai rfl (by intro w hS_; exact (afx a2 1 [(str a1.1), (Vi .i64 (b0 + (1 : Int)))] 119 (Vi .i64 (b0 + (1 : Int))) hS_ rfl (by kernel_rfl) (by kernel_rfl)))) (by exact c2.blkAt 0 rfl) (rp 0 [9] (acw (by kernel_rfl) ?_))))))))
  refine gi a7 fun g4 a7 => amd a1.1 .i64 .i64 (b0 + (1 : Int)) a3 Tryz.underlying9 (by kernel_rfl) (by kernel_rfl) (by kernel_rfl) g4 (bi a7 fun c3 g5 a7 => wc ent255 c2 (aka g5 (hG.hp c2 hS)) fun i3 g6 => wp 1 (aeu g6 1 b1 1 [(str a9), (str ([] : Str)), (Vb (decide ((0 : Int) ≤ (ixb (· == (61 : UInt8)) (sub a1.1 a1.2 a3)))))] 46 (str c3) [blk a2 [(str a1.1), (Vi .i64 (b0 + (1 : Int)))] 119, blk b1 [(str a9), (str c3), (Vb (decide ((0 : Int) ≤ (ixb (· == (61 : UInt8)) (sub a1.1 a1.2 a3)))))] 46, rwt aaa 46 3 a8 a5 a6 a4] rfl (Nat.lt_of_lt_of_le (Nat.lt_succ_self _) (Nat.le_of_ble_eq_true rfl)) (by kernel_rfl) (by kernel_rfl) rfl (by kernel_rfl) rfl fun i4 g7 => nq (cr (wp 4 ?_))))
  refine aeu g7 0 a2 1 [(str a1.1), (Vi .i64 (b0 + (1 : Int)))] 119 (Vi .i64 a3) [blk a2 [(str a1.1), (Vi .i64 a3)] 119, blk b1 [(str a9), (str c3), (Vb (decide ((0 : Int) ≤ (ixb (· == (61 : UInt8)) (sub a1.1 a1.2 a3)))))] 46, rwt aaa 46 3 a8 a5 a6 a4] rfl (Nat.lt_of_lt_of_le (Nat.lt_succ_self _) (Nat.le_of_ble_eq_true rfl)) (by kernel_rfl) (by kernel_rfl) rfl (by kernel_rfl) rfl fun i5 g8 => wl (ql ?_)
  obtain rfl := oi a7
  exact ⟨c3, _, rfl, by kernel_rfl, (Hp.front (Hp.front (Hp.front g8 2 _ rfl) 2 _ rfl) 2 _ rfl).kp, rfl⟩
  refine sr (wp 2 (nq (cd a7 (fun g9 a7 => ?_) (fun g9 a7 => ?_))))
  refine sr (wp 4 (nq (ct (acp ?_))))
  obtain rfl := oi a7
  obtain rfl := oi hr
  refine ajy (Vs none 0 0) (Vi .i64 a3) (bt (5 : UInt8)) rfl (by kernel_rfl) (by kernel_rfl) (by kernel_rfl) ?_
  exact ⟨none, none, 0, (by first | rfl | (simp; done) | (simp; omega)), (Hp.front (Hp.nilrw c0 aaa 46 3 none) 2 _ rfl).kp⟩
  refine ck (ql ?_)
  obtain rfl := oi a7
  exact ⟨([] : Str), _, rfl, by kernel_rfl, (Hp.front (Hp.front (Hp.front c0 2 _ rfl) 1 _ rfl) 2 _ rfl).kp, rfl⟩
  rintro b2 i6 G ⟨b7, rfl⟩
  refine cs (sr (wp 2 (aav b7 1 b1 0 [(str a9), (str b2), (Vb (decide ((0 : Int) ≤ (ixb (· == (61 : UInt8)) (sub a1.1 a1.2 a3)))))] 46 (str a9) rfl rfl (by kernel_rfl) (by kernel_rfl) (bi hr fun d5 h0 hr => wc ent115 b7 (K_L_address_room a5 a4.length a6 h0 (hG.hp b7 hS) rfl (b7.rdrw 2 rfl) (b7.rwcap 2 rfl)) fun i7 c5 => wp 1 (nq ?_)))))
  refine sr (wp 1 (aec d5 (0 : UInt8) (by kernel_rfl) (by kernel_rfl) (nq (cn hr (fun h1 hr => ?_) (fun h1 hr => ?_)))))
  refine sr (wp 5 (nq (ct (st ?_))))
  obtain rfl := oi hr
  refine ajy (Vs none 0 0) (Vi .i64 a1.2) (bt d5) rfl (by kernel_rfl) (by kernel_rfl) (by kernel_rfl) ?_
  exact ⟨none, none, 0, (by first | rfl | (simp; done) | (simp; omega)), (Hp.front (Hp.nilrw c5 aaa 46 3 none) 1 _ rfl).kp⟩
  refine ck (qn (sr (wp 1 (akx c5 1 b1 0 3 [(str a9), (str b2), (Vb (decide ((0 : Int) ≤ (ixb (· == (61 : UInt8)) (sub a1.1 a1.2 a3)))))] [(str a9), (str b2), (Vb (decide ((0 : Int) ≤ (ixb (· == (61 : UInt8)) (sub a1.1 a1.2 a3)))))] 46 rfl rfl rfl (by kernel_rfl) (by kernel_rfl) (by kernel_rfl) (adl c5 [(str a9), (str b2), (Vb (decide ((0 : Int) ≤ (ixb (· == (61 : UInt8)) (sub a1.1 a1.2 a3)))))] 46 (fun b => (Vs (some ⟨b, 0, none⟩) 1 1)) rfl rfl (by kernel_rfl) fun c6 i9 d6 => gi hr fun h2 hr => adw d6 3 a8 a5 (some ⟨c6, 0, none⟩) a6 1 46 3 40 a4 ([(a9, b2, (decide ((0 : Int) ≤ (ixb (· == (61 : UInt8)) (sub a1.1 a1.2 a3)))))] : List (Str × Str × Bool)) aab rfl Tryz.underlying22 (by unfold TI; kernel_rfl) (by decide) (by decide) (by kernel_rfl) (Eq.trans (b := (Vs (some ⟨c6, 0, none⟩) 1 1)) (by kernel_rfl) (aae (by first | rfl | (simp; done) | omega | (simp; omega) | (rw [List.length_take]; omega)))) (d6.rdblk 0 rfl) h2 fun d7 c7 c8 h3 c9 => ?_)))))
  replace c9 : Hp w (aaj [blk a2 [(str a1.1), (Vi .i64 a1.2)] 119, rwt aaa 46 3 a8 a5 a6 a4]) [blk c6 [(str a9), (str b2), (Vb (decide ((0 : Int) ≤ (ixb (· == (61 : UInt8)) (sub a1.1 a1.2 a3)))))] 46, blk a2 [(str a1.1), (Vi .i64 a3)] 119, blk b1 [(str a9), (str b2), (Vb (decide ((0 : Int) ≤ (ixb (· == (61 : UInt8)) (sub a1.1 a1.2 a3)))))] 46, rwt aaa 46 3 d7 c7 c8 (a4 ++ ([(a9, b2, (decide ((0 : Int) ≤ (ixb (· == (61 : UInt8)) (sub a1.1 a1.2 a3)))))] : List (Str × Str × Bool)))] h3 := c9
  refine wp 3 (nq (ct ?_))
  obtain rfl := oi hr
  refine ajy (Vs c7 ((a4 ++ ([(a9, b2, (decide ((0 : Int) ≤ (ixb (· == (61 : UInt8)) (sub a1.1 a1.2 a3)))))] : List (Str × Str × Bool))).length) c8) (Vi .i64 (0 : Int)) (bt (0 : UInt8)) rfl (by kernel_rfl) (by kernel_rfl) (by kernel_rfl) ?_
  exact ⟨d7, c7, c8, (by first | rfl | (simp; done) | (simp; omega)), (Hp.front (Hp.front c9 3 _ rfl) 2 _ rfl).kp⟩
theorem alw {fu : Nat} {a0 : Str} {w : World} {r : Bool} (hr : aiq fu a0 = some r) (hG : Gl w) : CR Tryz.prog 187 [(str a0)] w fun v w' => v = (Vb r) ∧ Hp w [] [] w' := by
  have hH : Hp w [] [] w := Hp.refl w
  refine enter (k := 6) Tryz.func187 rfl rfl (Nat.le_of_ble_eq_true rfl) ?_
  unfold aiq at hr
  refine sr (wp 1 (nq (sr (wp 4 (nq ?_)))))
  refine ct ?_
  obtain rfl := oi hr
  exact rv hH.kp
theorem akv {fu : Nat} {a1 : Str} {a2 : Str} {w : World} {r : Int} (hr : ahh fu a1 a2 = some r) (hG : Gl w) : CR Tryz.prog 131 [(str a1), (str a2)] w fun v w' => v = (Vi .i64 r) ∧ Hp w [] [] w' := by
  have hH : Hp w [] [] w := Hp.refl w
  refine enter (k := 20) Tryz.func131 rfl rfl (Nat.le_of_ble_eq_true rfl) ?_
  unfold ahh at hr
  refine sr (wp 1 (nq (sr (wp 1 (bi hr fun y1 a4 hr => wc ent187 hH (alw a4 (hG.hp0 hH)) fun w3 a3 => ?_)))))
  refine wp 1 (nq (sr (wp 1 (bi hr fun y6 a5 hr => wc ent187 a3 (alw a5 (hG.hp0 a3)) fun w8 a0 => wp 1 (wl ?_)))))
  refine qn (cs (sr (wp 1 (nq (cb hr (fun a6 hr => ?_) (fun a6 hr => ?_))))))
  refine cs (sr (wp 1 (nq (cb hr (fun a7 hr => ?_) (fun a7 hr => ?_)))))
  refine sr (wp 1 (nq (ct (st (st ?_)))))
  obtain rfl := oi hr
  exact rv a0.kp
  refine ck (qn (sr (wp 1 (nq (ct (st ?_))))))
  obtain rfl := oi hr
  exact rv a0.kp
  refine ck (qn (cs (sr (wp 1 (nq (cb hr (fun a8 hr => ?_) (fun a8 hr => ?_)))))))
  refine sr (wp 1 (nq (ct (st ?_))))
  obtain rfl := oi hr
  exact rv a0.kp
  refine ck (qn (cs (sr (wp 3 (nq (cb hr (fun a9 hr => ?_) (fun a9 hr => ?_)))))))
  refine sr (wp 1 (nq (ct (st ?_))))
  obtain rfl := oi hr
  exact rv a0.kp
  refine ck (qn (cs (sr (wp 3 (nq (cb hr (fun b0 hr => ?_) (fun b0 hr => ?_)))))))
  refine sr (wp 1 (nq (ct (st ?_))))
  obtain rfl := oi hr
  exact rv a0.kp
  refine ck (qn (sr (wp 1 (nq (ct ?_)))))
  obtain rfl := oi hr
  exact rv a0.kp
theorem ahl {fu : Nat} {a0 : (Str × Str × Bool)} {a1 : (Str × Str × Bool)} {w : World} {r : Int} (hr : afs fu a0 a1 = some r) (hG : Gl w) : CR Tryz.prog 164 [(Value.agg #[(str a0.1), (str a0.2.1), (Vb a0.2.2)]), (Value.agg #[(str a1.1), (str a1.2.1), (Vb a1.2.2)])] w fun v w' => v = (Vi .i64 r) ∧ Hp w [] [] w' := by
  have hH : Hp w [] [] w := Hp.refl w
  refine enter (k := 10) Tryz.func164 rfl rfl (Nat.le_of_ble_eq_true rfl) ?_
  unfold afs at hr
  refine sr (adl hH [(str a0.1), (str a0.2.1), (Vb a0.2.2)] 46 (fun b => (Vp (some ⟨b, 0, none⟩))) rfl rfl (by kernel_rfl) fun b1 w2 a3 => adl a3 [(str a1.1), (str a1.2.1), (Vb a1.2.2)] 46 (fun b => (Vp (some ⟨b, 0, none⟩))) rfl rfl (by kernel_rfl) fun b4 w5 a2 => wp 1 (nq (sr (wp 1 ?_))))
  refine aav a2 1 b1 0 [(str a0.1), (str a0.2.1), (Vb a0.2.2)] 46 (str a0.1) rfl rfl (by kernel_rfl) (by kernel_rfl) (wp 1 (aav a2 0 b4 0 [(str a1.1), (str a1.2.1), (Vb a1.2.2)] 46 (str a1.1) rfl rfl (by kernel_rfl) (by kernel_rfl) (bi hr fun y7 a4 hr => wc ent131 a2 (akv a4 (hG.hp0 a2)) fun w9 a5 => wp 1 (nq (ct ?_)))))
  obtain rfl := oi hr
  exact rv a5.kp
theorem adv {fu : Nat} {a6 : List (Str × Str × Bool)} {b0 : Int} {c0 : Int} (a5 : Option Nat) (a2 : Option Addr) (a3 : Nat) {w : World} {r : List (Str × Str × Bool)} (hr : abm fu a6 b0 c0 = some r) (hG : Gl w) (hM : Hp w (aaj [rwt aaa 46 3 a5 a2 a3 a6]) [rwt aaa 46 3 a5 a2 a3 a6] w) (hS : ∀ b ∈ aaj [rwt aaa 46 3 a5 a2 a3 a6], 9 ≤ b) : CR Tryz.prog 241 [(Vs a2 a6.length a3), (Vi .i64 b0), (Vi .i64 c0), (Value.func (.func 164) #[] #[])] w fun v w' => v = (Value.tuple #[]) ∧ r.length = a6.length ∧ Hp w (aaj [rwt aaa 46 3 a5 a2 a3 a6]) [rwt aaa 46 3 a5 a2 a3 r] w' := by
  have hH : Hp w (aaj [rwt aaa 46 3 a5 a2 a3 a6]) [rwt aaa 46 3 a5 a2 a3 a6] w := hM
  refine enter (k := 53) Tryz.func241 rfl rfl (Nat.le_of_ble_eq_true rfl) ?_
  unfold abm at hr
  refine sr (wp 1 (gi hr fun g1 hr => aac b0 (1 : Int) (by kernel_rfl) (by kernel_rfl) g1 (wp 1 (nq (ce (lpG (σ := Nat × (List (Str × Str × Bool)) × Int) [0, 1, 2, 3, 8] (fun ⟨b5, a9, b2⟩ => [(0, (Vs a2 a9.length a3)), (8, (Vi .i64 b2))]) (fun ⟨b5, a9, b2⟩ w' => Hp w (aaj [rwt aaa 46 3 a5 a2 a3 a6]) [rwt aaa 46 3 a5 a2 a3 a9] w' ∧ a9.length = a6.length ∧ abg fu b0 c0 b5 a9 b2 = some r) (fun ⟨b5, a9, b2⟩ => b5) (fu, a6, b0 + (1 : Int)) (by exact ⟨hH.kp, (by (try simp only [List.length_set]) <;> first | rfl | omega), hr⟩) ?_))))))
  rintro ⟨_ | b5, a9, b2⟩ g0 G ⟨c6, g2, a8⟩
  · exact absurd (show none = some _ from a8) (by simp)
  rw [abg.eq_2] at a8
  refine cs (sr (wp 3 (nq (cd a8 (fun d4 a8 => ?_) (fun d4 a8 => ?_)))))
  refine ck (qn (bi a8 fun c7 d5 a8 => cut (σ := (List (Str × Str × Bool))) [0, 1, 2, 3, 8] (fun b3 => [(0, (Vs a2 b3.length a3))]) (fun b3 w' => Hp w (aaj [rwt aaa 46 3 a5 a2 a3 a6]) [rwt aaa 46 3 a5 a2 a3 b3] w' ∧ b3.length = a9.length ∧ b3 = c7) ?_ ?_))
  refine ce (sr (wp 2 (nq (ce (lpG (σ := Nat × (List (Str × Str × Bool)) × Int) [0, 1, 2, 3, 8, 9] (fun ⟨b4, a1, a0⟩ => [(0, (Vs a2 a1.length a3)), (9, (Vi .i64 a0))]) (fun ⟨b4, a1, a0⟩ w' => Hp w (aaj [rwt aaa 46 3 a5 a2 a3 a6]) [rwt aaa 46 3 a5 a2 a3 a1] w' ∧ a1.length = a9.length ∧ abf fu b0 b4 a1 a0 = some c7) (fun ⟨b4, a1, a0⟩ => b4) (fu, a9, b2) (by exact ⟨c6.kp, (by (try simp only [List.length_set]) <;> first | rfl | omega), d5⟩) ?_)))))
  rintro ⟨_ | b4, a1, a0⟩ g3 G ⟨c1, g4, a4⟩
  · exact absurd (show none = some _ from a4) (by simp)
  rw [abf.eq_2] at a4
  refine cs (bi a4 fun d6 a7 a4 => agq c1 [0, 1, 2, 3, 8, 9, 34] [(34, (Vb d6))] ?_ ?_)
  by_cases b9 : b0 < a0
  replace a7 := ift b9 a7
  refine gi a7 fun d7 a7 => gi a7 fun d8 a7 => gi a7 fun d9 a7 => gi a7 fun e0 a7 => gi a7 fun e1 a7 => adm 14 (fun j_ w_ w_' => abv [8, 14, 15, 16] (fun w' => Rd w' a2 (List.flatMap aaa a1)) j_ w_ w_' ∧ abv [14, 15, 16] (fun w' => Rd w' a2 (List.flatMap aaa a1)) j_ w_ w_' ∧ abv [13, 14, 15, 16] (fun w' => Rd w' a2 (List.flatMap aaa a1)) j_ w_ w_' ∧ True) [false, false, false, false, false, false, false, false, false, false, false, false, false, false, false, false, false] (fun _ _ => ⟨abv.same, abv.same, abv.same, trivial⟩) (by kernel_rfl) (by kernel_rfl) c1 rfl (aal (adb (aal (aah (aah (aal (aal (aah acf)))))))) fun g5 b6 => rp 11 [0, 1, 2] (rt 3 (Vb true) rfl rfl (aai rfl (by intro w hS_; exact Eq.trans (b := Result.ok (Next.value (.bool (decide (b0 < a0)))) w) (by kernel_rfl) (congrArg (fun b => Result.ok (Next.value (.bool b)) w) (decide_eq_true b9)))) (rp 7 [4, 5, 6] (aag [true, true, true, true, true, true, true, true, false, false, false, false, false, false, false, false, false] 7 25 (Vp (some (ea a2 (a0.toNat * 3)))) [8, 14, 15, 16] (fun _ _ _ h => h.1) _ rfl rfl (by kernel_rfl) (by kernel_rfl) (by kernel_rfl) (by kernel_rfl) (by kernel_rfl) rfl (akb 21 (by kernel_rfl) (by kernel_rfl) (by kernel_rfl) (by intro w hS_; exact (amu a2 a1.length a3 46 3 .i64 a0 Tryz.underlying22 (by kernel_rfl) (by kernel_rfl) (by kernel_rfl) a1 rfl d7 hS_ aab (by decide)))) (by exact (b6.rdrw 0 rfl)) ?_)))
  refine aag [true, true, true, true, true, true, true, true, true, false, false, false, false, false, false, false, false] 8 26 (Value.agg #[(str ((el a1 a0).1)), (str ((el a1 a0).2.1)), (Vb ((el a1 a0).2.2))]) [14, 15, 16] (fun _ _ _ h => h.2.1) _ rfl rfl (by kernel_rfl) (by kernel_rfl) (by kernel_rfl) (by kernel_rfl) (by kernel_rfl) rfl (akb 21 (by kernel_rfl) (by kernel_rfl) (by kernel_rfl) (by intro w hS_; exact (x_ldE a2 aaa a1 3 a0 aab hS_ [(str ((el a1 a0).1)), (str ((el a1 a0).2.1)), (Vb ((el a1 a0).2.2))] d8 (by kernel_rfl) (by kernel_rfl) (by kernel_rfl) (by kernel_rfl) (by decide)))) (by exact (b6.rdrw 0 rfl)) (rp 3 [9, 10] (rt 11 (Vi .i64 (a0 - (1 : Int))) rfl rfl (akb 21 (by kernel_rfl) (by kernel_rfl) (by kernel_rfl) (by intro w hS_; exact (akf a0 (1 : Int) (by kernel_rfl) (by kernel_rfl) d9))) (aag [true, true, true, true, true, true, true, true, true, true, true, true, true, false, false, false, false] 12 30 (Vp (some (ea a2 ((a0 - (1 : Int)).toNat * 3)))) [13, 14, 15, 16] (fun _ _ _ h => h.2.2.1) _ rfl rfl (by kernel_rfl) (by kernel_rfl) (by kernel_rfl) (by kernel_rfl) (by kernel_rfl) rfl (akb 21 (by kernel_rfl) (by kernel_rfl) (by kernel_rfl) (by intro w hS_; exact (amu a2 a1.length a3 46 3 .i64 (a0 - (1 : Int)) Tryz.underlying22 (by kernel_rfl) (by kernel_rfl) (by kernel_rfl) a1 rfl e0 hS_ aab (by decide)))) (by exact (b6.rdrw 0 rfl)) (aag [true, true, true, true, true, true, true, true, true, true, true, true, true, true, false, false, false] 13 31 (Value.agg #[(str ((el a1 (a0 - (1 : Int))).1)), (str ((el a1 (a0 - (1 : Int))).2.1)), (Vb ((el a1 (a0 - (1 : Int))).2.2))]) [14, 15, 16] (fun _ _ _ h => h.2.1) _ rfl rfl (by kernel_rfl) (by kernel_rfl) (by kernel_rfl) (by kernel_rfl) (by kernel_rfl) rfl (akb 21 (by kernel_rfl) (by kernel_rfl) (by kernel_rfl) (by intro w hS_; exact (x_ldE a2 aaa a1 3 (a0 - (1 : Int)) aab hS_ [(str ((el a1 (a0 - (1 : Int))).1)), (str ((el a1 (a0 - (1 : Int))).2.1)), (Vb ((el a1 (a0 - (1 : Int))).2.2))] e1 (by kernel_rfl) (by kernel_rfl) (by kernel_rfl) (by kernel_rfl) (by decide)))) (by exact (b6.rdrw 0 rfl)) (acw (by kernel_rfl) (gy 21 (bi a7 fun g6 e2 a7 => wc ent164 b6 (ahl e2 (hG.hp b6 hS)) fun g7 e3 => wp 2 ?_)))))))
  refine wl (ql ?_)
  obtain rfl := oi a7
  exact je e3.kp
  replace a7 := ifn b9 a7
  refine adm 14 (fun j_ w_ w_' => abv [8, 14, 15, 16] (fun w' => Rd w' a2 (List.flatMap aaa a1)) j_ w_ w_' ∧ abv [14, 15, 16] (fun w' => Rd w' a2 (List.flatMap aaa a1)) j_ w_ w_' ∧ abv [13, 14, 15, 16] (fun w' => Rd w' a2 (List.flatMap aaa a1)) j_ w_ w_' ∧ True) [false, false, false, false, false, false, false, false, false, false, false, false, false, false, false, false, false] (fun _ _ => ⟨abv.same, abv.same, abv.same, trivial⟩) (by kernel_rfl) (by kernel_rfl) c1 rfl (aal (adb (aal (aah (aah (aal (aal (aah acf)))))))) fun g8 e4 => rp 11 [0, 1, 2] (rt 3 (Vb false) rfl rfl (aai rfl (by intro w hS_; exact Eq.trans (b := Result.ok (Next.value (.bool (decide (b0 < a0)))) w) (by kernel_rfl) (congrArg (fun b => Result.ok (Next.value (.bool b)) w) (decide_eq_false b9)))) (rp 0 [4, 5, 6, 7, 8, 9, 10, 11, 12, 13] (acw (by kernel_rfl) (wp 3 (wl (ql ?_))))))
  obtain rfl := oi a7
  exact je e4.kp
  intro g9 G b8
  refine cb a4 (fun e5 a4 => ?_) (fun e5 a4 => ?_)
  refine ck (qn (cs (ce (gi a4 fun e6 a4 => gi a4 fun e7 a4 => gi a4 fun c8 a4 => ?_))))
  have e8 := aet (b8.rdrw 0 rfl) aab (by decide) c8
  refine gi a4 fun c9 a4 => gi a4 fun d0 a4 => ?_
  have e9 := aet (b8.rdrw 0 rfl) aab (by decide) d0
  refine gi a4 fun d1 a4 => gi a4 fun c2 a4 => ?_
  have d2 := aet (b8.rdrw 0 rfl) aab (by decide) c2
  refine gi a4 fun d3 a4 => cdr 16 b8 (aah (adb (aal (aah (aah (aal (aal (aah acf)))))))) fun h0 b7 => rp 12 [0, 1, 2, 3] (rt 4 (Vi .i64 (a0 - (1 : Int))) rfl rfl (aai rfl (by intro w hS_; exact (akf a0 (1 : Int) (by kernel_rfl) (by kernel_rfl) e6))) (rp 9 [5, 6] (rt 7 (Vi .i64 (a0 - (1 : Int))) rfl rfl (aai rfl (by intro w hS_; exact (akf a0 (1 : Int) (by kernel_rfl) (by kernel_rfl) e7))) (rt 8 (Vp (some (ea a2 ((a0 - (1 : Int)).toNat * 3)))) rfl rfl (aai rfl (by intro w hS_; exact (ajn a2 a1.length a3 46 3 .i64 (a0 - (1 : Int)) Tryz.underlying22 (by kernel_rfl) (by kernel_rfl) (by kernel_rfl) (ael (l := a1) rfl c8) e8))) (rp 5 [10, 11] (rt 12 (Vp (some (ea a2 (a0.toNat * 3)))) rfl rfl (aai rfl (by intro w hS_; exact (ajn a2 a1.length a3 46 3 .i64 a0 Tryz.underlying22 (by kernel_rfl) (by kernel_rfl) (by kernel_rfl) (ael (l := a1) rfl d0) e9))) (r_one2 [true, true, true, true, true, true, true, true, true, true, true, true, true, false, false, false, false, false] [true, true, true, true, true, true, true, true, true, false, true, true, true, true, false, false, false, false] 9 13 _ _ rfl rfl (by kernel_rfl) (by kernel_rfl) (by kernel_rfl) rfl rfl ?_ ?_)))))))
  refine ahm a2 aaa a1 3 (a0 - (1 : Int)) aab (b7.rdrw 0 rfl) [(str ((el a1 (a0 - (1 : Int))).1)), (str ((el a1 (a0 - (1 : Int))).2.1)), (Vb ((el a1 (a0 - (1 : Int))).2.2))] c9 (by kernel_rfl) (by kernel_rfl) (by kernel_rfl) (by kernel_rfl) (by decide) (wl (abk (by exact trivial) (ro 13 rfl (ahm a2 aaa a1 3 a0 aab (b7.rdrw 0 rfl) [(str ((el a1 a0).1)), (str ((el a1 a0).2.1)), (Vb ((el a1 a0).2.2))] d1 (by kernel_rfl) (by kernel_rfl) (by kernel_rfl) (by kernel_rfl) (by decide) (wl (abk (by exact trivial) (rt 14 (Vp (some (ea a2 (a0.toNat * 3)))) rfl rfl (aai rfl (by intro w hS_; exact (ajn a2 a1.length a3 46 3 .i64 a0 Tryz.underlying22 (by kernel_rfl) (by kernel_rfl) (by kernel_rfl) (ael (l := a1) rfl c2) d2))) (ro 15 rfl (ajr b7 0 a5 a2 a3 46 3 a0 a1 ((el a1 (a0 - (1 : Int))).1, (el a1 (a0 - (1 : Int))).2.1, ((el a1 (a0 - (1 : Int))).2.2)) rfl aab [(str ((el a1 (a0 - (1 : Int))).1)), (str ((el a1 (a0 - (1 : Int))).2.1)), (Vb ((el a1 (a0 - (1 : Int))).2.2))] d3 (by kernel_rfl) (by kernel_rfl) (by kernel_rfl) (by decide) (by kernel_rfl) fun c3 b1 => ?_)))))))))
  replace b1 : Hp w (aaj [rwt aaa 46 3 a5 a2 a3 a6]) [rwt aaa 46 3 a5 a2 a3 (List.set a1 (Int.toNat a0) ((el a1 (a0 - (1 : Int))).1, (el a1 (a0 - (1 : Int))).2.1, ((el a1 (a0 - (1 : Int))).2.2)))] c3 := b1
  refine wl (abk (by exact trivial) (acw (by kernel_rfl) (gi a4 fun f0 a4 => aht a2 a1.length a3 46 3 .i64 (a0 - (1 : Int)) Tryz.underlying22 (by kernel_rfl) (by kernel_rfl) (by kernel_rfl) (List.set a1 (Int.toNat a0) ((el a1 (a0 - (1 : Int))).1, (el a1 (a0 - (1 : Int))).2.1, ((el a1 (a0 - (1 : Int))).2.2))) (by first | rfl | (simp; done) | omega | (simp; omega) | (rw [List.length_take]; omega)) f0 (b1.rdrw 0 rfl) aab (by decide) (gi a4 fun f1 a4 => ajr b1 0 a5 a2 a3 46 3 (a0 - (1 : Int)) (List.set a1 (Int.toNat a0) ((el a1 (a0 - (1 : Int))).1, (el a1 (a0 - (1 : Int))).2.1, ((el a1 (a0 - (1 : Int))).2.2))) ((el a1 a0).1, (el a1 a0).2.1, ((el a1 a0).2.2)) rfl aab [(str ((el a1 a0).1)), (str ((el a1 a0).2.1)), (Vb ((el a1 a0).2.2))] f1 (by kernel_rfl) (by kernel_rfl) (by kernel_rfl) (by decide) (by kernel_rfl) fun f2 c4 => ?_))))
  replace c4 : Hp w (aaj [rwt aaa 46 3 a5 a2 a3 a6]) [rwt aaa 46 3 a5 a2 a3 (List.set (List.set a1 (Int.toNat a0) ((el a1 (a0 - (1 : Int))).1, (el a1 (a0 - (1 : Int))).2.1, ((el a1 (a0 - (1 : Int))).2.2))) (Int.toNat (a0 - (1 : Int))) ((el a1 a0).1, (el a1 a0).2.1, ((el a1 a0).2.2)))] f2 := c4
  refine wl (bn (qn (cr (wp 1 (gi a4 fun f3 a4 => adp a0 (1 : Int) (by kernel_rfl) (by kernel_rfl) f3 (wp 1 (wl (ql ?_))))))))
  exact ⟨(b4, List.set (List.set a1 (Int.toNat a0) ((el a1 (a0 - (1 : Int))).1, (el a1 (a0 - (1 : Int))).2.1, ((el a1 (a0 - (1 : Int))).2.2))) (Int.toNat (a0 - (1 : Int))) ((el a1 a0).1, (el a1 a0).2.1, ((el a1 a0).2.2)), a0 - (1 : Int)), _, rfl, (mc (Eq.trans (b := (Vs a2 a1.length a3)) (by kernel_rfl) (aae (by (try simp only [List.length_set]) <;> first | rfl | omega | simp))) (mc (by kernel_rfl) (mc (by kernel_rfl) (mc (by kernel_rfl) (mc (by kernel_rfl) (mc (by kernel_rfl) rfl)))))), ⟨c4.kp, (by (try simp only [List.length_set]) <;> first | rfl | omega), a4⟩, Nat.lt_succ_self _⟩
  refine ahm a2 aaa a1 3 a0 aab (b7.rdrw 0 rfl) [(str ((el a1 a0).1)), (str ((el a1 a0).2.1)), (Vb ((el a1 a0).2.2))] d1 (by kernel_rfl) (by kernel_rfl) (by kernel_rfl) (by kernel_rfl) (by decide) (wl (abk (by exact trivial) (ro 9 rfl (ahm a2 aaa a1 3 (a0 - (1 : Int)) aab (b7.rdrw 0 rfl) [(str ((el a1 (a0 - (1 : Int))).1)), (str ((el a1 (a0 - (1 : Int))).2.1)), (Vb ((el a1 (a0 - (1 : Int))).2.2))] c9 (by kernel_rfl) (by kernel_rfl) (by kernel_rfl) (by kernel_rfl) (by decide) (wl (abk (by exact trivial) (rt 14 (Vp (some (ea a2 (a0.toNat * 3)))) rfl rfl (aai rfl (by intro w hS_; exact (ajn a2 a1.length a3 46 3 .i64 a0 Tryz.underlying22 (by kernel_rfl) (by kernel_rfl) (by kernel_rfl) (ael (l := a1) rfl c2) d2))) (ro 15 rfl (ajr b7 0 a5 a2 a3 46 3 a0 a1 ((el a1 (a0 - (1 : Int))).1, (el a1 (a0 - (1 : Int))).2.1, ((el a1 (a0 - (1 : Int))).2.2)) rfl aab [(str ((el a1 (a0 - (1 : Int))).1)), (str ((el a1 (a0 - (1 : Int))).2.1)), (Vb ((el a1 (a0 - (1 : Int))).2.2))] d3 (by kernel_rfl) (by kernel_rfl) (by kernel_rfl) (by decide) (by kernel_rfl) fun c3 b1 => ?_)))))))))
  replace b1 : Hp w (aaj [rwt aaa 46 3 a5 a2 a3 a6]) [rwt aaa 46 3 a5 a2 a3 (List.set a1 (Int.toNat a0) ((el a1 (a0 - (1 : Int))).1, (el a1 (a0 - (1 : Int))).2.1, ((el a1 (a0 - (1 : Int))).2.2)))] c3 := b1
  refine wl (abk (by exact trivial) (acw (by kernel_rfl) (gi a4 fun f4 a4 => aht a2 a1.length a3 46 3 .i64 (a0 - (1 : Int)) Tryz.underlying22 (by kernel_rfl) (by kernel_rfl) (by kernel_rfl) (List.set a1 (Int.toNat a0) ((el a1 (a0 - (1 : Int))).1, (el a1 (a0 - (1 : Int))).2.1, ((el a1 (a0 - (1 : Int))).2.2))) (by first | rfl | (simp; done) | omega | (simp; omega) | (rw [List.length_take]; omega)) f4 (b1.rdrw 0 rfl) aab (by decide) (gi a4 fun f5 a4 => ajr b1 0 a5 a2 a3 46 3 (a0 - (1 : Int)) (List.set a1 (Int.toNat a0) ((el a1 (a0 - (1 : Int))).1, (el a1 (a0 - (1 : Int))).2.1, ((el a1 (a0 - (1 : Int))).2.2))) ((el a1 a0).1, (el a1 a0).2.1, ((el a1 a0).2.2)) rfl aab [(str ((el a1 a0).1)), (str ((el a1 a0).2.1)), (Vb ((el a1 a0).2.2))] f5 (by kernel_rfl) (by kernel_rfl) (by kernel_rfl) (by decide) (by kernel_rfl) fun f6 c5 => ?_))))
  replace c5 : Hp w (aaj [rwt aaa 46 3 a5 a2 a3 a6]) [rwt aaa 46 3 a5 a2 a3 (List.set (List.set a1 (Int.toNat a0) ((el a1 (a0 - (1 : Int))).1, (el a1 (a0 - (1 : Int))).2.1, ((el a1 (a0 - (1 : Int))).2.2))) (Int.toNat (a0 - (1 : Int))) ((el a1 a0).1, (el a1 a0).2.1, ((el a1 a0).2.2)))] f6 := c5
  refine wl (bn (qn (cr (wp 1 (gi a4 fun f7 a4 => adp a0 (1 : Int) (by kernel_rfl) (by kernel_rfl) f7 (wp 1 (wl (ql ?_))))))))
  exact ⟨(b4, List.set (List.set a1 (Int.toNat a0) ((el a1 (a0 - (1 : Int))).1, (el a1 (a0 - (1 : Int))).2.1, ((el a1 (a0 - (1 : Int))).2.2))) (Int.toNat (a0 - (1 : Int))) ((el a1 a0).1, (el a1 a0).2.1, ((el a1 a0).2.2)), a0 - (1 : Int)), _, rfl, (mc (Eq.trans (b := (Vs a2 a1.length a3)) (by kernel_rfl) (aae (by (try simp only [List.length_set]) <;> first | rfl | omega | simp))) (mc (by kernel_rfl) (mc (by kernel_rfl) (mc (by kernel_rfl) (mc (by kernel_rfl) (mc (by kernel_rfl) rfl)))))), ⟨c5.kp, (by (try simp only [List.length_set]) <;> first | rfl | omega), a4⟩, Nat.lt_succ_self _⟩
  refine ach (acg (acq (aci (bn (ql ?_)))))
  obtain rfl := oi a4
  exact ⟨a1, _, rfl, by kernel_rfl, b8.kp, (by (try simp only [List.length_set]) <;> first | rfl | omega), rfl⟩
  rintro b3 h1 G ⟨f8, h2, rfl⟩
  refine cr (wp 1 (gi a8 fun f9 a8 => aac b2 (1 : Int) (by kernel_rfl) (by kernel_rfl) f9 (wp 1 (wl (ql ?_)))))
  exact ⟨(b5, b3, b2 + (1 : Int)), _, rfl, by kernel_rfl, ⟨f8.kp, (by (try simp only [List.length_set]) <;> first | rfl | omega), a8⟩, Nat.lt_succ_self _⟩
  refine ach (acg (acq (aci ?_)))
  obtain rfl := oi a8
  refine ahn  rfl  ?_
  exact ⟨(by first | rfl | (simp; done) | (simp; omega)), (by (try simp only [List.length_set]) <;> first | rfl | omega), c6.kp⟩
theorem acv {fu : Nat} {a8 : List (Str × Str × Bool)} {a3 : Int} {a2 : Int} {b3 : Int} (a7 : Option Nat) (a5 : Option Addr) (a6 : Nat) {w : World} {r : List (Str × Str × Bool)} (hr : abb fu a8 a3 a2 b3 = some r) (hG : Gl w) (hM : Hp w (aaj [rwt aaa 46 3 a7 a5 a6 a8]) [rwt aaa 46 3 a7 a5 a6 a8] w) (hS : ∀ b ∈ aaj [rwt aaa 46 3 a7 a5 a6 a8], 9 ≤ b) : CR Tryz.prog 270 [(Vs a5 a8.length a6), (Vi .i64 a3), (Vi .i64 a2), (Vi .i64 b3), (Value.func (.func 164) #[] #[])] w fun v w' => v = (Value.tuple #[]) ∧ r.length = a8.length ∧ Hp w (aaj [rwt aaa 46 3 a7 a5 a6 a8]) [rwt aaa 46 3 a7 a5 a6 r] w' := by
  have hH : Hp w (aaj [rwt aaa 46 3 a7 a5 a6 a8]) [rwt aaa 46 3 a7 a5 a6 a8] w := hM
  refine enter (k := 38) Tryz.func270 rfl rfl (Nat.le_of_ble_eq_true rfl) ?_
  unfold abb at hr
  refine sr (wp 1 (nq (ce (lpG (σ := Nat × (List (Str × Str × Bool)) × Int) [0, 1, 2, 3, 10] (fun ⟨b0, a1, a0⟩ => [(0, (Vs a5 a1.length a6)), (10, (Vi .i64 a0))]) (fun ⟨b0, a1, a0⟩ w' => Hp w (aaj [rwt aaa 46 3 a7 a5 a6 a8]) [rwt aaa 46 3 a7 a5 a6 a1] w' ∧ a1.length = a8.length ∧ abl fu a3 a2 b3 b0 a1 a0 = some r) (fun ⟨b0, a1, a0⟩ => b0) (fu, a8, (0 : Int)) (by exact ⟨hH.kp, (by (try simp only [List.length_set]) <;> first | rfl | omega), hr⟩) ?_))))
  rintro ⟨_ | b0, a1, a0⟩ d9 G ⟨b2, e0, a4⟩
  · exact absurd (show none = some _ from a4) (by simp)
  rw [abl.eq_2] at a4
  refine cs (sr (wp 3 (nq (cd a4 (fun c4 a4 => ?_) (fun c4 a4 => ?_)))))
  refine ck (qn (cs (ce (gi a4 fun c5 a4 => gi a4 fun c6 a4 => gi a4 fun c7 a4 => gi a4 fun b8 a4 => ?_))))
  have c8 := aet (b2.rdrw 0 rfl) aab (by decide) b8
  refine gi a4 fun b9 a4 => gi a4 fun c9 a4 => gi a4 fun c0 a4 => ?_
  have d0 := aet (b2.rdrw 0 rfl) aab (by decide) c0
  refine gi a4 fun c1 a4 => gi a4 fun b4 a4 => ?_
  have c2 := aet (b2.rdrw 0 rfl) aab (by decide) b4
  refine gi a4 fun c3 a4 => cdr 22 b2 (aah (adb (aal (aah acf)))) fun e1 b1 => rp 19 [0, 1, 2] (rt 3 (Vi .i64 (a3 + a0)) rfl rfl (aai rfl (by intro w hS_; exact (aiv a3 a0 (by kernel_rfl) (by kernel_rfl) c5))) (rp 15 [4, 5, 6] (rt 7 (Vi .i64 (a2 + a0)) rfl rfl (aai rfl (by intro w hS_; exact (aiv a2 a0 (by kernel_rfl) (by kernel_rfl) c6))) (rp 11 [8, 9, 10] (rt 11 (Vi .i64 (a2 + a0)) rfl rfl (aai rfl (by intro w hS_; exact (aiv a2 a0 (by kernel_rfl) (by kernel_rfl) c7))) (rt 12 (Vp (some (ea a5 ((a2 + a0).toNat * 3)))) rfl rfl (aai rfl (by intro w hS_; exact (ajn a5 a1.length a6 46 3 .i64 (a2 + a0) Tryz.underlying22 (by kernel_rfl) (by kernel_rfl) (by kernel_rfl) (ael (l := a1) rfl b8) c8))) (rp 6 [14, 15, 16] ?_)))))))
  refine rt 17 (Vi .i64 (a3 + a0)) rfl rfl (aai rfl (by intro w hS_; exact (aiv a3 a0 (by kernel_rfl) (by kernel_rfl) c9))) (rt 18 (Vp (some (ea a5 ((a3 + a0).toNat * 3)))) rfl rfl (aai rfl (by intro w hS_; exact (ajn a5 a1.length a6 46 3 .i64 (a3 + a0) Tryz.underlying22 (by kernel_rfl) (by kernel_rfl) (by kernel_rfl) (ael (l := a1) rfl c0) d0))) (r_one2 [true, true, true, true, true, true, true, true, true, true, true, true, true, true, true, true, true, true, true, false, false, false, false, false] [true, true, true, true, true, true, true, true, true, true, true, true, true, false, true, true, true, true, true, true, false, false, false, false] 13 19 _ _ rfl rfl (by kernel_rfl) (by kernel_rfl) (by kernel_rfl) rfl rfl ?_ ?_))
  refine ahm a5 aaa a1 3 (a2 + a0) aab (b1.rdrw 0 rfl) [(str ((el a1 (a2 + a0)).1)), (str ((el a1 (a2 + a0)).2.1)), (Vb ((el a1 (a2 + a0)).2.2))] b9 (by kernel_rfl) (by kernel_rfl) (by kernel_rfl) (by kernel_rfl) (by decide) (wl (abk (by exact trivial) (ro 19 rfl (ahm a5 aaa a1 3 (a3 + a0) aab (b1.rdrw 0 rfl) [(str ((el a1 (a3 + a0)).1)), (str ((el a1 (a3 + a0)).2.1)), (Vb ((el a1 (a3 + a0)).2.2))] c1 (by kernel_rfl) (by kernel_rfl) (by kernel_rfl) (by kernel_rfl) (by decide) (wl (abk (by exact trivial) (rt 20 (Vp (some (ea a5 ((a3 + a0).toNat * 3)))) rfl rfl (aai rfl (by intro w hS_; exact (ajn a5 a1.length a6 46 3 .i64 (a3 + a0) Tryz.underlying22 (by kernel_rfl) (by kernel_rfl) (by kernel_rfl) (ael (l := a1) rfl b4) c2))) (ro 21 rfl (ajr b1 0 a7 a5 a6 46 3 (a3 + a0) a1 ((el a1 (a2 + a0)).1, (el a1 (a2 + a0)).2.1, ((el a1 (a2 + a0)).2.2)) rfl aab [(str ((el a1 (a2 + a0)).1)), (str ((el a1 (a2 + a0)).2.1)), (Vb ((el a1 (a2 + a0)).2.2))] c3 (by kernel_rfl) (by kernel_rfl) (by kernel_rfl) (by decide) (by kernel_rfl) fun b5 a9 => ?_)))))))))
  replace a9 : Hp w (aaj [rwt aaa 46 3 a7 a5 a6 a8]) [rwt aaa 46 3 a7 a5 a6 (List.set a1 (Int.toNat (a3 + a0)) ((el a1 (a2 + a0)).1, (el a1 (a2 + a0)).2.1, ((el a1 (a2 + a0)).2.2)))] b5 := a9
  refine wl (abk (by exact trivial) (acw (by kernel_rfl) (gi a4 fun d1 a4 => aht a5 a1.length a6 46 3 .i64 (a2 + a0) Tryz.underlying22 (by kernel_rfl) (by kernel_rfl) (by kernel_rfl) (List.set a1 (Int.toNat (a3 + a0)) ((el a1 (a2 + a0)).1, (el a1 (a2 + a0)).2.1, ((el a1 (a2 + a0)).2.2))) (by first | rfl | (simp; done) | omega | (simp; omega) | (rw [List.length_take]; omega)) d1 (a9.rdrw 0 rfl) aab (by decide) (gi a4 fun d2 a4 => ajr a9 0 a7 a5 a6 46 3 (a2 + a0) (List.set a1 (Int.toNat (a3 + a0)) ((el a1 (a2 + a0)).1, (el a1 (a2 + a0)).2.1, ((el a1 (a2 + a0)).2.2))) ((el a1 (a3 + a0)).1, (el a1 (a3 + a0)).2.1, ((el a1 (a3 + a0)).2.2)) rfl aab [(str ((el a1 (a3 + a0)).1)), (str ((el a1 (a3 + a0)).2.1)), (Vb ((el a1 (a3 + a0)).2.2))] d2 (by kernel_rfl) (by kernel_rfl) (by kernel_rfl) (by decide) (by kernel_rfl) fun d3 b6 => ?_))))
  replace b6 : Hp w (aaj [rwt aaa 46 3 a7 a5 a6 a8]) [rwt aaa 46 3 a7 a5 a6 (List.set (List.set a1 (Int.toNat (a3 + a0)) ((el a1 (a2 + a0)).1, (el a1 (a2 + a0)).2.1, ((el a1 (a2 + a0)).2.2))) (Int.toNat (a2 + a0)) ((el a1 (a3 + a0)).1, (el a1 (a3 + a0)).2.1, ((el a1 (a3 + a0)).2.2)))] d3 := b6
  refine wl (bn (qn (cr (wp 1 (gi a4 fun d4 a4 => aac a0 (1 : Int) (by kernel_rfl) (by kernel_rfl) d4 (wp 1 (wl (ql ?_))))))))
  exact ⟨(b0, List.set (List.set a1 (Int.toNat (a3 + a0)) ((el a1 (a2 + a0)).1, (el a1 (a2 + a0)).2.1, ((el a1 (a2 + a0)).2.2))) (Int.toNat (a2 + a0)) ((el a1 (a3 + a0)).1, (el a1 (a3 + a0)).2.1, ((el a1 (a3 + a0)).2.2)), a0 + (1 : Int)), _, rfl, (mc (Eq.trans (b := (Vs a5 a1.length a6)) (by kernel_rfl) (aae (by (try simp only [List.length_set]) <;> first | rfl | omega | simp))) (mc (by kernel_rfl) (mc (by kernel_rfl) (mc (by kernel_rfl) (mc (by kernel_rfl) rfl))))), ⟨b6.kp, (by (try simp only [List.length_set]) <;> first | rfl | omega), a4⟩, Nat.lt_succ_self _⟩
  refine ahm a5 aaa a1 3 (a3 + a0) aab (b1.rdrw 0 rfl) [(str ((el a1 (a3 + a0)).1)), (str ((el a1 (a3 + a0)).2.1)), (Vb ((el a1 (a3 + a0)).2.2))] c1 (by kernel_rfl) (by kernel_rfl) (by kernel_rfl) (by kernel_rfl) (by decide) (wl (abk (by exact trivial) (ro 13 rfl (ahm a5 aaa a1 3 (a2 + a0) aab (b1.rdrw 0 rfl) [(str ((el a1 (a2 + a0)).1)), (str ((el a1 (a2 + a0)).2.1)), (Vb ((el a1 (a2 + a0)).2.2))] b9 (by kernel_rfl) (by kernel_rfl) (by kernel_rfl) (by kernel_rfl) (by decide) (wl (abk (by exact trivial) (rt 20 (Vp (some (ea a5 ((a3 + a0).toNat * 3)))) rfl rfl (aai rfl (by intro w hS_; exact (ajn a5 a1.length a6 46 3 .i64 (a3 + a0) Tryz.underlying22 (by kernel_rfl) (by kernel_rfl) (by kernel_rfl) (ael (l := a1) rfl b4) c2))) (ro 21 rfl (ajr b1 0 a7 a5 a6 46 3 (a3 + a0) a1 ((el a1 (a2 + a0)).1, (el a1 (a2 + a0)).2.1, ((el a1 (a2 + a0)).2.2)) rfl aab [(str ((el a1 (a2 + a0)).1)), (str ((el a1 (a2 + a0)).2.1)), (Vb ((el a1 (a2 + a0)).2.2))] c3 (by kernel_rfl) (by kernel_rfl) (by kernel_rfl) (by decide) (by kernel_rfl) fun b5 a9 => ?_)))))))))
  replace a9 : Hp w (aaj [rwt aaa 46 3 a7 a5 a6 a8]) [rwt aaa 46 3 a7 a5 a6 (List.set a1 (Int.toNat (a3 + a0)) ((el a1 (a2 + a0)).1, (el a1 (a2 + a0)).2.1, ((el a1 (a2 + a0)).2.2)))] b5 := a9
  refine wl (abk (by exact trivial) (acw (by kernel_rfl) (gi a4 fun d5 a4 => aht a5 a1.length a6 46 3 .i64 (a2 + a0) Tryz.underlying22 (by kernel_rfl) (by kernel_rfl) (by kernel_rfl) (List.set a1 (Int.toNat (a3 + a0)) ((el a1 (a2 + a0)).1, (el a1 (a2 + a0)).2.1, ((el a1 (a2 + a0)).2.2))) (by first | rfl | (simp; done) | omega | (simp; omega) | (rw [List.length_take]; omega)) d5 (a9.rdrw 0 rfl) aab (by decide) (gi a4 fun d6 a4 => ajr a9 0 a7 a5 a6 46 3 (a2 + a0) (List.set a1 (Int.toNat (a3 + a0)) ((el a1 (a2 + a0)).1, (el a1 (a2 + a0)).2.1, ((el a1 (a2 + a0)).2.2))) ((el a1 (a3 + a0)).1, (el a1 (a3 + a0)).2.1, ((el a1 (a3 + a0)).2.2)) rfl aab [(str ((el a1 (a3 + a0)).1)), (str ((el a1 (a3 + a0)).2.1)), (Vb ((el a1 (a3 + a0)).2.2))] d6 (by kernel_rfl) (by kernel_rfl) (by kernel_rfl) (by decide) (by kernel_rfl) fun d7 b7 => ?_))))
  replace b7 : Hp w (aaj [rwt aaa 46 3 a7 a5 a6 a8]) [rwt aaa 46 3 a7 a5 a6 (List.set (List.set a1 (Int.toNat (a3 + a0)) ((el a1 (a2 + a0)).1, (el a1 (a2 + a0)).2.1, ((el a1 (a2 + a0)).2.2))) (Int.toNat (a2 + a0)) ((el a1 (a3 + a0)).1, (el a1 (a3 + a0)).2.1, ((el a1 (a3 + a0)).2.2)))] d7 := b7
  refine wl (bn (qn (cr (wp 1 (gi a4 fun d8 a4 => aac a0 (1 : Int) (by kernel_rfl) (by kernel_rfl) d8 (wp 1 (wl (ql ?_))))))))
  exact ⟨(b0, List.set (List.set a1 (Int.toNat (a3 + a0)) ((el a1 (a2 + a0)).1, (el a1 (a2 + a0)).2.1, ((el a1 (a2 + a0)).2.2))) (Int.toNat (a2 + a0)) ((el a1 (a3 + a0)).1, (el a1 (a3 + a0)).2.1, ((el a1 (a3 + a0)).2.2)), a0 + (1 : Int)), _, rfl, (mc (Eq.trans (b := (Vs a5 a1.length a6)) (by kernel_rfl) (aae (by (try simp only [List.length_set]) <;> first | rfl | omega | simp))) (mc (by kernel_rfl) (mc (by kernel_rfl) (mc (by kernel_rfl) (mc (by kernel_rfl) rfl))))), ⟨b7.kp, (by (try simp only [List.length_set]) <;> first | rfl | omega), a4⟩, Nat.lt_succ_self _⟩
  refine ach (acg (acq (aci ?_)))
  obtain rfl := oi a4
  refine ahn  rfl  ?_
  exact ⟨(by first | rfl | (simp; done) | (simp; omega)), (by (try simp only [List.length_set]) <;> first | rfl | omega), b2.kp⟩
theorem ahc {fu : Nat} {a6 : List (Str × Str × Bool)} {b2 : Int} {a4 : Int} {b3 : Int} (a3 : Option Nat) (a0 : Option Addr) (a1 : Nat) {w : World} {r : List (Str × Str × Bool)} (hr : adi fu a6 b2 a4 b3 = some r) (hG : Gl w) (hM : Hp w (aaj [rwt aaa 46 3 a3 a0 a1 a6]) [rwt aaa 46 3 a3 a0 a1 a6] w) (hS : ∀ b ∈ aaj [rwt aaa 46 3 a3 a0 a1 a6], 9 ≤ b) : CR Tryz.prog 262 [(Vs a0 a6.length a1), (Vi .i64 b2), (Vi .i64 a4), (Vi .i64 b3), (Value.func (.func 164) #[] #[])] w fun v w' => v = (Value.tuple #[]) ∧ r.length = a6.length ∧ Hp w (aaj [rwt aaa 46 3 a3 a0 a1 a6]) [rwt aaa 46 3 a3 a0 a1 r] w' := by
  have hH : Hp w (aaj [rwt aaa 46 3 a3 a0 a1 a6]) [rwt aaa 46 3 a3 a0 a1 a6] w := hM
  refine enter (k := 58) Tryz.func262 rfl rfl (Nat.le_of_ble_eq_true rfl) ?_
  unfold adi at hr
  refine sr (wp 2 (gi hr fun g1 hr => adp a4 b2 (by kernel_rfl) (by kernel_rfl) g1 (wp 1 (nq (sr ?_)))))
  refine wp 2 (gi hr fun g2 hr => adp b3 a4 (by kernel_rfl) (by kernel_rfl) g2 (wp 1 (nq (bi hr fun b5 c1 hr => cut (σ := ((List (Str × Str × Bool)) × Int)) [0, 2, 4, 10] (fun a9 => [(0, (Vs a0 a9.1.length a1)), (10, (Vi .i64 a9.2))]) (fun a9 w' => Hp w (aaj [rwt aaa 46 3 a3 a0 a1 a6]) [rwt aaa 46 3 a3 a0 a1 a9.1] w' ∧ a9.1.length = a6.length ∧ a9 = b5) ?_ ?_))))
  refine ce (lpG (σ := Nat × (List (Str × Str × Bool)) × Int × Int) [0, 2, 4, 10, 11] (fun ⟨b1, a7, a5, a8⟩ => [(0, (Vs a0 a7.length a1)), (10, (Vi .i64 a5)), (11, (Vi .i64 a8))]) (fun ⟨b1, a7, a5, a8⟩ w' => Hp w (aaj [rwt aaa 46 3 a3 a0 a1 a6]) [rwt aaa 46 3 a3 a0 a1 a7] w' ∧ a7.length = a6.length ∧ aba fu a4 b1 a7 a5 a8 = some b5) (fun ⟨b1, a7, a5, a8⟩ => b1) (fu, a6, a4 - b2, b3 - a4) (by exact ⟨hH.kp, (by (try simp only [List.length_set]) <;> first | rfl | omega), c1⟩) ?_)
  rintro ⟨_ | b1, a7, a5, a8⟩ e1 G ⟨b0, e2, a2⟩
  · exact absurd (show none = some _ from a2) (by simp)
  rw [aba.eq_2] at a2
  refine cs (sr (wp 3 (nq (cn a2 (fun c2 a2 => ?_) (fun c2 a2 => ?_)))))
  refine ck (qn (ce (sr (wp 3 (nq (cd a2 (fun c3 a2 => ?_) (fun c3 a2 => ?_)))))))
  refine sr (wp 3 (gi a2 fun c4 a2 => adp a4 a5 (by kernel_rfl) (by kernel_rfl) c4 (wp 3 (bi a2 fun b6 c5 a2 => aad 270 #[] [(Vs a0 a7.length a1), (Vi .i64 (a4 - a5)), (Vi .i64 a4), (Vi .i64 a8), (Value.func (.func 164) #[] #[])] _ ent270 (by kernel_rfl) (by kernel_rfl) (acv a3 a0 a1 c5 (hG.hp b0 hS) (b0.hand (L1 := [rwt aaa 46 3 a3 a0 a1 a7]) (L2 := [])) (b0.highs hG hS 1 rfl)) ?_))))
  rintro _ c6 ⟨rfl, e3, b7⟩
  have c7 : Hp w (aaj [rwt aaa 46 3 a3 a0 a1 a6]) [rwt aaa 46 3 a3 a0 a1 b6] c6 := Hp.callK (L1 := [rwt aaa 46 3 a3 a0 a1 a7]) (L2 := []) b0 b7; clear b7
  refine nq (cr (wp 2 (gi a2 fun c8 a2 => adp a5 a8 (by kernel_rfl) (by kernel_rfl) c8 (wp 1 (wl (bn (ql ?_)))))))
  exact ⟨(b1, b6, a5 - a8, a8), _, rfl, (mc (Eq.trans (b := (Vs a0 a7.length a1)) (by kernel_rfl) (aae (by (try simp only [List.length_set]) <;> first | rfl | omega | simp))) (mc (by kernel_rfl) (mc (by kernel_rfl) (mc (by kernel_rfl) (mc (by kernel_rfl) rfl))))), ⟨c7.kp, (by (try simp only [List.length_set]) <;> first | rfl | omega), a2⟩, Nat.lt_succ_self _⟩
  refine sr (wp 3 (gi a2 fun c9 a2 => adp a4 a5 (by kernel_rfl) (by kernel_rfl) c9 (wp 2 (gi a2 fun d0 a2 => aac a4 a8 (by kernel_rfl) (by kernel_rfl) d0 (wp 1 (gi a2 fun d1 a2 => ?_))))))
  refine adp (a4 + a8) a5 (by kernel_rfl) (by kernel_rfl) d1 (wp 2 (bi a2 fun b8 d2 a2 => aad 270 #[] [(Vs a0 a7.length a1), (Vi .i64 (a4 - a5)), (Vi .i64 ((a4 + a8) - a5)), (Vi .i64 a5), (Value.func (.func 164) #[] #[])] _ ent270 (by kernel_rfl) (by kernel_rfl) (acv a3 a0 a1 d2 (hG.hp b0 hS) (b0.hand (L1 := [rwt aaa 46 3 a3 a0 a1 a7]) (L2 := [])) (b0.highs hG hS 1 rfl)) ?_))
  rintro _ d3 ⟨rfl, e4, b9⟩
  have d4 : Hp w (aaj [rwt aaa 46 3 a3 a0 a1 a6]) [rwt aaa 46 3 a3 a0 a1 b8] d3 := Hp.callK (L1 := [rwt aaa 46 3 a3 a0 a1 a7]) (L2 := []) b0 b9; clear b9
  refine nq (cr (wp 2 (gi a2 fun d5 a2 => adp a8 a5 (by kernel_rfl) (by kernel_rfl) d5 (wp 1 (wl (bn (ql ?_)))))))
  exact ⟨(b1, b8, a5, a8 - a5), _, rfl, (mc (Eq.trans (b := (Vs a0 a7.length a1)) (by kernel_rfl) (aae (by (try simp only [List.length_set]) <;> first | rfl | omega | simp))) (mc (by kernel_rfl) (mc (by kernel_rfl) (mc (by kernel_rfl) (mc (by kernel_rfl) rfl))))), ⟨d4.kp, (by (try simp only [List.length_set]) <;> first | rfl | omega), a2⟩, Nat.lt_succ_self _⟩
  refine ach (acg (acq (aci (ql ?_))))
  obtain rfl := oi a2
  exact ⟨(a7, a5), _, rfl, by kernel_rfl, b0.kp, (by (try simp only [List.length_set]) <;> first | rfl | omega), rfl⟩
  rintro a9 e5 G ⟨b4, e6, rfl⟩
  refine cr (wp 3 (gi hr fun d6 hr => adp a4 a9.2 (by kernel_rfl) (by kernel_rfl) d6 (wp 3 (bi hr fun d7 d8 hr => aad 270 #[] [(Vs a0 a9.1.length a1), (Vi .i64 (a4 - a9.2)), (Vi .i64 a4), (Vi .i64 a9.2), (Value.func (.func 164) #[] #[])] _ ent270 (by kernel_rfl) (by kernel_rfl) (acv a3 a0 a1 d8 (hG.hp b4 hS) (b4.hand (L1 := [rwt aaa 46 3 a3 a0 a1 a9.1]) (L2 := [])) (b4.highs hG hS 1 rfl)) ?_))))
  rintro _ d9 ⟨rfl, e7, c0⟩
  have e0 : Hp w (aaj [rwt aaa 46 3 a3 a0 a1 a6]) [rwt aaa 46 3 a3 a0 a1 d7] d9 := Hp.callK (L1 := [rwt aaa 46 3 a3 a0 a1 a9.1]) (L2 := []) b4 c0; clear c0
  refine wl ?_
  obtain rfl := oi hr
  refine ahn  rfl  ?_
  exact ⟨(by first | rfl | (simp; done) | (simp; omega)), (by (try simp only [List.length_set]) <;> first | rfl | omega), e0.kp⟩
theorem aeg : ∀ {fu : Nat} {a5 : List (Str × Str × Bool)} {a8 : Int} {a9 : Int} {b2 : Int} (a7 : Option Nat) (a0 : Option Addr) (a6 : Nat) {w : World} {r : List (Str × Str × Bool)} (hr : aan fu a5 a8 a9 b2 = some r) (hG : Gl w) (hM : Hp w (aaj [rwt aaa 46 3 a7 a0 a6 a5]) [rwt aaa 46 3 a7 a0 a6 a5] w) (hS : ∀ b ∈ aaj [rwt aaa 46 3 a7 a0 a6 a5], 9 ≤ b), CR Tryz.prog 242 [(Vs a0 a5.length a6), (Vi .i64 a8), (Vi .i64 a9), (Vi .i64 b2), (Value.func (.func 164) #[] #[])] w fun v w' => v = (Value.tuple #[]) ∧ r.length = a5.length ∧ Hp w (aaj [rwt aaa 46 3 a7 a0 a6 a5]) [rwt aaa 46 3 a7 a0 a6 r] w' := by
  intro fu
  induction fu with
  | zero =>
    intro a5 a8 a9 b2 a7 a0 a6 w r hr hG hM hS
    exact absurd (show none = some _ from hr) (by simp)
  | succ fu ih =>
  intro a5 a8 a9 b2 a7 a0 a6 w r hr hG hM hS
  have hH : Hp w (aaj [rwt aaa 46 3 a7 a0 a6 a5]) [rwt aaa 46 3 a7 a0 a6 a5] w := hM
  refine enter (k := 220) Tryz.func242 rfl rfl (Nat.le_of_ble_eq_true rfl) ?_
  rw [aan.eq_2] at hr
  refine bi hr fun j5 c3 hr => cut1 hH j5 [0, 1, 2, 3, 4] (fun j6 => []) ?_ ?_
  refine sr (wp 2 (gi c3 fun j7 c3 => adp a9 a8 (by kernel_rfl) (by kernel_rfl) j7 (wp 1 (nq (cd c3 (fun j8 c3 => ?_) (fun j8 c3 => ?_))))))
  refine sr (wp 2 (nq (sr (wp 2 (nq ?_)))))
  refine bi c3 fun f1 j9 c3 => agq hH [0, 1, 2, 3, 4, 10] [(10, (Vi .i64 f1))] ?_ ?_
  refine ce (lpS (fun g4 ⟨b8, b9⟩ => aau fu a5 a8 g4 b8 b9) (a9, b2) hH j9 [0, 1, 2, 3, 4, 10, 11] (fun ⟨b8, b9⟩ => [(10, (Vi .i64 b8)), (11, (Vi .i64 b9))]) (fun _ => rfl) ?_)
  rintro g4 ⟨b8, b9⟩ t4 G g5 b6
  dsimp only at b6
  rw [aau.eq_2] at b6
  refine cs (sr (wp 3 (nq (cd b6 (fun k0 b6 => ?_) (fun k0 b6 => ?_)))))
  refine ck (qn (ce (sr (wp 2 (gi b6 fun k1 b6 => aac b8 b9 (by kernel_rfl) (by kernel_rfl) k1 (alj .u64 .i64 (b8 + b9) Tryz.underlying3 Tryz.underlying172 (by kernel_rfl) (w_shr .u64 .u64 (IntKind.wrap .u64 (b8 + b9)) (1 : Int) 2 (by kernel_rfl) (by kernel_rfl) (by decide) (by decide) (by decide) ?_)))))))
  refine alj .i64 .u64 ((IntKind.wrap .u64 (b8 + b9)) / 2) Tryz.underlying172 Tryz.underlying3 (by kernel_rfl) (wp 1 (nq (cs (gi b6 fun k2 b6 => gi b6 fun k3 b6 => gi b6 fun k4 b6 => gi b6 fun k5 b6 => adm 9 (fun j_ w_ w_' => abv [4, 9, 10] (fun w' => Rd w' a0 (List.flatMap aaa a5)) j_ w_ w_' ∧ abv [9, 10] (fun w' => Rd w' a0 (List.flatMap aaa a5)) j_ w_ w_' ∧ abv [8, 9, 10] (fun w' => Rd w' a0 (List.flatMap aaa a5)) j_ w_ w_' ∧ True) [false, false, false, false, false, false, false, false, false, false, false] (fun _ _ => ⟨abv.same, abv.same, abv.same, trivial⟩) (by kernel_rfl) (by kernel_rfl) g5 rfl (adb (aah (aal (aah (aal (aal acf)))))) fun t5 d3 => ?_))))
  refine rp 6 [0, 1, 2] (aag [true, true, true, true, false, false, false, false, false, false, false] 3 43 (Vp (some (ea a0 ((IntKind.wrap .i64 ((IntKind.wrap .u64 (b8 + b9)) / 2)).toNat * 3)))) [4, 9, 10] (fun _ _ _ h => h.1) _ rfl rfl (by kernel_rfl) (by kernel_rfl) (by kernel_rfl) (by kernel_rfl) (by kernel_rfl) rfl (aai rfl (by intro w hS_; exact (amu a0 a5.length a6 46 3 .i64 (IntKind.wrap .i64 ((IntKind.wrap .u64 (b8 + b9)) / 2)) Tryz.underlying22 (by kernel_rfl) (by kernel_rfl) (by kernel_rfl) a5 rfl k2 hS_ aab (by decide)))) (by exact (d3.rdrw 0 rfl)) (aag [true, true, true, true, true, false, false, false, false, false, false] 4 44 (Value.agg #[(str ((el a5 (IntKind.wrap .i64 ((IntKind.wrap .u64 (b8 + b9)) / 2))).1)), (str ((el a5 (IntKind.wrap .i64 ((IntKind.wrap .u64 (b8 + b9)) / 2))).2.1)), (Vb ((el a5 (IntKind.wrap .i64 ((IntKind.wrap .u64 (b8 + b9)) / 2))).2.2))]) [9, 10] (fun _ _ _ h => h.2.1) _ rfl rfl (by kernel_rfl) (by kernel_rfl) (by kernel_rfl) (by kernel_rfl) (by kernel_rfl) rfl (aai rfl (by intro w hS_; exact (x_ldE a0 aaa a5 3 (IntKind.wrap .i64 ((IntKind.wrap .u64 (b8 + b9)) / 2)) aab hS_ [(str ((el a5 (IntKind.wrap .i64 ((IntKind.wrap .u64 (b8 + b9)) / 2))).1)), (str ((el a5 (IntKind.wrap .i64 ((IntKind.wrap .u64 (b8 + b9)) / 2))).2.1)), (Vb ((el a5 (IntKind.wrap .i64 ((IntKind.wrap .u64 (b8 + b9)) / 2))).2.2))] k3 (by kernel_rfl) (by kernel_rfl) (by kernel_rfl) (by kernel_rfl) (by decide)))) (by exact (d3.rdrw 0 rfl)) (rp 2 [5, 6] (aag [true, true, true, true, true, true, true, true, false, false, false] 7 47 (Vp (some (ea a0 (a8.toNat * 3)))) [8, 9, 10] (fun _ _ _ h => h.2.2.1) _ rfl rfl (by kernel_rfl) (by kernel_rfl) (by kernel_rfl) (by kernel_rfl) (by kernel_rfl) rfl (aai rfl (by intro w hS_; exact (amu a0 a5.length a6 46 3 .i64 a8 Tryz.underlying22 (by kernel_rfl) (by kernel_rfl) (by kernel_rfl) a5 rfl k4 hS_ aab (by decide)))) (by exact (d3.rdrw 0 rfl)) (aag [true, true, true, true, true, true, true, true, true, false, false] 8 48 (Value.agg #[(str ((el a5 a8).1)), (str ((el a5 a8).2.1)), (Vb ((el a5 a8).2.2))]) [9, 10] (fun _ _ _ h => h.2.1) _ rfl rfl (by kernel_rfl) (by kernel_rfl) (by kernel_rfl) (by kernel_rfl) (by kernel_rfl) rfl (aai rfl (by intro w hS_; exact (x_ldE a0 aaa a5 3 a8 aab hS_ [(str ((el a5 a8).1)), (str ((el a5 a8).2.1)), (Vb ((el a5 a8).2.2))] k5 (by kernel_rfl) (by kernel_rfl) (by kernel_rfl) (by kernel_rfl) (by decide)))) (by exact (d3.rdrw 0 rfl)) (acw (by kernel_rfl) (bi b6 fun t6 k6 b6 => wc ent164 d3 (ahl k6 (hG.hp d3 hS)) fun t7 g6 => wp 1 ?_)))))))
  refine nq (cd b6 (fun k7 b6 => ?_) (fun k7 b6 => ?_))
  exact cr (wp 1 (gi b6 fun k8 b6 => aac (IntKind.wrap .i64 ((IntKind.wrap .u64 (b8 + b9)) / 2)) (1 : Int) (by kernel_rfl) (by kernel_rfl) k8 (wp 1 (wl (bn (ql (le' ((IntKind.wrap .i64 ((IntKind.wrap .u64 (b8 + b9)) / 2)) + (1 : Int), b9) g6.kp b6)))))))
  exact cr (wp 2 (wl (bn (ql (le' (b8, IntKind.wrap .i64 ((IntKind.wrap .u64 (b8 + b9)) / 2)) g6.kp b6)))))
  refine ach (acg (acq (aci (ql ?_))))
  obtain rfl := oi b6
  exact je g5.kp
  intro t8 G k9
  refine bi c3 fun g7 l0 c3 => cut (σ := (List (Str × Str × Bool))) [0, 1, 2, 3, 4] (fun d4 => [(0, (Vs a0 d4.length a6))]) (fun d4 w' => Hp w (aaj [rwt aaa 46 3 a7 a0 a6 a5]) [rwt aaa 46 3 a7 a0 a6 d4] w' ∧ d4.length = a5.length ∧ d4 = g7) ?_ ?_
  refine sr (wp 2 (nq (ce (lpG (σ := Nat × (List (Str × Str × Bool)) × Int) [0, 1, 2, 3, 4, 10, 13] (fun ⟨d0, a3, a1⟩ => [(0, (Vs a0 a3.length a6)), (13, (Vi .i64 a1))]) (fun ⟨d0, a3, a1⟩ w' => Hp w (aaj [rwt aaa 46 3 a7 a0 a6 a5]) [rwt aaa 46 3 a7 a0 a6 a3] w' ∧ a3.length = a5.length ∧ abp fu f1 d0 a3 a1 = some g7) (fun ⟨d0, a3, a1⟩ => d0) (fu, a5, a8) (by exact ⟨k9.kp, (by (try simp only [List.length_set]) <;> first | rfl | omega), l0⟩) ?_))))
  rintro ⟨_ | d0, a3, a1⟩ t9 G ⟨e1, u0, b0⟩
  · exact absurd (show none = some _ from b0) (by simp)
  rw [abp.eq_2] at b0
  refine cs (sr (wp 2 (gi b0 fun l1 b0 => adp f1 (1 : Int) (by kernel_rfl) (by kernel_rfl) l1 (wp 1 (nq (cd b0 (fun l2 b0 => ?_) (fun l2 b0 => ?_)))))))
  refine ck (qn (cs (ce (gi b0 fun l3 b0 => gi b0 fun l4 b0 => gi b0 fun g8 b0 => ?_))))
  have l5 := aet (e1.rdrw 0 rfl) aab (by decide) g8
  refine gi b0 fun g9 b0 => gi b0 fun h0 b0 => ?_
  have l6 := aet (e1.rdrw 0 rfl) aab (by decide) h0
  refine gi b0 fun h1 b0 => gi b0 fun f2 b0 => ?_
  have h2 := aet (e1.rdrw 0 rfl) aab (by decide) f2
  refine gi b0 fun h3 b0 => cdr 16 e1 (aah (adb (aal (aah (aal (aal acf)))))) fun u1 d5 => rp 12 [0, 1, 2, 3] (rt 4 (Vi .i64 (a1 + (1 : Int))) rfl rfl (aai rfl (by intro w hS_; exact (aiv a1 (1 : Int) (by kernel_rfl) (by kernel_rfl) l3))) (rp 9 [5, 6] (rt 7 (Vi .i64 (a1 + (1 : Int))) rfl rfl (aai rfl (by intro w hS_; exact (aiv a1 (1 : Int) (by kernel_rfl) (by kernel_rfl) l4))) (rt 8 (Vp (some (ea a0 ((a1 + (1 : Int)).toNat * 3)))) rfl rfl (aai rfl (by intro w hS_; exact (ajn a0 a3.length a6 46 3 .i64 (a1 + (1 : Int)) Tryz.underlying22 (by kernel_rfl) (by kernel_rfl) (by kernel_rfl) (ael (l := a3) rfl g8) l5))) (rp 5 [10, 11] (rt 12 (Vp (some (ea a0 (a1.toNat * 3)))) rfl rfl (aai rfl (by intro w hS_; exact (ajn a0 a3.length a6 46 3 .i64 a1 Tryz.underlying22 (by kernel_rfl) (by kernel_rfl) (by kernel_rfl) (ael (l := a3) rfl h0) l6))) (r_one2 [true, true, true, true, true, true, true, true, true, true, true, true, true, false, false, false, false, false] [true, true, true, true, true, true, true, true, true, false, true, true, true, true, false, false, false, false] 9 13 _ _ rfl rfl (by kernel_rfl) (by kernel_rfl) (by kernel_rfl) rfl rfl ?_ ?_)))))))
  refine ahm a0 aaa a3 3 (a1 + (1 : Int)) aab (d5.rdrw 0 rfl) [(str ((el a3 (a1 + (1 : Int))).1)), (str ((el a3 (a1 + (1 : Int))).2.1)), (Vb ((el a3 (a1 + (1 : Int))).2.2))] g9 (by kernel_rfl) (by kernel_rfl) (by kernel_rfl) (by kernel_rfl) (by decide) (wl (abk (by exact trivial) (ro 13 rfl (ahm a0 aaa a3 3 a1 aab (d5.rdrw 0 rfl) [(str ((el a3 a1).1)), (str ((el a3 a1).2.1)), (Vb ((el a3 a1).2.2))] h1 (by kernel_rfl) (by kernel_rfl) (by kernel_rfl) (by kernel_rfl) (by decide) (wl (abk (by exact trivial) (rt 14 (Vp (some (ea a0 (a1.toNat * 3)))) rfl rfl (aai rfl (by intro w hS_; exact (ajn a0 a3.length a6 46 3 .i64 a1 Tryz.underlying22 (by kernel_rfl) (by kernel_rfl) (by kernel_rfl) (ael (l := a3) rfl f2) h2))) (ro 15 rfl (ajr d5 0 a7 a0 a6 46 3 a1 a3 ((el a3 (a1 + (1 : Int))).1, (el a3 (a1 + (1 : Int))).2.1, ((el a3 (a1 + (1 : Int))).2.2)) rfl aab [(str ((el a3 (a1 + (1 : Int))).1)), (str ((el a3 (a1 + (1 : Int))).2.1)), (Vb ((el a3 (a1 + (1 : Int))).2.2))] h3 (by kernel_rfl) (by kernel_rfl) (by kernel_rfl) (by decide) (by kernel_rfl) fun f3 c5 => ?_)))))))))
  replace c5 : Hp w (aaj [rwt aaa 46 3 a7 a0 a6 a5]) [rwt aaa 46 3 a7 a0 a6 (List.set a3 (Int.toNat a1) ((el a3 (a1 + (1 : Int))).1, (el a3 (a1 + (1 : Int))).2.1, ((el a3 (a1 + (1 : Int))).2.2)))] f3 := c5
  refine wl (abk (by exact trivial) (acw (by kernel_rfl) (gi b0 fun l7 b0 => aht a0 a3.length a6 46 3 .i64 (a1 + (1 : Int)) Tryz.underlying22 (by kernel_rfl) (by kernel_rfl) (by kernel_rfl) (List.set a3 (Int.toNat a1) ((el a3 (a1 + (1 : Int))).1, (el a3 (a1 + (1 : Int))).2.1, ((el a3 (a1 + (1 : Int))).2.2))) (by first | rfl | (simp; done) | omega | (simp; omega) | (rw [List.length_take]; omega)) l7 (c5.rdrw 0 rfl) aab (by decide) (gi b0 fun l8 b0 => ajr c5 0 a7 a0 a6 46 3 (a1 + (1 : Int)) (List.set a3 (Int.toNat a1) ((el a3 (a1 + (1 : Int))).1, (el a3 (a1 + (1 : Int))).2.1, ((el a3 (a1 + (1 : Int))).2.2))) ((el a3 a1).1, (el a3 a1).2.1, ((el a3 a1).2.2)) rfl aab [(str ((el a3 a1).1)), (str ((el a3 a1).2.1)), (Vb ((el a3 a1).2.2))] l8 (by kernel_rfl) (by kernel_rfl) (by kernel_rfl) (by decide) (by kernel_rfl) fun l9 f4 => ?_))))
  replace f4 : Hp w (aaj [rwt aaa 46 3 a7 a0 a6 a5]) [rwt aaa 46 3 a7 a0 a6 (List.set (List.set a3 (Int.toNat a1) ((el a3 (a1 + (1 : Int))).1, (el a3 (a1 + (1 : Int))).2.1, ((el a3 (a1 + (1 : Int))).2.2))) (Int.toNat (a1 + (1 : Int))) ((el a3 a1).1, (el a3 a1).2.1, ((el a3 a1).2.2)))] l9 := f4
  refine wl (bn (qn (cr (wp 1 (gi b0 fun m0 b0 => aac a1 (1 : Int) (by kernel_rfl) (by kernel_rfl) m0 (wp 1 (wl (ql ?_))))))))
  exact ⟨(d0, List.set (List.set a3 (Int.toNat a1) ((el a3 (a1 + (1 : Int))).1, (el a3 (a1 + (1 : Int))).2.1, ((el a3 (a1 + (1 : Int))).2.2))) (Int.toNat (a1 + (1 : Int))) ((el a3 a1).1, (el a3 a1).2.1, ((el a3 a1).2.2)), a1 + (1 : Int)), _, rfl, (mc (Eq.trans (b := (Vs a0 a3.length a6)) (by kernel_rfl) (aae (by (try simp only [List.length_set]) <;> first | rfl | omega | simp))) (mc (by kernel_rfl) (mc (by kernel_rfl) (mc (by kernel_rfl) (mc (by kernel_rfl) (mc (by kernel_rfl) (mc (by kernel_rfl) rfl))))))), ⟨f4.kp, (by (try simp only [List.length_set]) <;> first | rfl | omega), b0⟩, Nat.lt_succ_self _⟩
  refine ahm a0 aaa a3 3 a1 aab (d5.rdrw 0 rfl) [(str ((el a3 a1).1)), (str ((el a3 a1).2.1)), (Vb ((el a3 a1).2.2))] h1 (by kernel_rfl) (by kernel_rfl) (by kernel_rfl) (by kernel_rfl) (by decide) (wl (abk (by exact trivial) (ro 9 rfl (ahm a0 aaa a3 3 (a1 + (1 : Int)) aab (d5.rdrw 0 rfl) [(str ((el a3 (a1 + (1 : Int))).1)), (str ((el a3 (a1 + (1 : Int))).2.1)), (Vb ((el a3 (a1 + (1 : Int))).2.2))] g9 (by kernel_rfl) (by kernel_rfl) (by kernel_rfl) (by kernel_rfl) (by decide) (wl (abk (by exact trivial) (rt 14 (Vp (some (ea a0 (a1.toNat * 3)))) rfl rfl (aai rfl (by intro w hS_; exact (ajn a0 a3.length a6 46 3 .i64 a1 Tryz.underlying22 (by kernel_rfl) (by kernel_rfl) (by kernel_rfl) (ael (l := a3) rfl f2) h2))) (ro 15 rfl (ajr d5 0 a7 a0 a6 46 3 a1 a3 ((el a3 (a1 + (1 : Int))).1, (el a3 (a1 + (1 : Int))).2.1, ((el a3 (a1 + (1 : Int))).2.2)) rfl aab [(str ((el a3 (a1 + (1 : Int))).1)), (str ((el a3 (a1 + (1 : Int))).2.1)), (Vb ((el a3 (a1 + (1 : Int))).2.2))] h3 (by kernel_rfl) (by kernel_rfl) (by kernel_rfl) (by decide) (by kernel_rfl) fun f3 c5 => ?_)))))))))
  replace c5 : Hp w (aaj [rwt aaa 46 3 a7 a0 a6 a5]) [rwt aaa 46 3 a7 a0 a6 (List.set a3 (Int.toNat a1) ((el a3 (a1 + (1 : Int))).1, (el a3 (a1 + (1 : Int))).2.1, ((el a3 (a1 + (1 : Int))).2.2)))] f3 := c5
  refine wl (abk (by exact trivial) (acw (by kernel_rfl) (gi b0 fun m1 b0 => aht a0 a3.length a6 46 3 .i64 (a1 + (1 : Int)) Tryz.underlying22 (by kernel_rfl) (by kernel_rfl) (by kernel_rfl) (List.set a3 (Int.toNat a1) ((el a3 (a1 + (1 : Int))).1, (el a3 (a1 + (1 : Int))).2.1, ((el a3 (a1 + (1 : Int))).2.2))) (by first | rfl | (simp; done) | omega | (simp; omega) | (rw [List.length_take]; omega)) m1 (c5.rdrw 0 rfl) aab (by decide) (gi b0 fun m2 b0 => ajr c5 0 a7 a0 a6 46 3 (a1 + (1 : Int)) (List.set a3 (Int.toNat a1) ((el a3 (a1 + (1 : Int))).1, (el a3 (a1 + (1 : Int))).2.1, ((el a3 (a1 + (1 : Int))).2.2))) ((el a3 a1).1, (el a3 a1).2.1, ((el a3 a1).2.2)) rfl aab [(str ((el a3 a1).1)), (str ((el a3 a1).2.1)), (Vb ((el a3 a1).2.2))] m2 (by kernel_rfl) (by kernel_rfl) (by kernel_rfl) (by decide) (by kernel_rfl) fun m3 f5 => ?_))))
  replace f5 : Hp w (aaj [rwt aaa 46 3 a7 a0 a6 a5]) [rwt aaa 46 3 a7 a0 a6 (List.set (List.set a3 (Int.toNat a1) ((el a3 (a1 + (1 : Int))).1, (el a3 (a1 + (1 : Int))).2.1, ((el a3 (a1 + (1 : Int))).2.2))) (Int.toNat (a1 + (1 : Int))) ((el a3 a1).1, (el a3 a1).2.1, ((el a3 a1).2.2)))] m3 := f5
  refine wl (bn (qn (cr (wp 1 (gi b0 fun m4 b0 => aac a1 (1 : Int) (by kernel_rfl) (by kernel_rfl) m4 (wp 1 (wl (ql ?_))))))))
  exact ⟨(d0, List.set (List.set a3 (Int.toNat a1) ((el a3 (a1 + (1 : Int))).1, (el a3 (a1 + (1 : Int))).2.1, ((el a3 (a1 + (1 : Int))).2.2))) (Int.toNat (a1 + (1 : Int))) ((el a3 a1).1, (el a3 a1).2.1, ((el a3 a1).2.2)), a1 + (1 : Int)), _, rfl, (mc (Eq.trans (b := (Vs a0 a3.length a6)) (by kernel_rfl) (aae (by (try simp only [List.length_set]) <;> first | rfl | omega | simp))) (mc (by kernel_rfl) (mc (by kernel_rfl) (mc (by kernel_rfl) (mc (by kernel_rfl) (mc (by kernel_rfl) (mc (by kernel_rfl) rfl))))))), ⟨f5.kp, (by (try simp only [List.length_set]) <;> first | rfl | omega), b0⟩, Nat.lt_succ_self _⟩
  refine ach (acg (acq (aci (ql ?_))))
  obtain rfl := oi b0
  exact ⟨a3, _, rfl, by kernel_rfl, e1.kp, (by (try simp only [List.length_set]) <;> first | rfl | omega), rfl⟩
  rintro d4 u2 G ⟨m5, u3, rfl⟩
  refine ct (acp ?_)
  obtain rfl := oi c3
  obtain rfl := oi hr
  refine r_none  rfl  ?_
  exact ⟨(by first | rfl | (simp; done) | (simp; omega)), (by (try simp only [List.length_set]) <;> first | rfl | omega), m5.kp⟩
  refine ck (ql ?_)
  obtain rfl := oi c3
  exact je1 rfl hH.kp
  rintro j6 u4 G e9 rfl
  refine bi hr fun m6 c4 hr => cut1 e9 m6 [0, 1, 2, 3, 4] (fun m7 => []) ?_ ?_
  refine sr (wp 2 (gi c4 fun m8 c4 => adp b2 a9 (by kernel_rfl) (by kernel_rfl) m8 (wp 1 (nq (cd c4 (fun m9 c4 => ?_) (fun m9 c4 => ?_))))))
  refine sr (wp 2 (nq (sr (wp 2 (nq ?_)))))
  refine bi c4 fun h4 n0 c4 => agq e9 [0, 1, 2, 3, 4, 14] [(14, (Vi .i64 h4))] ?_ ?_
  refine ce (lpS (fun h5 ⟨c0, c1⟩ => aat fu a5 a9 h5 c0 c1) (a8, a9) e9 n0 [0, 1, 2, 3, 4, 14, 15] (fun ⟨c0, c1⟩ => [(14, (Vi .i64 c0)), (15, (Vi .i64 c1))]) (fun _ => rfl) ?_)
  rintro h5 ⟨c0, c1⟩ u5 G h6 b7
  dsimp only at b7
  rw [aat.eq_2] at b7
  refine cs (sr (wp 3 (nq (cd b7 (fun n1 b7 => ?_) (fun n1 b7 => ?_)))))
  refine ck (qn (ce (sr (wp 2 (gi b7 fun n2 b7 => aac c0 c1 (by kernel_rfl) (by kernel_rfl) n2 (alj .u64 .i64 (c0 + c1) Tryz.underlying3 Tryz.underlying172 (by kernel_rfl) (w_shr .u64 .u64 (IntKind.wrap .u64 (c0 + c1)) (1 : Int) 2 (by kernel_rfl) (by kernel_rfl) (by decide) (by decide) (by decide) ?_)))))))
  refine alj .i64 .u64 ((IntKind.wrap .u64 (c0 + c1)) / 2) Tryz.underlying172 Tryz.underlying3 (by kernel_rfl) (wp 1 (nq (cs (gi b7 fun n3 b7 => gi b7 fun n4 b7 => gi b7 fun n5 b7 => gi b7 fun n6 b7 => adm 9 (fun j_ w_ w_' => abv [4, 9, 10, 11] (fun w' => Rd w' a0 (List.flatMap aaa a5)) j_ w_ w_' ∧ abv [9, 10, 11] (fun w' => Rd w' a0 (List.flatMap aaa a5)) j_ w_ w_' ∧ abv [8, 9, 10, 11] (fun w' => Rd w' a0 (List.flatMap aaa a5)) j_ w_ w_' ∧ True) [false, false, false, false, false, false, false, false, false, false, false, false] (fun _ _ => ⟨abv.same, abv.same, abv.same, trivial⟩) (by kernel_rfl) (by kernel_rfl) h6 rfl (adb (aah (aal (aah (aal (aal acf)))))) fun u6 d6 => ?_))))
  refine rp 6 [0, 1, 2] (aag [true, true, true, true, false, false, false, false, false, false, false, false] 3 95 (Vp (some (ea a0 (a9.toNat * 3)))) [4, 9, 10, 11] (fun _ _ _ h => h.1) _ rfl rfl (by kernel_rfl) (by kernel_rfl) (by kernel_rfl) (by kernel_rfl) (by kernel_rfl) rfl (aai rfl (by intro w hS_; exact (amu a0 a5.length a6 46 3 .i64 a9 Tryz.underlying22 (by kernel_rfl) (by kernel_rfl) (by kernel_rfl) a5 rfl n3 hS_ aab (by decide)))) (by exact (d6.rdrw 0 rfl)) (aag [true, true, true, true, true, false, false, false, false, false, false, false] 4 96 (Value.agg #[(str ((el a5 a9).1)), (str ((el a5 a9).2.1)), (Vb ((el a5 a9).2.2))]) [9, 10, 11] (fun _ _ _ h => h.2.1) _ rfl rfl (by kernel_rfl) (by kernel_rfl) (by kernel_rfl) (by kernel_rfl) (by kernel_rfl) rfl (aai rfl (by intro w hS_; exact (x_ldE a0 aaa a5 3 a9 aab hS_ [(str ((el a5 a9).1)), (str ((el a5 a9).2.1)), (Vb ((el a5 a9).2.2))] n4 (by kernel_rfl) (by kernel_rfl) (by kernel_rfl) (by kernel_rfl) (by decide)))) (by exact (d6.rdrw 0 rfl)) (rp 2 [5, 6] (aag [true, true, true, true, true, true, true, true, false, false, false, false] 7 99 (Vp (some (ea a0 ((IntKind.wrap .i64 ((IntKind.wrap .u64 (c0 + c1)) / 2)).toNat * 3)))) [8, 9, 10, 11] (fun _ _ _ h => h.2.2.1) _ rfl rfl (by kernel_rfl) (by kernel_rfl) (by kernel_rfl) (by kernel_rfl) (by kernel_rfl) rfl (aai rfl (by intro w hS_; exact (amu a0 a5.length a6 46 3 .i64 (IntKind.wrap .i64 ((IntKind.wrap .u64 (c0 + c1)) / 2)) Tryz.underlying22 (by kernel_rfl) (by kernel_rfl) (by kernel_rfl) a5 rfl n5 hS_ aab (by decide)))) (by exact (d6.rdrw 0 rfl)) (aag [true, true, true, true, true, true, true, true, true, false, false, false] 8 100 (Value.agg #[(str ((el a5 (IntKind.wrap .i64 ((IntKind.wrap .u64 (c0 + c1)) / 2))).1)), (str ((el a5 (IntKind.wrap .i64 ((IntKind.wrap .u64 (c0 + c1)) / 2))).2.1)), (Vb ((el a5 (IntKind.wrap .i64 ((IntKind.wrap .u64 (c0 + c1)) / 2))).2.2))]) [9, 10, 11] (fun _ _ _ h => h.2.1) _ rfl rfl (by kernel_rfl) (by kernel_rfl) (by kernel_rfl) (by kernel_rfl) (by kernel_rfl) rfl (aai rfl (by intro w hS_; exact (x_ldE a0 aaa a5 3 (IntKind.wrap .i64 ((IntKind.wrap .u64 (c0 + c1)) / 2)) aab hS_ [(str ((el a5 (IntKind.wrap .i64 ((IntKind.wrap .u64 (c0 + c1)) / 2))).1)), (str ((el a5 (IntKind.wrap .i64 ((IntKind.wrap .u64 (c0 + c1)) / 2))).2.1)), (Vb ((el a5 (IntKind.wrap .i64 ((IntKind.wrap .u64 (c0 + c1)) / 2))).2.2))] n6 (by kernel_rfl) (by kernel_rfl) (by kernel_rfl) (by kernel_rfl) (by decide)))) (by exact (d6.rdrw 0 rfl)) (acw (by kernel_rfl) (bi b7 fun u7 n7 b7 => wc ent164 d6 (ahl n7 (hG.hp d6 hS)) fun u9 h7 => wp 2 ?_)))))))
  refine nq (cn b7 (fun n8 b7 => ?_) (fun n8 b7 => ?_))
  exact cr (wp 1 (gi b7 fun n9 b7 => aac (IntKind.wrap .i64 ((IntKind.wrap .u64 (c0 + c1)) / 2)) (1 : Int) (by kernel_rfl) (by kernel_rfl) n9 (wp 1 (wl (bn (ql (le' ((IntKind.wrap .i64 ((IntKind.wrap .u64 (c0 + c1)) / 2)) + (1 : Int), c1) h7.kp b7)))))))
  exact cr (wp 2 (wl (bn (ql (le' (c0, IntKind.wrap .i64 ((IntKind.wrap .u64 (c0 + c1)) / 2)) h7.kp b7)))))
  refine ach (acg (acq (aci (ql ?_))))
  obtain rfl := oi b7
  exact je h6.kp
  intro v0 G o0
  refine bi c4 fun h8 o1 c4 => cut (σ := (List (Str × Str × Bool))) [0, 1, 2, 3, 4] (fun d7 => [(0, (Vs a0 d7.length a6))]) (fun d7 w' => Hp w (aaj [rwt aaa 46 3 a7 a0 a6 a5]) [rwt aaa 46 3 a7 a0 a6 d7] w' ∧ d7.length = a5.length ∧ d7 = h8) ?_ ?_
  refine sr (wp 2 (nq (ce (lpG (σ := Nat × (List (Str × Str × Bool)) × Int) [0, 1, 2, 3, 4, 14, 17] (fun ⟨d1, a4, a2⟩ => [(0, (Vs a0 a4.length a6)), (17, (Vi .i64 a2))]) (fun ⟨d1, a4, a2⟩ w' => Hp w (aaj [rwt aaa 46 3 a7 a0 a6 a5]) [rwt aaa 46 3 a7 a0 a6 a4] w' ∧ a4.length = a5.length ∧ abo fu h4 d1 a4 a2 = some h8) (fun ⟨d1, a4, a2⟩ => d1) (fu, a5, a9) (by exact ⟨o0.kp, (by (try simp only [List.length_set]) <;> first | rfl | omega), o1⟩) ?_))))
  rintro ⟨_ | d1, a4, a2⟩ v1 G ⟨e2, v2, b1⟩
  · exact absurd (show none = some _ from b1) (by simp)
  rw [abo.eq_2] at b1
  refine cs (sr (wp 3 (nq (cd b1 (fun o2 b1 => ?_) (fun o2 b1 => ?_)))))
  refine ck (qn (cs (ce (gi b1 fun o3 b1 => gi b1 fun o4 b1 => gi b1 fun h9 b1 => ?_))))
  have o5 := aet (e2.rdrw 0 rfl) aab (by decide) h9
  refine gi b1 fun i0 b1 => gi b1 fun i1 b1 => ?_
  have o6 := aet (e2.rdrw 0 rfl) aab (by decide) i1
  refine gi b1 fun i2 b1 => gi b1 fun f6 b1 => ?_
  have i3 := aet (e2.rdrw 0 rfl) aab (by decide) f6
  refine gi b1 fun i4 b1 => cdr 16 e2 (aah (adb (aal (aah (aal (aal acf)))))) fun v3 d8 => rp 12 [0, 1, 2, 3] (rt 4 (Vi .i64 (a2 - (1 : Int))) rfl rfl (aai rfl (by intro w hS_; exact (akf a2 (1 : Int) (by kernel_rfl) (by kernel_rfl) o3))) (rp 9 [5, 6] (rt 7 (Vi .i64 (a2 - (1 : Int))) rfl rfl (aai rfl (by intro w hS_; exact (akf a2 (1 : Int) (by kernel_rfl) (by kernel_rfl) o4))) (rt 8 (Vp (some (ea a0 ((a2 - (1 : Int)).toNat * 3)))) rfl rfl (aai rfl (by intro w hS_; exact (ajn a0 a4.length a6 46 3 .i64 (a2 - (1 : Int)) Tryz.underlying22 (by kernel_rfl) (by kernel_rfl) (by kernel_rfl) (ael (l := a4) rfl h9) o5))) (rp 5 [10, 11] (rt 12 (Vp (some (ea a0 (a2.toNat * 3)))) rfl rfl (aai rfl (by intro w hS_; exact (ajn a0 a4.length a6 46 3 .i64 a2 Tryz.underlying22 (by kernel_rfl) (by kernel_rfl) (by kernel_rfl) (ael (l := a4) rfl i1) o6))) (r_one2 [true, true, true, true, true, true, true, true, true, true, true, true, true, false, false, false, false, false] [true, true, true, true, true, true, true, true, true, false, true, true, true, true, false, false, false, false] 9 13 _ _ rfl rfl (by kernel_rfl) (by kernel_rfl) (by kernel_rfl) rfl rfl ?_ ?_)))))))
  refine ahm a0 aaa a4 3 (a2 - (1 : Int)) aab (d8.rdrw 0 rfl) [(str ((el a4 (a2 - (1 : Int))).1)), (str ((el a4 (a2 - (1 : Int))).2.1)), (Vb ((el a4 (a2 - (1 : Int))).2.2))] i0 (by kernel_rfl) (by kernel_rfl) (by kernel_rfl) (by kernel_rfl) (by decide) (wl (abk (by exact trivial) (ro 13 rfl (ahm a0 aaa a4 3 a2 aab (d8.rdrw 0 rfl) [(str ((el a4 a2).1)), (str ((el a4 a2).2.1)), (Vb ((el a4 a2).2.2))] i2 (by kernel_rfl) (by kernel_rfl) (by kernel_rfl) (by kernel_rfl) (by decide) (wl (abk (by exact trivial) (rt 14 (Vp (some (ea a0 (a2.toNat * 3)))) rfl rfl (aai rfl (by intro w hS_; exact (ajn a0 a4.length a6 46 3 .i64 a2 Tryz.underlying22 (by kernel_rfl) (by kernel_rfl) (by kernel_rfl) (ael (l := a4) rfl f6) i3))) (ro 15 rfl (ajr d8 0 a7 a0 a6 46 3 a2 a4 ((el a4 (a2 - (1 : Int))).1, (el a4 (a2 - (1 : Int))).2.1, ((el a4 (a2 - (1 : Int))).2.2)) rfl aab [(str ((el a4 (a2 - (1 : Int))).1)), (str ((el a4 (a2 - (1 : Int))).2.1)), (Vb ((el a4 (a2 - (1 : Int))).2.2))] i4 (by kernel_rfl) (by kernel_rfl) (by kernel_rfl) (by decide) (by kernel_rfl) fun f7 c6 => ?_)))))))))
  replace c6 : Hp w (aaj [rwt aaa 46 3 a7 a0 a6 a5]) [rwt aaa 46 3 a7 a0 a6 (List.set a4 (Int.toNat a2) ((el a4 (a2 - (1 : Int))).1, (el a4 (a2 - (1 : Int))).2.1, ((el a4 (a2 - (1 : Int))).2.2)))] f7 := c6
  refine wl (abk (by exact trivial) (acw (by kernel_rfl) (gi b1 fun o7 b1 => aht a0 a4.length a6 46 3 .i64 (a2 - (1 : Int)) Tryz.underlying22 (by kernel_rfl) (by kernel_rfl) (by kernel_rfl) (List.set a4 (Int.toNat a2) ((el a4 (a2 - (1 : Int))).1, (el a4 (a2 - (1 : Int))).2.1, ((el a4 (a2 - (1 : Int))).2.2))) (by first | rfl | (simp; done) | omega | (simp; omega) | (rw [List.length_take]; omega)) o7 (c6.rdrw 0 rfl) aab (by decide) (gi b1 fun o8 b1 => ajr c6 0 a7 a0 a6 46 3 (a2 - (1 : Int)) (List.set a4 (Int.toNat a2) ((el a4 (a2 - (1 : Int))).1, (el a4 (a2 - (1 : Int))).2.1, ((el a4 (a2 - (1 : Int))).2.2))) ((el a4 a2).1, (el a4 a2).2.1, ((el a4 a2).2.2)) rfl aab [(str ((el a4 a2).1)), (str ((el a4 a2).2.1)), (Vb ((el a4 a2).2.2))] o8 (by kernel_rfl) (by kernel_rfl) (by kernel_rfl) (by decide) (by kernel_rfl) fun o9 f8 => ?_))))
  replace f8 : Hp w (aaj [rwt aaa 46 3 a7 a0 a6 a5]) [rwt aaa 46 3 a7 a0 a6 (List.set (List.set a4 (Int.toNat a2) ((el a4 (a2 - (1 : Int))).1, (el a4 (a2 - (1 : Int))).2.1, ((el a4 (a2 - (1 : Int))).2.2))) (Int.toNat (a2 - (1 : Int))) ((el a4 a2).1, (el a4 a2).2.1, ((el a4 a2).2.2)))] o9 := f8
  refine wl (bn (qn (cr (wp 1 (gi b1 fun p0 b1 => adp a2 (1 : Int) (by kernel_rfl) (by kernel_rfl) p0 (wp 1 (wl (ql ?_))))))))
  exact ⟨(d1, List.set (List.set a4 (Int.toNat a2) ((el a4 (a2 - (1 : Int))).1, (el a4 (a2 - (1 : Int))).2.1, ((el a4 (a2 - (1 : Int))).2.2))) (Int.toNat (a2 - (1 : Int))) ((el a4 a2).1, (el a4 a2).2.1, ((el a4 a2).2.2)), a2 - (1 : Int)), _, rfl, (mc (Eq.trans (b := (Vs a0 a4.length a6)) (by kernel_rfl) (aae (by (try simp only [List.length_set]) <;> first | rfl | omega | simp))) (mc (by kernel_rfl) (mc (by kernel_rfl) (mc (by kernel_rfl) (mc (by kernel_rfl) (mc (by kernel_rfl) (mc (by kernel_rfl) rfl))))))), ⟨f8.kp, (by (try simp only [List.length_set]) <;> first | rfl | omega), b1⟩, Nat.lt_succ_self _⟩
  refine ahm a0 aaa a4 3 a2 aab (d8.rdrw 0 rfl) [(str ((el a4 a2).1)), (str ((el a4 a2).2.1)), (Vb ((el a4 a2).2.2))] i2 (by kernel_rfl) (by kernel_rfl) (by kernel_rfl) (by kernel_rfl) (by decide) (wl (abk (by exact trivial) (ro 9 rfl (ahm a0 aaa a4 3 (a2 - (1 : Int)) aab (d8.rdrw 0 rfl) [(str ((el a4 (a2 - (1 : Int))).1)), (str ((el a4 (a2 - (1 : Int))).2.1)), (Vb ((el a4 (a2 - (1 : Int))).2.2))] i0 (by kernel_rfl) (by kernel_rfl) (by kernel_rfl) (by kernel_rfl) (by decide) (wl (abk (by exact trivial) (rt 14 (Vp (some (ea a0 (a2.toNat * 3)))) rfl rfl (aai rfl (by intro w hS_; exact (ajn a0 a4.length a6 46 3 .i64 a2 Tryz.underlying22 (by kernel_rfl) (by kernel_rfl) (by kernel_rfl) (ael (l := a4) rfl f6) i3))) (ro 15 rfl (ajr d8 0 a7 a0 a6 46 3 a2 a4 ((el a4 (a2 - (1 : Int))).1, (el a4 (a2 - (1 : Int))).2.1, ((el a4 (a2 - (1 : Int))).2.2)) rfl aab [(str ((el a4 (a2 - (1 : Int))).1)), (str ((el a4 (a2 - (1 : Int))).2.1)), (Vb ((el a4 (a2 - (1 : Int))).2.2))] i4 (by kernel_rfl) (by kernel_rfl) (by kernel_rfl) (by decide) (by kernel_rfl) fun f7 c6 => ?_)))))))))
  replace c6 : Hp w (aaj [rwt aaa 46 3 a7 a0 a6 a5]) [rwt aaa 46 3 a7 a0 a6 (List.set a4 (Int.toNat a2) ((el a4 (a2 - (1 : Int))).1, (el a4 (a2 - (1 : Int))).2.1, ((el a4 (a2 - (1 : Int))).2.2)))] f7 := c6
  refine wl (abk (by exact trivial) (acw (by kernel_rfl) (gi b1 fun p1 b1 => aht a0 a4.length a6 46 3 .i64 (a2 - (1 : Int)) Tryz.underlying22 (by kernel_rfl) (by kernel_rfl) (by kernel_rfl) (List.set a4 (Int.toNat a2) ((el a4 (a2 - (1 : Int))).1, (el a4 (a2 - (1 : Int))).2.1, ((el a4 (a2 - (1 : Int))).2.2))) (by first | rfl | (simp; done) | omega | (simp; omega) | (rw [List.length_take]; omega)) p1 (c6.rdrw 0 rfl) aab (by decide) (gi b1 fun p2 b1 => ajr c6 0 a7 a0 a6 46 3 (a2 - (1 : Int)) (List.set a4 (Int.toNat a2) ((el a4 (a2 - (1 : Int))).1, (el a4 (a2 - (1 : Int))).2.1, ((el a4 (a2 - (1 : Int))).2.2))) ((el a4 a2).1, (el a4 a2).2.1, ((el a4 a2).2.2)) rfl aab [(str ((el a4 a2).1)), (str ((el a4 a2).2.1)), (Vb ((el a4 a2).2.2))] p2 (by kernel_rfl) (by kernel_rfl) (by kernel_rfl) (by decide) (by kernel_rfl) fun p3 f9 => ?_))))
  replace f9 : Hp w (aaj [rwt aaa 46 3 a7 a0 a6 a5]) [rwt aaa 46 3 a7 a0 a6 (List.set (List.set a4 (Int.toNat a2) ((el a4 (a2 - (1 : Int))).1, (el a4 (a2 - (1 : Int))).2.1, ((el a4 (a2 - (1 : Int))).2.2))) (Int.toNat (a2 - (1 : Int))) ((el a4 a2).1, (el a4 a2).2.1, ((el a4 a2).2.2)))] p3 := f9
  refine wl (bn (qn (cr (wp 1 (gi b1 fun p4 b1 => adp a2 (1 : Int) (by kernel_rfl) (by kernel_rfl) p4 (wp 1 (wl (ql ?_))))))))
  exact ⟨(d1, List.set (List.set a4 (Int.toNat a2) ((el a4 (a2 - (1 : Int))).1, (el a4 (a2 - (1 : Int))).2.1, ((el a4 (a2 - (1 : Int))).2.2))) (Int.toNat (a2 - (1 : Int))) ((el a4 a2).1, (el a4 a2).2.1, ((el a4 a2).2.2)), a2 - (1 : Int)), _, rfl, (mc (Eq.trans (b := (Vs a0 a4.length a6)) (by kernel_rfl) (aae (by (try simp only [List.length_set]) <;> first | rfl | omega | simp))) (mc (by kernel_rfl) (mc (by kernel_rfl) (mc (by kernel_rfl) (mc (by kernel_rfl) (mc (by kernel_rfl) (mc (by kernel_rfl) rfl))))))), ⟨f9.kp, (by (try simp only [List.length_set]) <;> first | rfl | omega), b1⟩, Nat.lt_succ_self _⟩
  refine ach (acg (acq (aci (ql ?_))))
  obtain rfl := oi b1
  exact ⟨a4, _, rfl, by kernel_rfl, e2.kp, (by (try simp only [List.length_set]) <;> first | rfl | omega), rfl⟩
  rintro d7 v4 G ⟨p5, v5, rfl⟩
  refine ct (acp ?_)
  obtain rfl := oi c4
  obtain rfl := oi hr
  refine r_none  rfl  ?_
  exact ⟨(by first | rfl | (simp; done) | (simp; omega)), (by (try simp only [List.length_set]) <;> first | rfl | omega), p5.kp⟩
  refine ck (ql ?_)
  obtain rfl := oi c4
  exact je1 rfl e9.kp
  rintro m7 v6 G g0 rfl
  refine sr (wp 2 (gi hr fun p6 hr => aac a8 b2 (by kernel_rfl) (by kernel_rfl) p6 (alj .u64 .i64 (a8 + b2) Tryz.underlying3 Tryz.underlying172 (by kernel_rfl) (w_shr .u64 .u64 (IntKind.wrap .u64 (a8 + b2)) (1 : Int) 2 (by kernel_rfl) (by kernel_rfl) (by decide) (by decide) (by decide) (alj .i64 .u64 ((IntKind.wrap .u64 (a8 + b2)) / 2) Tryz.underlying172 Tryz.underlying3 (by kernel_rfl) (wp 1 (wl ?_)))))))
  refine qn (sr (wp 2 (gi hr fun p7 hr => aac (IntKind.wrap .i64 ((IntKind.wrap .u64 (a8 + b2)) / 2)) a9 (by kernel_rfl) (by kernel_rfl) p7 (wp 1 (nq (cs ?_))))))
  refine cr (wp 2 (nq (bi hr fun f0 d2 hr => agq g0 [0, 1, 2, 3, 4, 18, 19, 20, 21] [(20, (Vi .i64 f0.1)), (21, (Vi .i64 f0.2))] ?_ ?_)))
  refine sr (wp 3 (nq (cd d2 (fun p8 d2 => ?_) (fun p8 d2 => ?_))))
  refine sr (wp 2 (gi d2 fun p9 d2 => adp ((IntKind.wrap .i64 ((IntKind.wrap .u64 (a8 + b2)) / 2)) + a9) b2 (by kernel_rfl) (by kernel_rfl) p9 (wp 1 (nq (cr (wp 2 ?_))))))
  refine wl (ql ?_)
  obtain rfl := oi d2
  exact je g0.kp
  refine sr (wp 2 (nq (cr (wp 2 (wl (ql ?_))))))
  obtain rfl := oi d2
  exact je g0.kp
  intro v7 G i5
  refine sr (wp 1 (gi hr fun q0 hr => adp ((IntKind.wrap .i64 ((IntKind.wrap .u64 (a8 + b2)) / 2)) + a9) (1 : Int) (by kernel_rfl) (by kernel_rfl) q0 (wp 1 (nq (bi hr fun d9 q1 hr => agq i5 [0, 1, 2, 3, 4, 18, 19, 20] [(20, (Vi .i64 d9))] ?_ ?_)))))
  refine ce (lpS (fun i6 ⟨b3, b4⟩ => aas fu a5 a8 a9 b2 i6 b3 b4) (f0.1, f0.2) i5 q1 [0, 1, 2, 3, 4, 18, 19, 20, 21, 22] (fun ⟨b3, b4⟩ => [(20, (Vi .i64 b3)), (21, (Vi .i64 b4))]) (fun _ => rfl) ?_)
  rintro i6 ⟨b3, b4⟩ v8 G i7 b5
  dsimp only at b5
  rw [aas.eq_2] at b5
  refine cs (sr (wp 3 (nq (cd b5 (fun q2 b5 => ?_) (fun q2 b5 => ?_)))))
  refine ck (qn (ce (sr (wp 2 (gi b5 fun q3 b5 => aac b3 b4 (by kernel_rfl) (by kernel_rfl) q3 (alj .u64 .i64 (b3 + b4) Tryz.underlying3 Tryz.underlying172 (by kernel_rfl) (w_shr .u64 .u64 (IntKind.wrap .u64 (b3 + b4)) (1 : Int) 2 (by kernel_rfl) (by kernel_rfl) (by decide) (by decide) (by decide) ?_)))))))
  refine alj .i64 .u64 ((IntKind.wrap .u64 (b3 + b4)) / 2) Tryz.underlying172 Tryz.underlying3 (by kernel_rfl) (wp 1 (nq (cs (gi b5 fun q4 b5 => gi b5 fun q5 b5 => gi b5 fun q6 b5 => gi b5 fun q7 b5 => gi b5 fun q8 b5 => ?_))))
  refine adm 11 (fun j_ w_ w_' => abv [6, 11, 12, 13] (fun w' => Rd w' a0 (List.flatMap aaa a5)) j_ w_ w_' ∧ abv [11, 12, 13] (fun w' => Rd w' a0 (List.flatMap aaa a5)) j_ w_ w_' ∧ abv [10, 11, 12, 13] (fun w' => Rd w' a0 (List.flatMap aaa a5)) j_ w_ w_' ∧ True) [false, false, false, false, false, false, false, false, false, false, false, false, false, false] (fun _ _ => ⟨abv.same, abv.same, abv.same, trivial⟩) (by kernel_rfl) (by kernel_rfl) i7 rfl (adb (aah (aal (aah (aal acf))))) fun v9 e0 => rp 7 [0, 1, 2, 3] (rt 4 (Vi .i64 ((((IntKind.wrap .i64 ((IntKind.wrap .u64 (a8 + b2)) / 2)) + a9) - (1 : Int)) - (IntKind.wrap .i64 ((IntKind.wrap .u64 (b3 + b4)) / 2)))) rfl rfl (aai rfl (by intro w hS_; exact (akf (((IntKind.wrap .i64 ((IntKind.wrap .u64 (a8 + b2)) / 2)) + a9) - (1 : Int)) (IntKind.wrap .i64 ((IntKind.wrap .u64 (b3 + b4)) / 2)) (by kernel_rfl) (by kernel_rfl) q4))) (aag [true, true, true, true, true, true, false, false, false, false, false, false, false, false] 5 163 (Vp (some (ea a0 (((((IntKind.wrap .i64 ((IntKind.wrap .u64 (a8 + b2)) / 2)) + a9) - (1 : Int)) - (IntKind.wrap .i64 ((IntKind.wrap .u64 (b3 + b4)) / 2))).toNat * 3)))) [6, 11, 12, 13] (fun _ _ _ h => h.1) _ rfl rfl (by kernel_rfl) (by kernel_rfl) (by kernel_rfl) (by kernel_rfl) (by kernel_rfl) rfl (aai rfl (by intro w hS_; exact (amu a0 a5.length a6 46 3 .i64 ((((IntKind.wrap .i64 ((IntKind.wrap .u64 (a8 + b2)) / 2)) + a9) - (1 : Int)) - (IntKind.wrap .i64 ((IntKind.wrap .u64 (b3 + b4)) / 2))) Tryz.underlying22 (by kernel_rfl) (by kernel_rfl) (by kernel_rfl) a5 rfl q5 hS_ aab (by decide)))) (by exact (e0.rdrw 0 rfl)) (aag [true, true, true, true, true, true, true, false, false, false, false, false, false, false] 6 164 (Value.agg #[(str ((el a5 ((((IntKind.wrap .i64 ((IntKind.wrap .u64 (a8 + b2)) / 2)) + a9) - (1 : Int)) - (IntKind.wrap .i64 ((IntKind.wrap .u64 (b3 + b4)) / 2)))).1)), (str ((el a5 ((((IntKind.wrap .i64 ((IntKind.wrap .u64 (a8 + b2)) / 2)) + a9) - (1 : Int)) - (IntKind.wrap .i64 ((IntKind.wrap .u64 (b3 + b4)) / 2)))).2.1)), (Vb ((el a5 ((((IntKind.wrap .i64 ((IntKind.wrap .u64 (a8 + b2)) / 2)) + a9) - (1 : Int)) - (IntKind.wrap .i64 ((IntKind.wrap .u64 (b3 + b4)) / 2)))).2.2))]) [11, 12, 13] (fun _ _ _ h => h.2.1) _ rfl rfl (by kernel_rfl) (by kernel_rfl) (by kernel_rfl) (by kernel_rfl) (by kernel_rfl) rfl (aai rfl (by intro w hS_; exact (x_ldE a0 aaa a5 3 ((((IntKind.wrap .i64 ((IntKind.wrap .u64 (a8 + b2)) / 2)) + a9) - (1 : Int)) - (IntKind.wrap .i64 ((IntKind.wrap .u64 (b3 + b4)) / 2))) aab hS_ [(str ((el a5 ((((IntKind.wrap .i64 ((IntKind.wrap .u64 (a8 + b2)) / 2)) + a9) - (1 : Int)) - (IntKind.wrap .i64 ((IntKind.wrap .u64 (b3 + b4)) / 2)))).1)), (str ((el a5 ((((IntKind.wrap .i64 ((IntKind.wrap .u64 (a8 + b2)) / 2)) + a9) - (1 : Int)) - (IntKind.wrap .i64 ((IntKind.wrap .u64 (b3 + b4)) / 2)))).2.1)), (Vb ((el a5 ((((IntKind.wrap .i64 ((IntKind.wrap .u64 (a8 + b2)) / 2)) + a9) - (1 : Int)) - (IntKind.wrap .i64 ((IntKind.wrap .u64 (b3 + b4)) / 2)))).2.2))] q6 (by kernel_rfl) (by kernel_rfl) (by kernel_rfl) (by kernel_rfl) (by decide)))) (by exact (e0.rdrw 0 rfl)) (rp 2 [7, 8] (aag [true, true, true, true, true, true, true, true, true, true, false, false, false, false] 9 167 (Vp (some (ea a0 ((IntKind.wrap .i64 ((IntKind.wrap .u64 (b3 + b4)) / 2)).toNat * 3)))) [10, 11, 12, 13] (fun _ _ _ h => h.2.2.1) _ rfl rfl (by kernel_rfl) (by kernel_rfl) (by kernel_rfl) (by kernel_rfl) (by kernel_rfl) rfl (aai rfl (by intro w hS_; exact (amu a0 a5.length a6 46 3 .i64 (IntKind.wrap .i64 ((IntKind.wrap .u64 (b3 + b4)) / 2)) Tryz.underlying22 (by kernel_rfl) (by kernel_rfl) (by kernel_rfl) a5 rfl q7 hS_ aab (by decide)))) (by exact (e0.rdrw 0 rfl)) (aag [true, true, true, true, true, true, true, true, true, true, true, false, false, false] 10 168 (Value.agg #[(str ((el a5 (IntKind.wrap .i64 ((IntKind.wrap .u64 (b3 + b4)) / 2))).1)), (str ((el a5 (IntKind.wrap .i64 ((IntKind.wrap .u64 (b3 + b4)) / 2))).2.1)), (Vb ((el a5 (IntKind.wrap .i64 ((IntKind.wrap .u64 (b3 + b4)) / 2))).2.2))]) [11, 12, 13] (fun _ _ _ h => h.2.1) _ rfl rfl (by kernel_rfl) (by kernel_rfl) (by kernel_rfl) (by kernel_rfl) (by kernel_rfl) rfl (aai rfl (by intro w hS_; exact (x_ldE a0 aaa a5 3 (IntKind.wrap .i64 ((IntKind.wrap .u64 (b3 + b4)) / 2)) aab hS_ [(str ((el a5 (IntKind.wrap .i64 ((IntKind.wrap .u64 (b3 + b4)) / 2))).1)), (str ((el a5 (IntKind.wrap .i64 ((IntKind.wrap .u64 (b3 + b4)) / 2))).2.1)), (Vb ((el a5 (IntKind.wrap .i64 ((IntKind.wrap .u64 (b3 + b4)) / 2))).2.2))] q8 (by kernel_rfl) (by kernel_rfl) (by kernel_rfl) (by kernel_rfl) (by decide)))) (by exact (e0.rdrw 0 rfl)) (acw (by kernel_rfl) (bi b5 fun w0 q9 b5 => ?_))))))))
  refine wc ent164 e0 (ahl q9 (hG.hp e0 hS)) fun w1 i9 => wp 2 (nq (cn b5 (fun r0 b5 => ?_) (fun r0 b5 => ?_)))
  exact cr (wp 1 (gi b5 fun r1 b5 => aac (IntKind.wrap .i64 ((IntKind.wrap .u64 (b3 + b4)) / 2)) (1 : Int) (by kernel_rfl) (by kernel_rfl) r1 (wp 1 (wl (bn (ql (le' ((IntKind.wrap .i64 ((IntKind.wrap .u64 (b3 + b4)) / 2)) + (1 : Int), b4) i9.kp b5)))))))
  exact cr (wp 2 (wl (bn (ql (le' (b3, IntKind.wrap .i64 ((IntKind.wrap .u64 (b3 + b4)) / 2)) i9.kp b5)))))
  refine ach (acg (acq (aci (ql ?_))))
  obtain rfl := oi b5
  exact je i7.kp
  intro w2 G g1
  refine sr (wp 2 (gi hr fun r2 hr => adp ((IntKind.wrap .i64 ((IntKind.wrap .u64 (a8 + b2)) / 2)) + a9) d9 (by kernel_rfl) (by kernel_rfl) r2 (wp 1 (nq (bi hr fun r3 c7 hr => cut (σ := (List (Str × Str × Bool))) [0, 1, 3, 4, 18, 20, 24] (fun c2 => [(0, (Vs a0 c2.length a6))]) (fun c2 w' => Hp w (aaj [rwt aaa 46 3 a7 a0 a6 a5]) [rwt aaa 46 3 a7 a0 a6 c2] w' ∧ c2.length = a5.length ∧ c2 = r3) ?_ ?_)))))
  refine bi c7 fun r4 e3 c7 => agq g1 [0, 1, 2, 3, 4, 18, 20, 24, 185] [(185, (Vb r4))] ?_ ?_
  refine cr (wp 3 (wd e3 (fun r5 e3 => ?_) (fun r5 e3 => ?_)))
  refine wp 4 (wl (ql ?_))
  obtain rfl := oi e3
  exact je g1.kp
  refine wp 4 (wl (ql ?_))
  obtain rfl := oi e3
  exact je g1.kp
  intro w3 G e4
  refine cb c7 (fun r6 c7 => ?_) (fun r6 c7 => ?_)
  refine cr (wp 5 (bi c7 fun j0 r7 c7 => aad 262 #[] [(Vs a0 a5.length a6), (Vi .i64 d9), (Vi .i64 a9), (Vi .i64 (((IntKind.wrap .i64 ((IntKind.wrap .u64 (a8 + b2)) / 2)) + a9) - d9)), (Value.func (.func 164) #[] #[])] _ ent262 (by kernel_rfl) (by kernel_rfl) (ahc a7 a0 a6 r7 (hG.hp e4 hS) (e4.hand (L1 := [rwt aaa 46 3 a7 a0 a6 a5]) (L2 := [])) (e4.highs hG hS 1 rfl)) ?_))
  rintro _ r8 ⟨rfl, w4, j1⟩
  have r9 : Hp w (aaj [rwt aaa 46 3 a7 a0 a6 a5]) [rwt aaa 46 3 a7 a0 a6 j0] r8 := Hp.callK (L1 := [rwt aaa 46 3 a7 a0 a6 a5]) (L2 := []) e4 j1; clear j1
  refine wl (ql ?_)
  obtain rfl := oi c7
  exact ⟨j0, _, rfl, (mc (Eq.trans (b := (Vs a0 a5.length a6)) (by kernel_rfl) (aae (by (try simp only [List.length_set]) <;> first | rfl | omega | simp))) (mc (by kernel_rfl) (mc (by kernel_rfl) (mc (by kernel_rfl) (mc (by kernel_rfl) (mc (by kernel_rfl) (mc (by kernel_rfl) rfl))))))), r9.kp, (by (try simp only [List.length_set]) <;> first | rfl | omega), rfl⟩
  refine ck (ql ?_)
  obtain rfl := oi c7
  exact ⟨a5, _, rfl, by kernel_rfl, e4.kp, (by (try simp only [List.length_set]) <;> first | rfl | omega), rfl⟩
  rintro c2 w5 G ⟨g2, w6, rfl⟩
  refine bi hr fun s0 c8 hr => cut (σ := (List (Str × Str × Bool))) [0, 3, 4, 18, 24] (fun c9 => [(0, (Vs a0 c9.length a6))]) (fun c9 w' => Hp w (aaj [rwt aaa 46 3 a7 a0 a6 a5]) [rwt aaa 46 3 a7 a0 a6 c9] w' ∧ c9.length = c2.length ∧ c9 = s0) ?_ ?_
  refine bi c8 fun s1 e5 c8 => agq g2 [0, 1, 3, 4, 18, 20, 24, 199] [(199, (Vb s1))] ?_ ?_
  refine cr (wp 3 (wd e5 (fun s2 e5 => ?_) (fun s2 e5 => ?_)))
  refine wp 4 (wl (ql ?_))
  obtain rfl := oi e5
  exact je g2.kp
  refine wp 4 (wl (ql ?_))
  obtain rfl := oi e5
  exact je g2.kp
  intro w7 G e6
  refine cb c8 (fun s3 c8 => ?_) (fun s3 c8 => ?_)
  refine cr (wp 5 (bi c8 fun j2 s4 c8 => aad 242 #[] [(Vs a0 c2.length a6), (Vi .i64 a8), (Vi .i64 d9), (Vi .i64 (IntKind.wrap .i64 ((IntKind.wrap .u64 (a8 + b2)) / 2))), (Value.func (.func 164) #[] #[])] _ ent242 (by kernel_rfl) (by kernel_rfl) (ih a7 a0 a6 s4 (hG.hp e6 hS) (e6.hand (L1 := [rwt aaa 46 3 a7 a0 a6 c2]) (L2 := [])) (e6.highs hG hS 1 rfl)) ?_))
  rintro _ s5 ⟨rfl, w8, j3⟩
  have s6 : Hp w (aaj [rwt aaa 46 3 a7 a0 a6 a5]) [rwt aaa 46 3 a7 a0 a6 j2] s5 := Hp.callK (L1 := [rwt aaa 46 3 a7 a0 a6 c2]) (L2 := []) e6 j3; clear j3
  refine wl (ql ?_)
  obtain rfl := oi c8
  exact ⟨j2, _, rfl, (mc (Eq.trans (b := (Vs a0 c2.length a6)) (by kernel_rfl) (aae (by (try simp only [List.length_set]) <;> first | rfl | omega | simp))) (mc (by kernel_rfl) (mc (by kernel_rfl) (mc (by kernel_rfl) (mc (by kernel_rfl) rfl))))), s6.kp, (by (try simp only [List.length_set]) <;> first | rfl | omega), rfl⟩
  refine ck (ql ?_)
  obtain rfl := oi c8
  exact ⟨c2, _, rfl, by kernel_rfl, e6.kp, (by (try simp only [List.length_set]) <;> first | rfl | omega), rfl⟩
  rintro c9 w9 G ⟨g3, x0, rfl⟩
  refine bi hr fun s7 e7 hr => agq g3 [0, 3, 4, 18, 24, 213] [(213, (Vb s7))] ?_ ?_
  refine cr (wp 3 (wd e7 (fun s8 e7 => ?_) (fun s8 e7 => ?_)))
  refine wp 4 (wl (ql ?_))
  obtain rfl := oi e7
  exact je g3.kp
  refine wp 4 (wl (ql ?_))
  obtain rfl := oi e7
  exact je g3.kp
  intro x2 G e8
  refine cb hr (fun s9 hr => ?_) (fun s9 hr => ?_)
  refine cr (wp 5 (bi hr fun t0 t1 hr => aad 242 #[] [(Vs a0 c9.length a6), (Vi .i64 (IntKind.wrap .i64 ((IntKind.wrap .u64 (a8 + b2)) / 2))), (Vi .i64 (((IntKind.wrap .i64 ((IntKind.wrap .u64 (a8 + b2)) / 2)) + a9) - d9)), (Vi .i64 b2), (Value.func (.func 164) #[] #[])] _ ent242 (by kernel_rfl) (by kernel_rfl) (ih a7 a0 a6 t1 (hG.hp e8 hS) (e8.hand (L1 := [rwt aaa 46 3 a7 a0 a6 c9]) (L2 := [])) (e8.highs hG hS 1 rfl)) ?_))
  rintro _ t2 ⟨rfl, x3, j4⟩
  have t3 : Hp w (aaj [rwt aaa 46 3 a7 a0 a6 a5]) [rwt aaa 46 3 a7 a0 a6 t0] t2 := Hp.callK (L1 := [rwt aaa 46 3 a7 a0 a6 c9]) (L2 := []) e8 j4; clear j4
  refine wl ?_
  obtain rfl := oi hr
  refine ahn  rfl  ?_
  exact ⟨(by first | rfl | (simp; done) | (simp; omega)), (by (try simp only [List.length_set]) <;> first | rfl | omega), t3.kp⟩
  refine ck ?_
  obtain rfl := oi hr
  refine ahn  rfl  ?_
  exact ⟨(by first | rfl | (simp; done) | (simp; omega)), (by (try simp only [List.length_set]) <;> first | rfl | omega), e8.kp⟩
end Go.Proofs
