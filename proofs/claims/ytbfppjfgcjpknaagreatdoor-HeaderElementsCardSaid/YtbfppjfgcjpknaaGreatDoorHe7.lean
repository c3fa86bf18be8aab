/-
  The law HeaderElements holds: for every list of numbers and every number of blanks the call returns true; no condition beyond the statement's own (part 7 of 8).
-/
import Derived.Test.YtbfppjfgcjpknaaGreatDoorHe6
import Derived.Test.YtbfppjfgcjpknaaGreatDoorProg
set_option linter.unusedVariables false
set_option linter.unusedSimpArgs false
set_option maxRecDepth 20000
set_option maxHeartbeats 1000000
namespace Go.Proofs
open Go.Wk Go.Px
open Go.Value renaming slice → Vs, int → Vi, bool → Vb, pointer → Vp
theorem ent15 : Go.Wk.Enters Tryz.prog 15 := ⟨Tryz.f15, _, Tryz.func15, rfl, by kernel_rfl⟩
theorem ent17 : Go.Wk.Enters Tryz.prog 17 := ⟨Tryz.f17, _, Tryz.func17, rfl, by kernel_rfl⟩
theorem ent20 : Go.Wk.Enters Tryz.prog 20 := ⟨Tryz.f20, _, Tryz.func20, rfl, by kernel_rfl⟩
theorem ent22 : Go.Wk.Enters Tryz.prog 22 := ⟨Tryz.f22, _, Tryz.func22, rfl, by kernel_rfl⟩
theorem ent32 : Go.Wk.Enters Tryz.prog 32 := ⟨Tryz.f32, _, Tryz.func32, rfl, by kernel_rfl⟩
theorem ent33 : Go.Wk.Enters Tryz.prog 33 := ⟨Tryz.f33, _, Tryz.func33, rfl, by kernel_rfl⟩
theorem ent40 : Go.Wk.Enters Tryz.prog 40 := ⟨Tryz.f40, _, Tryz.func40, rfl, by kernel_rfl⟩
theorem ent50 : Go.Wk.Enters Tryz.prog 50 := ⟨Tryz.f50, _, Tryz.func50, rfl, by kernel_rfl⟩
theorem ent86 : Go.Wk.Enters Tryz.prog 86 := ⟨Tryz.f86, _, Tryz.func86, rfl, by kernel_rfl⟩
theorem ent138 : Go.Wk.Enters Tryz.prog 138 := ⟨Tryz.f138, _, Tryz.func138, rfl, by kernel_rfl⟩
theorem ent147 : Go.Wk.Enters Tryz.prog 147 := ⟨Tryz.f147, _, Tryz.func147, rfl, by kernel_rfl⟩
theorem ent198 : Go.Wk.Enters Tryz.prog 198 := ⟨Tryz.f198, _, Tryz.func198, rfl, by kernel_rfl⟩
theorem akq {fu : Nat} {a1 : Str} {w : World} {r : (Int × Str × UInt8)} (hr : afm fu a1 = some r) (hG : Gl w) : CR Tryz.prog 32 [(str a1)] w fun v w' => v = (Value.tuple #[(Vi .i64 r.1), (str r.2.1), (bt r.2.2)]) ∧ Hp w [] [] w' := by
  have hH : Hp w [] [] w := Hp.refl w
  refine enter (k := 23) Tryz.func32 rfl rfl (Nat.le_of_ble_eq_true rfl) ?_
  unfold afm at hr
  refine sr (wp 3 (nq (sr (wp 1 (bi hr fun y1 a4 hr => wc ent51 hH (afq a4 (hG.hp0 hH)) fun w3 a2 => ?_)))))
  refine bi hr fun y6 a5 hr => wc ent86 a2 (aml a5 (hG.hp0 a2)) fun w8 a0 => wp 7 (nq (cs (sr (wp 1 (aec y6.2.2 (0 : UInt8) (by kernel_rfl) (by kernel_rfl) ?_)))))
  refine nq (cn hr (fun a6 hr => ?_) (fun a6 hr => ?_))
  refine sr (wp 4 (nq (ct (st ?_))))
  obtain rfl := oi hr
  exact rv a0.kp
  refine ck (qn (cs (sr (wp 1 (bi hr fun a9 a7 hr => wc ent69 a0 (afb a7 (hG.hp0 a0)) fun b0 a3 => wp 1 (wl ?_))))))
  refine qn (cb hr (fun a8 hr => ?_) (fun a8 hr => ?_))
  refine sr (wp 3 (nq (ct (st ?_))))
  obtain rfl := oi hr
  exact rv a3.kp
  refine ck (qn (sr (wp 5 (nq (ct ?_)))))
  obtain rfl := oi hr
  exact rv a3.kp
theorem K_L_header_RAck {fu : Nat} {a1 : Str} {w : World} {r : (Int × Int × Str × UInt8)} (hr : ajh fu a1 = some r) (hG : Gl w) : CR Tryz.prog 33 [(str a1)] w fun v w' => v = (Value.tuple #[(Vi .i64 r.1), (Vi .i64 r.2.1), (str r.2.2.1), (bt r.2.2.2)]) ∧ Hp w [] [] w' := by
  have hH : Hp w [] [] w := Hp.refl w
  refine enter (k := 29) Tryz.func33 rfl rfl (Nat.le_of_ble_eq_true rfl) ?_
  unfold ajh at hr
  refine sr (wp 4 (nq (sr (wp 1 (bi hr fun y1 a4 hr => wc ent51 hH (afq a4 (hG.hp0 hH)) fun w3 a2 => ?_)))))
  refine bi hr fun y6 a5 hr => wc ent86 a2 (aml a5 (hG.hp0 a2)) fun w8 a0 => wp 7 (nq (cs (sr (wp 1 (aec y6.2.2 (0 : UInt8) (by kernel_rfl) (by kernel_rfl) ?_)))))
  refine nq (cn hr (fun a6 hr => ?_) (fun a6 hr => ?_))
  refine sr (wp 5 (nq (ct (st ?_))))
  obtain rfl := oi hr
  exact rv a0.kp
  refine ck (qn (sr (wp 1 (bi hr fun a7 a8 hr => wc ent32 a0 (akq a8 (hG.hp0 a0)) fun b0 a3 => wp 7 (nq ?_)))))
  refine cs (sr (wp 1 (aec a7.2.2 (0 : UInt8) (by kernel_rfl) (by kernel_rfl) (nq (cn hr (fun a9 hr => ?_) (fun a9 hr => ?_))))))
  refine sr (wp 5 (nq (ct (st ?_))))
  obtain rfl := oi hr
  exact rv a3.kp
  refine ck (qn (sr (wp 7 (nq (ct ?_)))))
  obtain rfl := oi hr
  exact rv a3.kp
theorem K_L_header_Number {fu : Nat} {a0 : Str} {w : World} {r : (Int × UInt8)} (hr : amf fu a0 = some r) (hG : Gl w) : CR Tryz.prog 138 [(str a0)] w fun v w' => v = (Value.tuple #[(Vi .i64 r.1), (bt r.2)]) ∧ Hp w [] [] w' := by
  have hH : Hp w [] [] w := Hp.refl w
  refine enter (k := 9) Tryz.func138 rfl rfl (Nat.le_of_ble_eq_true rfl) ?_
  unfold amf at hr
  refine sr (wp 2 (nq (sr (wp 1 (bi hr fun y1 a2 hr => wc ent51 hH (afq a2 (hG.hp0 hH)) fun w3 a1 => ?_)))))
  refine bi hr fun y6 a3 hr => wc ent58 a1 (ajw a3 (hG.hp0 a1)) fun w8 a4 => wp 4 (nq (ct ?_))
  obtain rfl := oi hr
  exact rv a4.kp
theorem K_L_header_Item {fu : Nat} {b0 : Str} {w : World} {r : ((Str × (List (Str × Str × Bool))) × UInt8)} (hr : anu fu b0 = some r) (hG : Gl w) : CR Tryz.prog 20 [(str b0)] w fun v w' => ∃ (o0 : Option Nat), ∃ (a0 : Option Addr), ∃ (cap0 : Nat), v = (Value.tuple #[(Value.agg #[(str r.1.1), (Vs a0 r.1.2.length cap0)]), (bt r.2)]) ∧ Hp w [] [rwt aaa 46 3 o0 a0 cap0 r.1.2] w' := by
  have hH : Hp w [] [] w := Hp.refl w
  refine enter (k := 53) Tryz.func20 rfl rfl (Nat.le_of_ble_eq_true rfl) ?_
  unfold anu at hr
  refine sr (adl hH [(str ([] : Str)), (Vs none 0 0)] 34 (fun b => (Vp (some ⟨b, 0, none⟩))) rfl rfl (by kernel_rfl) fun b1 w2 b2 => wp 1 (nq (sr (wp 1 (bi hr fun y4 c2 hr => ?_)))))
  refine wc ent51 b2 (afq c2 (hG.hp0 b2)) fun w6 b3 => wp 1 (nq (sr (wp 1 (bi hr fun y9 c3 hr => wc ent54 b3 (agz c3 (hG.hp0 b3)) fun d9 a7 => wp 1 ?_))))
  refine nq (cs (sr (wp 2 (nq (cd hr (fun c4 hr => ?_) (fun c4 hr => ?_))))))
  refine sr (wp 1 (aff a7 0 b1 0 [(str ([] : Str)), (Vs none 0 0)] [(str ([] : Str)), (Vs none 0 0)] 34 [blk b1 [(str ([] : Str)), (Vs none 0 0)] 34] rfl (Nat.le_of_ble_eq_true rfl) (by kernel_rfl) (by kernel_rfl) rfl (by kernel_rfl) rfl fun e0 b4 => wp 1 (nq (ct (st ?_)))))
  obtain rfl := oi hr
  refine ajz _ [(Value.agg #[(str ([] : Str)), (Vs none 0 0)]), (bt (5 : UInt8))] (Value.tuple #[(Value.agg #[(str ([] : Str)), (Vs none 0 0)]), (bt (5 : UInt8))]) rfl rfl (aaf (aer b4 0 b1 34 [(str ([] : Str)), (Vs none 0 0)] rfl (by kernel_rfl) (by kernel_rfl) (by kernel_rfl)) (aaf (acu (by kernel_rfl)) aeb)) rfl ?_
  exact ⟨none, none, 0, (by first | rfl | (simp; done) | (simp; omega)), (Hp.nilrw b4 aaa 46 3 none).kp⟩
  refine ck (qn (bi hr fun c5 a1 hr => cut1 a7 c5 [0, 2, 3, 4] (fun a3 => [(4, (Vi .i64 a3))]) ?_ ?_))
  refine bi a1 fun c6 a6 a1 => agq a7 [0, 2, 3, 4, 25] [(25, (Vb c6))] ?_ ?_
  refine cr (wp 4 (wd a6 (fun c7 a6 => ?_) (fun c7 a6 => ?_)))
  refine wp 2 (gy 20 (gi a6 fun c8 a6 => adz y4 .i64 y9 Tryz.underlying9 (by kernel_rfl) (by kernel_rfl) c8 (gy 20 (ack (at_ y4 y9) (47 : UInt8) (by kernel_rfl) (by kernel_rfl) (wp 1 (wl (ql ?_)))))))
  obtain rfl := oi a6
  exact je a7.kp
  refine wp 5 (wl (ql ?_))
  obtain rfl := oi a6
  exact je a7.kp
  intro e1 G a9
  refine cb a1 (fun c9 a1 => ?_) (fun c9 a1 => ?_)
  refine sr (wp 2 (nq (sr (wp 2 (gi a1 fun d0 a1 => aac y9 (1 : Int) (by kernel_rfl) (by kernel_rfl) d0 ?_)))))
  refine bi a1 fun e2 d1 a1 => wc ent54 a9 (agz d1 (hG.hp0 a9)) fun e3 b5 => wp 1 (nq (sr (wp 2 (gi a1 fun d2 a1 => aac y9 (1 : Int) (by kernel_rfl) (by kernel_rfl) d2 ?_))))
  refine wp 1 (nq (cd a1 (fun d3 a1 => ?_) (fun d3 a1 => ?_)))
  refine sr (wp 1 (aff b5 0 b1 0 [(str ([] : Str)), (Vs none 0 0)] [(str ([] : Str)), (Vs none 0 0)] 34 [blk b1 [(str ([] : Str)), (Vs none 0 0)] 34] rfl (Nat.le_of_ble_eq_true rfl) (by kernel_rfl) (by kernel_rfl) rfl (by kernel_rfl) rfl fun e4 b6 => wp 1 (nq (ct (acp ?_)))))
  obtain rfl := oi a1
  obtain rfl := oi hr
  refine ajz _ [(Value.agg #[(str ([] : Str)), (Vs none 0 0)]), (bt (5 : UInt8))] (Value.tuple #[(Value.agg #[(str ([] : Str)), (Vs none 0 0)]), (bt (5 : UInt8))]) rfl rfl (aaf (aer b6 0 b1 34 [(str ([] : Str)), (Vs none 0 0)] rfl (by kernel_rfl) (by kernel_rfl) (by kernel_rfl)) (aaf (acu (by kernel_rfl)) aeb)) rfl ?_
  exact ⟨none, none, 0, (by first | rfl | (simp; done) | (simp; omega)), (Hp.nilrw b6 aaa 46 3 none).kp⟩
  refine ck (ql ?_)
  obtain rfl := oi a1
  exact je1 rfl b5.kp
  refine ck (ql ?_)
  obtain rfl := oi a1
  exact je1 rfl a9.kp
  rintro a3 e5 G b7 rfl
  refine sr (wp 2 (gi hr fun d4 hr => ahu y4 .i64 a3 Tryz.underlying9 (by kernel_rfl) (by kernel_rfl) d4 (bi hr fun a2 d5 hr => aad 59 #[] [(str (List.drop (Int.toNat a3) y4))] _ ent59 (by kernel_rfl) (by kernel_rfl) (akr d5 (hG.hp0 b7)) ?_)))
  rintro _ d6 ⟨a8, a4, a5, rfl, b8⟩
  have b9 : Hp w [] [rwt aaa 46 3 a8 a4 a5 a2.1, blk b1 [(str ([] : Str)), (Vs none 0 0)] 34] d6 := Hp.callK (L1 := []) (L2 := [blk b1 [(str ([] : Str)), (Vs none 0 0)] 34]) b7 b8; clear b8
  refine wp 7 (nq (cs (sr (wp 1 (aec a2.2.2 (0 : UInt8) (by kernel_rfl) (by kernel_rfl) (nq (cn hr (fun d7 hr => ?_) (fun d7 hr => ?_))))))))
  refine sr (wp 2 (aff b9 1 b1 0 [(str ([] : Str)), (Vs none 0 0)] [(str ([] : Str)), (Vs none 0 0)] 34 [rwt aaa 46 3 a8 a4 a5 a2.1, blk b1 [(str ([] : Str)), (Vs none 0 0)] 34] rfl (Nat.le_of_ble_eq_true rfl) (by kernel_rfl) (by kernel_rfl) rfl (by kernel_rfl) rfl fun e6 c0 => wp 1 (nq (ct (st ?_)))))
  obtain rfl := oi hr
  refine ajz _ [(Value.agg #[(str ([] : Str)), (Vs none 0 0)]), (bt a2.2.2)] (Value.tuple #[(Value.agg #[(str ([] : Str)), (Vs none 0 0)]), (bt a2.2.2)]) rfl rfl (aaf (aer c0 1 b1 34 [(str ([] : Str)), (Vs none 0 0)] rfl (by kernel_rfl) (by kernel_rfl) (by kernel_rfl)) (aaf (acu (by kernel_rfl)) aeb)) rfl ?_
  exact ⟨none, none, 0, (by first | rfl | (simp; done) | (simp; omega)), (Hp.nilrw c0 aaa 46 3 none).kp⟩
  refine ck (qn (sr (wp 2 (gi hr fun d8 hr => akw y4 .i64 a3 Tryz.underlying9 (by kernel_rfl) (by kernel_rfl) d8 (wp 2 (aff b9 1 b1 0 [(str ([] : Str)), (Vs none 0 0)] [(str (List.take (Int.toNat a3) y4)), (Vs a4 a2.1.length a5)] 34 [rwt aaa 46 3 a8 a4 a5 a2.1, blk b1 [(str (List.take (Int.toNat a3) y4)), (Vs a4 a2.1.length a5)] 34] rfl (Nat.le_of_ble_eq_true rfl) (by kernel_rfl) (by kernel_rfl) rfl (by kernel_rfl) rfl fun e7 c1 => wp 1 ?_))))))
  refine nq (ct ?_)
  obtain rfl := oi hr
  refine ajz _ [(Value.agg #[(str (List.take (Int.toNat a3) y4)), (Vs a4 a2.1.length a5)]), (bt (0 : UInt8))] (Value.tuple #[(Value.agg #[(str (List.take (Int.toNat a3) y4)), (Vs a4 a2.1.length a5)]), (bt (0 : UInt8))]) rfl rfl (aaf (aer c1 1 b1 34 [(str (List.take (Int.toNat a3) y4)), (Vs a4 a2.1.length a5)] rfl (by kernel_rfl) (by kernel_rfl) (by kernel_rfl)) (aaf (acu (by kernel_rfl)) aeb)) rfl ?_
  exact ⟨a8, a4, a5, (by first | rfl | (simp; done) | (simp; omega)), c1.kp⟩
theorem K_L_header_PrintItem {fu : Nat} {a0 : (Str × (List (Str × Str × Bool)))} (a2 : Option Addr) (a7 : Nat) (a3 : Nat) {w : World} {r : (Str × UInt8)} (hr : ako fu a0 = some r) (hG : Gl w) (b8 : a7 = a0.2.length) (b9 : Rd w a2 (List.flatMap aaa a0.2)) (c0 : a7 ≤ a3) : CR Tryz.prog 22 [(Value.agg #[(str a0.1), (Vs a2 a7 a3)])] w fun v w' => v = (Value.tuple #[(str r.1), (bt r.2)]) ∧ Hp w [] [] w' := by
  subst b8
  have hH : Hp w [] [] w := Hp.refl w
  refine enter (k := 40) Tryz.func22 rfl rfl (Nat.le_of_ble_eq_true rfl) ?_
  unfold ako at hr
  refine sr (adl hH [(str a0.1), (Vs a2 a0.2.length a3)] 34 (fun b => (Vp (some ⟨b, 0, none⟩))) rfl rfl (by kernel_rfl) fun b1 w2 a8 => wp 2 (nq (sr (wp 1 (aav a8 0 b1 0 [(str a0.1), (Vs a2 a0.2.length a3)] 34 (str a0.1) rfl rfl (by kernel_rfl) (by kernel_rfl) ?_)))))
  refine gi hr fun g7 hr => aad 77 #[] [(str a0.1), (str ([47] : Str))] _ ent77 (by kernel_rfl) (by kernel_rfl) (sh_Cut a0.1 ([47] : Str) w2 g7 (hG.hp0 a8)) ?_
  rintro _ w4 ⟨rfl, b2⟩
  have a9 := a8.call b2; clear b2
  refine wp 7 (nq (cs (bi hr fun c1 a1 hr => agq a9 [1, 2, 3, 26] [(26, (Vb c1))] ?_ ?_)))
  refine cr (wp 1 (bi a1 fun d4 c2 a1 => wc ent69 a9 (afb c2 (hG.hp0 a9)) fun d5 a5 => wp 1 (wb a1 (fun c3 a1 => ?_) (fun c3 a1 => ?_))))
  refine wp 7 (wl (ql ?_))
  obtain rfl := oi a1
  exact je a5.kp
  refine wp 1 (gy 19 (wb a1 (fun c4 a1 => ?_) (fun c4 a1 => ?_)))
  refine wp 1 (gy 21 (bi a1 fun d6 c5 a1 => wc ent69 a5 (afb c5 (hG.hp0 a5)) fun d7 c6 => wp 3 (wl (ql ?_))))
  obtain rfl := oi a1
  exact je c6.kp
  refine wp 5 (wl (ql ?_))
  obtain rfl := oi a1
  exact je a5.kp
  intro d8 G a4
  refine cb hr (fun c7 hr => ?_) (fun c7 hr => ?_)
  refine sr (wp 2 (nq (ct (st ?_))))
  obtain rfl := oi hr
  exact rv a4.kp
  refine ck (qn (sr (wp 1 (aav a4 0 b1 1 [(str a0.1), (Vs a2 a0.2.length a3)] 34 (Vs a2 a0.2.length a3) rfl rfl (by kernel_rfl) (by kernel_rfl) (bi hr fun b3 c8 hr => aad 71 #[] [(Vs a2 a0.2.length a3)] _ ent71 (by kernel_rfl) (by kernel_rfl) (anh a2 a0.2.length a3 c8 (hG.hp0 a4) rfl (b9.hp a4) c0) ?_)))))
  rintro _ c9 ⟨d0, b4, b5, rfl, b6⟩
  have a6 : Hp w [] [rwt aaa 46 3 d0 b4 b5 b3, blk b1 [(str a0.1), (Vs a2 a0.2.length a3)] 34] c9 := Hp.callK (L1 := []) (L2 := [blk b1 [(str a0.1), (Vs a2 a0.2.length a3)] 34]) a4 b6; clear b6
  refine bi hr fun b7 d1 hr => wc ent70 a6 (aih b4 b3.length b5 d1 (hG.hp0 a6) rfl (a6.rdrw 0 rfl) (a6.rwcap 0 rfl)) fun d9 b0 => wp 5 (nq (cs (sr (wp 1 (aec b7.2 (0 : UInt8) (by kernel_rfl) (by kernel_rfl) ?_)))))
  refine nq (cn hr (fun d2 hr => ?_) (fun d2 hr => ?_))
  refine sr (wp 2 (nq (ct (st ?_))))
  obtain rfl := oi hr
  exact rv b0.kp
  refine ck (qn (sr (wp 1 (aav b0 1 b1 0 [(str a0.1), (Vs a2 a0.2.length a3)] 34 (str a0.1) rfl rfl (by kernel_rfl) (by kernel_rfl) (wp 1 (gi hr fun d3 hr => abn a0.1 b7.1 (by kernel_rfl) (by kernel_rfl) d3 (wp 2 ?_)))))))
  refine nq (ct ?_)
  obtain rfl := oi hr
  exact rv b0.kp
theorem K_L_header_tidy {fu : Nat} {d1 : Str} {c0 : Str} {w : World} {r : (Str × UInt8)} (hr : alz fu d1 c0 = some r) (hG : Gl w) : CR Tryz.prog 79 [(str d1), (str c0)] w fun v w' => v = (Value.tuple #[(str r.1), (bt r.2)]) ∧ Hp w [] [] w' := by
  have hH : Hp w [] [] w := Hp.refl w
  refine enter (k := 134) Tryz.func79 rfl rfl (Nat.le_of_ble_eq_true rfl) ?_
  unfold alz at hr
  refine sr (wp 2 (nq (cs (sr (wp 1 (bi hr fun l0 e7 hr => ?_))))))
  refine wc ent137 hH (ani e7 (hG.hp0 hH)) fun l1 a2 => nq (ce (sr (wp 2 (nq (cd hr (fun e8 hr => ?_) (fun e8 hr => ?_))))))
  refine cs (bi hr fun e9 a6 hr => agq a2 [1, 4, 5, 33] [(33, (Vb e9))] ?_ ?_)
  refine cr (wp 2 (wd a6 (fun f0 a6 => ?_) (fun f0 a6 => ?_)))
  refine wp 1 (gy 29 (bi a6 fun l2 f1 a6 => wc ent51 a2 (afq f1 (hG.hp0 a2)) fun l3 f2 => wp 2 (wl (ql ?_))))
  obtain rfl := oi a6
  exact je f2.kp
  refine wp 4 (wl (ql ?_))
  obtain rfl := oi a6
  exact je a2.kp
  intro l4 G c3
  refine cb hr (fun f3 hr => ?_) (fun f3 hr => ?_)
  refine sr (wp 2 (nq (ct (st (bt_ (st ?_))))))
  obtain rfl := oi hr
  exact rv c3.kp
  refine ck (qn (sr (wp 1 (bi hr fun a0 f4 hr => aad 40 #[] [(str c0)] _ ent40 (by kernel_rfl) (by kernel_rfl) (K_L_header_Address f4 (hG.hp0 c3)) ?_))))
  rintro _ f5 ⟨d2, a7, a8, d3, a9, b0, d4, b1, b2, rfl, d5⟩
  have f6 : Hp w [] [rwt aaa 46 3 d2 a7 a8 a0.1.2.1.2.2.2.2.1, rwt aaa 46 3 d3 a9 b0 a0.1.2.1.2.2.2.2.2, rwt aaa 46 3 d4 b1 b2 a0.1.2.2] f5 := Hp.callK (L1 := []) (L2 := []) c3 d5; clear d5
  refine wp 3 (adl f6 [(str ([] : Str)), (str ([] : Str)), (str ([] : Str)), (str ([] : Str)), (Vi .i64 (0 : Int)), (Vs none 0 0), (Vs none 0 0), (Vs none 0 0)] 70 (fun b => (Vp (some ⟨b, 0, none⟩))) rfl rfl (by kernel_rfl) fun c4 l5 f7 => aff f7 0 c4 0 [(str ([] : Str)), (str ([] : Str)), (str ([] : Str)), (str ([] : Str)), (Vi .i64 (0 : Int)), (Vs none 0 0), (Vs none 0 0), (Vs none 0 0)] [(str a0.1.1), (str a0.1.2.1.1), (str a0.1.2.1.2.1), (str a0.1.2.1.2.2.1), (Vi .i64 a0.1.2.1.2.2.2.1), (Vs a7 a0.1.2.1.2.2.2.2.1.length a8), (Vs a9 a0.1.2.1.2.2.2.2.2.length b0), (Vs b1 a0.1.2.2.length b2)] 70 [blk c4 [(str a0.1.1), (str a0.1.2.1.1), (str a0.1.2.1.2.1), (str a0.1.2.1.2.2.1), (Vi .i64 a0.1.2.1.2.2.2.1), (Vs a7 a0.1.2.1.2.2.2.2.1.length a8), (Vs a9 a0.1.2.1.2.2.2.2.2.length b0), (Vs b1 a0.1.2.2.length b2)] 70, rwt aaa 46 3 d2 a7 a8 a0.1.2.1.2.2.2.2.1, rwt aaa 46 3 d3 a9 b0 a0.1.2.1.2.2.2.2.2, rwt aaa 46 3 d4 b1 b2 a0.1.2.2] rfl (Nat.le_of_ble_eq_true rfl) (by kernel_rfl) (by kernel_rfl) rfl (by kernel_rfl) rfl fun l6 a5 => wp 1 (nq (cs (sr (wp 1 ?_)))))
  refine aec a0.2 (0 : UInt8) (by kernel_rfl) (by kernel_rfl) (nq (cn hr (fun f8 hr => ?_) (fun f8 hr => ?_)))
  refine sr (wp 3 (nq (ct (st (bt_ (st ?_))))))
  obtain rfl := oi hr
  exact rv a5.kp
  refine ck (qn (sr (akx a5 0 c4 0 8 [(str a0.1.1), (str a0.1.2.1.1), (str a0.1.2.1.2.1), (str a0.1.2.1.2.2.1), (Vi .i64 a0.1.2.1.2.2.2.1), (Vs a7 a0.1.2.1.2.2.2.2.1.length a8), (Vs a9 a0.1.2.1.2.2.2.2.2.length b0), (Vs b1 a0.1.2.2.length b2)] [(str a0.1.1), (str a0.1.2.1.1), (str a0.1.2.1.2.1), (str a0.1.2.1.2.2.1), (Vi .i64 a0.1.2.1.2.2.2.1), (Vs a7 a0.1.2.1.2.2.2.2.1.length a8), (Vs a9 a0.1.2.1.2.2.2.2.2.length b0), (Vs b1 a0.1.2.2.length b2)] 70 rfl rfl rfl (by kernel_rfl) (by kernel_rfl) (by kernel_rfl) (bi hr fun l7 f9 hr => wc ent50 a5 (ank a7 a0.1.2.1.2.2.2.2.1.length a8 a9 a0.1.2.1.2.2.2.2.2.length b0 b1 a0.1.2.2.length b2 f9 (hG.hp0 a5) rfl (a5.rdrw 1 rfl) (a5.rwcap 1 rfl) rfl (a5.rdrw 2 rfl) (a5.rwcap 2 rfl) rfl (a5.rdrw 3 rfl) (a5.rwcap 3 rfl)) fun l8 g0 => wp 4 (nq ?_)))))
  refine ct (bt_ (st ?_))
  obtain rfl := oi hr
  exact rv g0.kp
  refine sr (wp 2 (nq (cd hr (fun g1 hr => ?_) (fun g1 hr => ?_))))
  refine sr (wp 1 (bi hr fun a1 g2 hr => aad 15 #[] [(str c0)] _ ent15 (by kernel_rfl) (by kernel_rfl) (K_L_header_Via g2 (hG.hp0 a2)) ?_))
  rintro _ g3 ⟨d6, b3, b4, rfl, d7⟩
  have g4 : Hp w [] [rwt aaa 46 3 d6 b3 b4 a1.1.2.2.2.2] g3 := Hp.callK (L1 := []) (L2 := []) a2 d7; clear d7
  refine wp 3 (adl g4 [(str ([] : Str)), (str ([] : Str)), (Vi .i64 (0 : Int)), (str ([] : Str)), (Vs none 0 0)] 24 (fun b => (Vp (some ⟨b, 0, none⟩))) rfl rfl (by kernel_rfl) fun c5 l9 g5 => aff g5 0 c5 0 [(str ([] : Str)), (str ([] : Str)), (Vi .i64 (0 : Int)), (str ([] : Str)), (Vs none 0 0)] [(str a1.1.1), (str a1.1.2.1), (Vi .i64 a1.1.2.2.1), (str a1.1.2.2.2.1), (Vs b3 a1.1.2.2.2.2.length b4)] 24 [blk c5 [(str a1.1.1), (str a1.1.2.1), (Vi .i64 a1.1.2.2.1), (str a1.1.2.2.2.1), (Vs b3 a1.1.2.2.2.2.length b4)] 24, rwt aaa 46 3 d6 b3 b4 a1.1.2.2.2.2] rfl (Nat.le_of_ble_eq_true rfl) (by kernel_rfl) (by kernel_rfl) rfl (by kernel_rfl) rfl fun m0 b7 => wp 1 (nq (cs (sr (wp 1 ?_)))))
  refine aec a1.2 (0 : UInt8) (by kernel_rfl) (by kernel_rfl) (nq (cn hr (fun g6 hr => ?_) (fun g6 hr => ?_)))
  refine sr (wp 3 (nq (ct (st (bt_ (st ?_))))))
  obtain rfl := oi hr
  exact rv b7.kp
  refine ck (qn (sr (akx b7 0 c5 0 5 [(str a1.1.1), (str a1.1.2.1), (Vi .i64 a1.1.2.2.1), (str a1.1.2.2.2.1), (Vs b3 a1.1.2.2.2.2.length b4)] [(str a1.1.1), (str a1.1.2.1), (Vi .i64 a1.1.2.2.1), (str a1.1.2.2.2.1), (Vs b3 a1.1.2.2.2.2.length b4)] 24 rfl rfl rfl (by kernel_rfl) (by kernel_rfl) (by kernel_rfl) (bi hr fun m1 g7 hr => wc ent17 b7 (K_L_header_PrintVia b3 a1.1.2.2.2.2.length b4 g7 (hG.hp0 b7) rfl (b7.rdrw 1 rfl) (b7.rwcap 1 rfl)) fun m2 g8 => wp 4 (nq ?_)))))
  refine ct (bt_ (st ?_))
  obtain rfl := oi hr
  exact rv g8.kp
  refine sr (wp 2 (nq (cd hr (fun g9 hr => ?_) (fun g9 hr => ?_))))
  refine sr (wp 1 (bi hr fun b8 h0 hr => wc ent32 a2 (akq h0 (hG.hp0 a2)) fun h1 c6 => wp 7 (nq (cs (cs ?_)))))
  refine cr (wp 1 (aec b8.2.2 (0 : UInt8) (by kernel_rfl) (by kernel_rfl) (nq (cn hr (fun h2 hr => ?_) (fun h2 hr => ?_)))))
  refine sr (wp 3 (nq (ct (st (bt_ (st ?_))))))
  obtain rfl := oi hr
  exact rv c6.kp
  refine ck (qn (sr (wp 1 (gi hr fun h3 hr => aad 72 #[] [(Vi .i64 b8.1)] _ ent72 (by kernel_rfl) (by kernel_rfl) (sh_Itoa b8.1 h1 h3 (hG.hp0 c6)) ?_))))
  rintro _ m3 ⟨rfl, d8⟩
  have h4 := c6.call d8; clear d8
  refine gi hr fun h5 hr => abn (Lib.itoa b8.1) ([32] : Str) (by kernel_rfl) (by kernel_rfl) h5 (wp 1 (gi hr fun h6 hr => abn ((Lib.itoa b8.1) ++ ([32] : Str)) b8.2.1 (by kernel_rfl) (by kernel_rfl) h6 (wp 2 (nq (ct (bt_ ?_))))))
  refine st ?_
  obtain rfl := oi hr
  exact rv h4.kp
  refine sr (wp 2 (nq (cd hr (fun h7 hr => ?_) (fun h7 hr => ?_))))
  refine sr (wp 1 (bi hr fun a3 h8 hr => wc ent33 a2 (K_L_header_RAck h8 (hG.hp0 a2)) fun h9 c7 => wp 9 (nq (cs (cs ?_)))))
  refine cr (wp 1 (aec a3.2.2.2 (0 : UInt8) (by kernel_rfl) (by kernel_rfl) (nq (cn hr (fun i0 hr => ?_) (fun i0 hr => ?_)))))
  refine sr (wp 3 (nq (ct (st (bt_ (st ?_))))))
  obtain rfl := oi hr
  exact rv c7.kp
  refine ck (qn (sr (wp 1 (gi hr fun i1 hr => aad 72 #[] [(Vi .i64 a3.1)] _ ent72 (by kernel_rfl) (by kernel_rfl) (sh_Itoa a3.1 h9 i1 (hG.hp0 c7)) ?_))))
  rintro _ i2 ⟨rfl, d9⟩
  have e0 := c7.call d9; clear d9
  refine gi hr fun i3 hr => abn (Lib.itoa a3.1) ([32] : Str) (by kernel_rfl) (by kernel_rfl) i3 (wp 1 (gi hr fun i4 hr => aad 72 #[] [(Vi .i64 a3.2.1)] _ ent72 (by kernel_rfl) (by kernel_rfl) (sh_Itoa a3.2.1 i2 i4 (hG.hp0 e0)) ?_))
  rintro _ m4 ⟨rfl, e1⟩
  have i5 := e0.call e1; clear e1
  refine gi hr fun i6 hr => abn ((Lib.itoa a3.1) ++ ([32] : Str)) (Lib.itoa a3.2.1) (by kernel_rfl) (by kernel_rfl) i6 (gi hr fun i7 hr => abn (((Lib.itoa a3.1) ++ ([32] : Str)) ++ (Lib.itoa a3.2.1)) ([32] : Str) (by kernel_rfl) (by kernel_rfl) i7 (wp 1 (gi hr fun i9 hr => abn ((((Lib.itoa a3.1) ++ ([32] : Str)) ++ (Lib.itoa a3.2.1)) ++ ([32] : Str)) a3.2.2.1 (by kernel_rfl) (by kernel_rfl) i9 (wp 2 (nq ?_)))))
  refine ct (bt_ (st ?_))
  obtain rfl := oi hr
  exact rv i5.kp
  refine sr (wp 2 (nq (cd hr (fun j0 hr => ?_) (fun j0 hr => ?_))))
  refine sr (wp 1 (bi hr fun c8 j1 hr => wc ent138 a2 (K_L_header_Number j1 (hG.hp0 a2)) fun j2 c9 => wp 5 (nq (cs (cs ?_)))))
  refine cr (wp 1 (aec c8.2 (0 : UInt8) (by kernel_rfl) (by kernel_rfl) (nq (cn hr (fun j3 hr => ?_) (fun j3 hr => ?_)))))
  refine sr (wp 3 (nq (ct (st (bt_ (st ?_))))))
  obtain rfl := oi hr
  exact rv c9.kp
  refine ck (qn (sr (wp 1 (gi hr fun j4 hr => aad 72 #[] [(Vi .i64 c8.1)] _ ent72 (by kernel_rfl) (by kernel_rfl) (sh_Itoa c8.1 j2 j4 (hG.hp0 c9)) ?_))))
  rintro _ m5 ⟨rfl, e2⟩
  have j5 := c9.call e2; clear e2
  refine wp 2 (nq (ct (bt_ (st ?_))))
  obtain rfl := oi hr
  exact rv j5.kp
  refine bi hr fun j6 c1 hr => agq a2 [1, 4, 5, 109] [(109, (Vb j6))] ?_ ?_
  refine sr (wp 2 (nq (cd c1 (fun j7 c1 => ?_) (fun j7 c1 => ?_))))
  refine ck (ql ?_)
  obtain rfl := oi c1
  exact je a2.kp
  refine cr (wp 2 (wl (ql ?_)))
  obtain rfl := oi c1
  exact je a2.kp
  intro m6 G c2
  refine cb hr (fun j8 hr => ?_) (fun j8 hr => ?_)
  refine sr (wp 1 (bi hr fun a4 j9 hr => aad 20 #[] [(str c0)] _ ent20 (by kernel_rfl) (by kernel_rfl) (K_L_header_Item j9 (hG.hp0 c2)) ?_))
  rintro _ k0 ⟨e3, b5, b6, rfl, e4⟩
  have k1 : Hp w [] [rwt aaa 46 3 e3 b5 b6 a4.1.2] k0 := Hp.callK (L1 := []) (L2 := []) c2 e4; clear e4
  refine wp 3 (adl k1 [(str ([] : Str)), (Vs none 0 0)] 34 (fun b => (Vp (some ⟨b, 0, none⟩))) rfl rfl (by kernel_rfl) fun d0 m7 k2 => aff k2 0 d0 0 [(str ([] : Str)), (Vs none 0 0)] [(str a4.1.1), (Vs b5 a4.1.2.length b6)] 34 [blk d0 [(str a4.1.1), (Vs b5 a4.1.2.length b6)] 34, rwt aaa 46 3 e3 b5 b6 a4.1.2] rfl (Nat.le_of_ble_eq_true rfl) (by kernel_rfl) (by kernel_rfl) rfl (by kernel_rfl) rfl fun m8 b9 => wp 1 (nq (cs (sr (wp 1 ?_)))))
  refine aec a4.2 (0 : UInt8) (by kernel_rfl) (by kernel_rfl) (nq (cn hr (fun k3 hr => ?_) (fun k3 hr => ?_)))
  refine sr (wp 3 (nq (ct (st (bt_ (st ?_))))))
  obtain rfl := oi hr
  exact rv b9.kp
  refine ck (qn (sr (akx b9 0 d0 0 2 [(str a4.1.1), (Vs b5 a4.1.2.length b6)] [(str a4.1.1), (Vs b5 a4.1.2.length b6)] 34 rfl rfl rfl (by kernel_rfl) (by kernel_rfl) (by kernel_rfl) (bi hr fun m9 k4 hr => wc ent22 b9 (K_L_header_PrintItem b5 a4.1.2.length b6 k4 (hG.hp0 b9) rfl (b9.rdrw 1 rfl) (b9.rwcap 1 rfl)) fun n0 k5 => wp 4 (nq ?_)))))
  refine ct (bt_ (st ?_))
  obtain rfl := oi hr
  exact rv k5.kp
  refine ck (bn (qn (sr (wp 1 (bi hr fun n1 k6 hr => wc ent51 c2 (afq k6 (hG.hp0 c2)) fun n2 e5 => wp 1 (wl ?_))))))
  refine qn (cs (sr (wp 1 (bi hr fun k7 k8 hr => wc ent99 e5 (amj k8 (hG.hp0 e5)) fun n3 e6 => wp 5 (nq ?_)))))
  refine sr (wp 1 (aec k7.2 (0 : UInt8) (by kernel_rfl) (by kernel_rfl) (nq (cn hr (fun k9 hr => ?_) (fun k9 hr => ?_)))))
  refine sr (wp 2 (nq (ct (st ?_))))
  obtain rfl := oi hr
  exact rv e6.kp
  refine ck (qn (sr (wp 3 (nq (ct ?_)))))
  obtain rfl := oi hr
  exact rv e6.kp
theorem K_L_lexis_piece {fu : Nat} {s_0 : Str} {a1 : Int} {a0 : Int} {w : World} {r : (Int × Str)} (hr : afl fu s_0 a1 a0 = some r) (hG : Gl w) : CR Tryz.prog 147 [(str s_0), (Vi .i64 a1), (Vi .i64 a0)] w fun v w' => v = (Value.agg #[(Vi .i64 r.1), (str r.2)]) ∧ Hp w [] [] w' := by
  have hH : Hp w [] [] w := Hp.refl w
  refine enter (k := 20) Tryz.func147 rfl rfl (Nat.le_of_ble_eq_true rfl) ?_
  unfold afl at hr
  refine sr (adl hH [(Vi .i64 (0 : Int)), (str ([] : Str))] 97 (fun b => (Vp (some ⟨b, 0, none⟩))) rfl rfl (by kernel_rfl) fun b1 w2 a2 => nq (sr (wp 2 (bi hr fun y4 a5 hr => wc ent55 a2 (ajx a5 (hG.hp0 a2)) fun w6 a6 => ?_))))
  refine wp 1 (w_min .i64 y4 a0 (by kernel_rfl) (by kernel_rfl) (wp 1 (nq (sr (wp 4 (gi hr fun g9 hr => amd s_0 .i64 .i64 (min y4 a0) a0 Tryz.underlying9 (by kernel_rfl) (by kernel_rfl) (by kernel_rfl) g9 ?_))))))
  refine gi hr fun a7 hr => gi hr fun a8 hr => aad 198 #[] [(str (sub s_0 (min y4 a0) a0)), (str ([32, 9] : Str))] _ ent198 (by kernel_rfl) (by kernel_rfl) (sh_TrimRight (sub s_0 (min y4 a0) a0) ([32, 9] : Str) w6 a7 a8) ?_
  rintro _ b0 ⟨rfl, a3⟩
  have a9 := a6.call a3; clear a3
  refine wp 1 (aff a9 0 b1 0 [(Vi .i64 (0 : Int)), (str ([] : Str))] [(Vi .i64 (min y4 a0)), (str (Lib.trimRightS (sub s_0 (min y4 a0) a0) ([32, 9] : Str)))] 97 [blk b1 [(Vi .i64 (min y4 a0)), (str (Lib.trimRightS (sub s_0 (min y4 a0) a0) ([32, 9] : Str)))] 97] rfl (Nat.le_of_ble_eq_true rfl) (by kernel_rfl) (by kernel_rfl) rfl (by kernel_rfl) rfl fun b2 a4 => nq (ct ?_))
  obtain rfl := oi hr
  refine ajz _ [(Value.agg #[(Vi .i64 (min y4 a0)), (str (Lib.trimRightS (sub s_0 (min y4 a0) a0) ([32, 9] : Str)))])] (Value.agg #[(Vi .i64 (min y4 a0)), (str (Lib.trimRightS (sub s_0 (min y4 a0) a0) ([32, 9] : Str)))]) rfl rfl (aaf (aer a4 0 b1 97 [(Vi .i64 (min y4 a0)), (str (Lib.trimRightS (sub s_0 (min y4 a0) a0) ([32, 9] : Str)))] rfl (by kernel_rfl) (by kernel_rfl) (by kernel_rfl)) aeb) rfl ?_
  exact ⟨(by first | rfl | (simp; done) | (simp; omega)), a4.kp⟩
theorem K_L_lexis_Split {fu : Nat} {s_0 : Str} {b2 : UInt8} {w : World} {r : ((List (Int × Str)) × Int × UInt8)} (hr : aly fu s_0 b2 = some r) (hG : Gl w) : CR Tryz.prog 85 [(str s_0), (bt b2)] w fun v w' => ∃ (o0 : Option Nat), ∃ (a0 : Option Addr), ∃ (cap0 : Nat), v = (Value.tuple #[(Vs a0 r.1.length cap0), (Vi .i64 r.2.1), (bt r.2.2)]) ∧ Hp w [] [rwt aiw 97 2 o0 a0 cap0 r.1] w' := by
  have hH : Hp w [] [] w := Hp.refl w
  refine enter (k := 89) Tryz.func85 rfl rfl (Nat.le_of_ble_eq_true rfl) ?_
  unfold aly at hr
  refine sr (wp 3 (nq (cs (bi hr fun d8 a3 hr => agq hH [0, 1, 4, 5, 6, 27] [(27, (Vb d8))] ?_ ?_))))
  refine cr (wp 1 (bi a3 fun g8 d9 a3 => wc ent104 hH (alu d9 (hG.hp0 hH)) fun g9 b7 => wb a3 (fun e0 a3 => ?_) (fun e0 a3 => ?_)))
  refine wp 11 (wl (ql ?_))
  obtain rfl := oi a3
  exact je b7.kp
  refine wp 1 (gy 16 (ack b2 (34 : UInt8) (by kernel_rfl) (by kernel_rfl) (wp 1 (wd a3 (fun e1 a3 => ?_) (fun e1 a3 => ?_)))))
  refine wp 7 (wl (ql ?_))
  obtain rfl := oi a3
  exact je b7.kp
  refine wp 1 (gy 20 (ack b2 (60 : UInt8) (by kernel_rfl) (by kernel_rfl) (wp 1 (wd a3 (fun e2 a3 => ?_) (fun e2 a3 => ?_)))))
  refine wp 3 (wl (ql ?_))
  obtain rfl := oi a3
  exact je b7.kp
  refine wp 1 (gy 24 (ack b2 (62 : UInt8) (by kernel_rfl) (by kernel_rfl) (wp 1 (wl (ql ?_)))))
  obtain rfl := oi a3
  exact je b7.kp
  intro h0 G c6
  refine cb hr (fun e3 hr => ?_) (fun e3 hr => ?_)
  refine sr (wp 3 (nq (ct (st ?_))))
  obtain rfl := oi hr
  refine ajy (Vs none 0 0) (Vi .i64 (0 : Int)) (bt (2 : UInt8)) rfl (by kernel_rfl) (by kernel_rfl) (by kernel_rfl) ?_
  exact ⟨none, none, 0, (by first | rfl | (simp; done) | (simp; omega)), (Hp.nilrw c6 aiw 97 2 none).kp⟩
  refine ck (qn (sr (wp 1 (nq (sr (wp 1 ?_))))))
  refine nq (bi hr fun c7 e4 hr => cut (σ := ((List (Int × Str)) × Int) × (Option Nat) × (Option Addr) × Nat) [0, 4, 5, 6, 7, 8] (fun ⟨a7, b8, b5, b6⟩ => [(7, (Vs b5 a7.1.length b6)), (8, (Vi .i64 a7.2))]) (fun ⟨a7, b8, b5, b6⟩ w' => Hp w [] [rwt aiw 97 2 b8 b5 b6 a7.1] w' ∧ .inl a7 = c7) ?_ ?_)
  refine sr (wp 1 (nq (ce (lpG (σ := Nat × (List (Int × Str)) × Int × Int × (Option Nat) × (Option Addr) × Nat) [0, 1, 4, 5, 6, 7, 8, 9] (fun ⟨a8, a4, a9, a2, b0, a5, a6⟩ => [(7, (Vs a5 a4.length a6)), (8, (Vi .i64 a9)), (9, (Vi .i64 a2))]) (fun ⟨a8, a4, a9, a2, b0, a5, a6⟩ w' => Hp w [] [rwt aiw 97 2 b0 a5 a6 a4] w' ∧ acs fu s_0 b2 a8 a4 a9 a2 = some c7) (fun ⟨a8, a4, a9, a2, b0, a5, a6⟩ => a8) (fu, ([] : List (Int × Str)), (0 : Int), (0 : Int), none, none, 0) (by exact ⟨(Hp.nilrw c6 aiw 97 2 none).kp, e4⟩) ?_ (mc (by kernel_rfl) (mc (by kernel_rfl) (mc (by kernel_rfl) (mc (by kernel_rfl) (mc (by kernel_rfl) (mc (Eq.trans (b := (Vs none 0 0)) (by kernel_rfl) (aae (by (try simp only [List.length_set]) <;> first | rfl | omega | simp))) (mc (by kernel_rfl) (mc (by kernel_rfl) rfl))))))))))))
  rintro ⟨_ | a8, a4, a9, a2, b0, a5, a6⟩ e5 G ⟨b1, a1⟩
  · exact absurd (show none = some _ from a1) (by simp)
  rw [acs.eq_2] at a1
  refine cs (sr (wp 4 (nq (cd a1 (fun e6 a1 => ?_) (fun e6 a1 => ?_)))))
  refine ck (qn (ce (sr (wp 2 (gi a1 fun e7 a1 => adz s_0 .i64 a2 Tryz.underlying9 (by kernel_rfl) (by kernel_rfl) e7 (nq ?_))))))
  refine ce (sr (ack (at_ s_0 a2) (34 : UInt8) (by kernel_rfl) (by kernel_rfl) (wp 1 (nq (cd a1 (fun e8 a1 => ?_) (fun e8 a1 => ?_))))))
  refine sr (wp 2 (bi a1 fun b9 e9 a1 => wc ent145 b1 (ale e9 (hG.hp0 b1)) fun h1 c8 => wp 7 (nq (cs (cs ?_)))))
  refine cr (wp 1 (aec b9.2.2 (0 : UInt8) (by kernel_rfl) (by kernel_rfl) (nq (cn a1 (fun f0 a1 => ?_) (fun f0 a1 => ?_)))))
  refine sr (wp 5 (nq (ct (st (bt_ (bt_ (acp ?_)))))))
  refine bt_ (acp ?_)
  obtain rfl := oi a1
  obtain rfl := oi hr
  refine ajy (Vs none 0 0) (Vi .i64 b9.2.1) (bt b9.2.2) rfl (by kernel_rfl) (by kernel_rfl) (by kernel_rfl) ?_
  exact ⟨none, none, 0, (by first | rfl | (simp; done) | (simp; omega)), (Hp.nilrw c8 aiw 97 2 none).kp⟩
  refine ck (qn (cr (wp 2 (wl (bn (bn (ql ?_)))))))
  exact ⟨(a8, a4, a9, b9.2.1, b0, a5, a6), _, rfl, by kernel_rfl, ⟨c8.kp, a1⟩, Nat.lt_succ_self _⟩
  refine sr (ack (at_ s_0 a2) (60 : UInt8) (by kernel_rfl) (by kernel_rfl) (wp 1 (nq (cd a1 (fun f1 a1 => ?_) (fun f1 a1 => ?_)))))
  refine sr (wp 2 (gi a1 fun f2 a1 => ahu s_0 .i64 a2 Tryz.underlying9 (by kernel_rfl) (by kernel_rfl) f2 (aad 146 #[] [(str (List.drop (Int.toNat a2) s_0)), (bt (62 : UInt8))] _ ent146 (by kernel_rfl) (by kernel_rfl) (akc (List.drop (Int.toNat a2) s_0) (62 : UInt8) e5) ?_)))
  rintro _ h2 ⟨rfl, c9⟩
  have d0 := b1.call c9; clear c9
  refine wp 1 (nq (cs (sr (wp 2 (nq (cd a1 (fun f3 a1 => ?_) (fun f3 a1 => ?_)))))))
  refine sr (wp 5 (nq (ct (st (bt_ (bt_ (acp ?_)))))))
  refine bt_ (acp ?_)
  obtain rfl := oi a1
  obtain rfl := oi hr
  refine ajy (Vs none 0 0) (Vi .i64 (s_0.length : Int)) (bt (6 : UInt8)) rfl (by kernel_rfl) (by kernel_rfl) (by kernel_rfl) ?_
  exact ⟨none, none, 0, (by first | rfl | (simp; done) | (simp; omega)), (Hp.nilrw d0 aiw 97 2 none).kp⟩
  refine ck (qn (cr (wp 2 (gi a1 fun f4 a1 => aac (ixb (· == (62 : UInt8)) (List.drop (Int.toNat a2) s_0)) (1 : Int) (by kernel_rfl) (by kernel_rfl) f4 (gi a1 fun f5 a1 => aac a2 ((ixb (· == (62 : UInt8)) (List.drop (Int.toNat a2) s_0)) + (1 : Int)) (by kernel_rfl) (by kernel_rfl) f5 (wp 1 (wl ?_)))))))
  refine bn (bn (ql ?_))
  exact ⟨(a8, a4, a9, a2 + ((ixb (· == (62 : UInt8)) (List.drop (Int.toNat a2) s_0)) + (1 : Int)), b0, a5, a6), _, rfl, by kernel_rfl, ⟨d0.kp, a1⟩, Nat.lt_succ_self _⟩
  refine sr (ack (at_ s_0 a2) (62 : UInt8) (by kernel_rfl) (by kernel_rfl) (wp 1 (nq (cd a1 (fun f6 a1 => ?_) (fun f6 a1 => ?_)))))
  refine sr (wp 4 (nq (ct (bt_ (bt_ (acp (bt_ ?_)))))))
  refine acp ?_
  obtain rfl := oi a1
  obtain rfl := oi hr
  refine ajy (Vs none 0 0) (Vi .i64 a2) (bt (5 : UInt8)) rfl (by kernel_rfl) (by kernel_rfl) (by kernel_rfl) ?_
  exact ⟨none, none, 0, (by first | rfl | (simp; done) | (simp; omega)), (Hp.nilrw b1 aiw 97 2 none).kp⟩
  refine sr (wp 1 (ack (at_ s_0 a2) b2 (by kernel_rfl) (by kernel_rfl) (wp 1 (nq (cd a1 (fun f7 a1 => ?_) (fun f7 a1 => ?_))))))
  refine sr (wp 4 (bi a1 fun b3 f8 a1 => wc ent147 b1 (K_L_lexis_piece f8 (hG.hp0 b1)) fun h3 f9 => adl f9 [(Vi .i64 b3.1), (str b3.2)] 97 (fun b => (Vs (some ⟨b, 0, none⟩) 1 1)) rfl rfl (by kernel_rfl) fun c0 h4 d1 => gi a1 fun g0 a1 => adw d1 1 b0 a5 (some ⟨c0, 0, none⟩) a6 1 97 2 24 a4 ([b3] : List (Int × Str)) ano rfl Tryz.underlying93 (by unfold TI; kernel_rfl) (by decide) (by decide) (by kernel_rfl) (Eq.trans (b := (Vs (some ⟨c0, 0, none⟩) 1 1)) (by kernel_rfl) (aae (by first | rfl | (simp; done) | omega | (simp; omega) | (rw [List.length_take]; omega)))) (d1.rdblk 0 rfl) g0 fun d2 d3 d4 g1 c1 => ?_))
  replace c1 : Hp w [] [blk c0 [(Vi .i64 b3.1), (str b3.2)] 97, rwt aiw 97 2 d2 d3 d4 (a4 ++ ([b3] : List (Int × Str)))] g1 := c1
  refine wp 1 (nq (sr (wp 1 (gi a1 fun g2 a1 => aac a2 (1 : Int) (by kernel_rfl) (by kernel_rfl) g2 (wp 1 (wl ?_))))))
  refine qn (cr (wp 2 (wl (bn (bn (ql ?_))))))
  exact ⟨(a8, a4 ++ ([b3] : List (Int × Str)), a2 + (1 : Int), a2 + (1 : Int), d2, d3, d4), _, rfl, by kernel_rfl, ⟨(Hp.front c1 1 _ rfl).kp, a1⟩, Nat.lt_succ_self _⟩
  refine cr (wp 1 (gi a1 fun g3 a1 => aac a2 (1 : Int) (by kernel_rfl) (by kernel_rfl) g3 (wp 1 (wl (bn (bn (ql ?_)))))))
  exact ⟨(a8, a4, a9, a2 + (1 : Int), b0, a5, a6), _, rfl, by kernel_rfl, ⟨b1.kp, a1⟩, Nat.lt_succ_self _⟩
  refine ach (acg (acq (aci (ql ?_))))
  obtain rfl := oi a1
  exact ⟨((a4, a9), b0, a5, a6), _, rfl, by kernel_rfl, b1.kp, rfl⟩
  rintro ⟨a7, b8, b5, b6⟩ h5 G ⟨d5, rfl⟩
  refine sr (wp 5 (bi hr fun b4 g4 hr => wc ent147 d5 (K_L_lexis_piece g4 (hG.hp0 d5)) fun h6 g5 => adl g5 [(Vi .i64 b4.1), (str b4.2)] 97 (fun b => (Vs (some ⟨b, 0, none⟩) 1 1)) rfl rfl (by kernel_rfl) fun c2 h7 d6 => gi hr fun g6 hr => adw d6 1 b8 b5 (some ⟨c2, 0, none⟩) b6 1 97 2 24 a7.1 ([b4] : List (Int × Str)) ano rfl Tryz.underlying93 (by unfold TI; kernel_rfl) (by decide) (by decide) (by kernel_rfl) (Eq.trans (b := (Vs (some ⟨c2, 0, none⟩) 1 1)) (by kernel_rfl) (aae (by first | rfl | (simp; done) | omega | (simp; omega) | (rw [List.length_take]; omega)))) (d6.rdblk 0 rfl) g6 fun d7 c3 c4 g7 c5 => ?_))
  replace c5 : Hp w [] [blk c2 [(Vi .i64 b4.1), (str b4.2)] 97, rwt aiw 97 2 d7 c3 c4 (a7.1 ++ ([b4] : List (Int × Str)))] g7 := c5
  refine wp 3 (nq (ct ?_))
  obtain rfl := oi hr
  refine ajy (Vs c3 ((a7.1 ++ ([b4] : List (Int × Str))).length) c4) (Vi .i64 (0 : Int)) (bt (0 : UInt8)) rfl (by kernel_rfl) (by kernel_rfl) (by kernel_rfl) ?_
  exact ⟨d7, c3, c4, (by first | rfl | (simp; done) | (simp; omega)), (Hp.front c5 1 _ rfl).kp⟩
end Go.Proofs
set_option linter.unusedVariables false
set_option linter.unusedSimpArgs false
set_option maxRecDepth 20000
set_option maxHeartbeats 1000000
namespace Go.Proofs
open Go.Wk Go.Px
open Go.Value renaming slice → Vs, int → Vi, bool → Vb, pointer → Vp
theorem ent14 : Go.Wk.Enters Tryz.prog 14 := ⟨Tryz.f14, _, Tryz.func14, rfl, by kernel_rfl⟩
theorem ent25 : Go.Wk.Enters Tryz.prog 25 := ⟨Tryz.f25, _, Tryz.func25, rfl, by kernel_rfl⟩
theorem ent31 : Go.Wk.Enters Tryz.prog 31 := ⟨Tryz.f31, _, Tryz.func31, rfl, by kernel_rfl⟩
theorem ent79 : Go.Wk.Enters Tryz.prog 79 := ⟨Tryz.f79, _, Tryz.func79, rfl, by kernel_rfl⟩
theorem ent85 : Go.Wk.Enters Tryz.prog 85 := ⟨Tryz.f85, _, Tryz.func85, rfl, by kernel_rfl⟩
theorem K_L_header_List {fu : Nat} {b6 : Str} {w : World} {r : ((List Str) × UInt8)} (hr : ahy fu b6 = some r) (hG : Gl w) : CR Tryz.prog 31 [(str b6)] w fun v w' => ∃ (o0 : Option Nat), ∃ (a0 : Option Addr), ∃ (cap0 : Nat), v = (Value.tuple #[(Vs a0 r.1.length cap0), (bt r.2)]) ∧ Hp w [] [rwt eS 9 1 o0 a0 cap0 r.1] w' := by
  have hH : Hp w [] [] w := Hp.refl w
  refine enter (k := 35) Tryz.func31 rfl rfl (Nat.le_of_ble_eq_true rfl) ?_
  unfold ahy at hr
  refine sr (wp 2 (nq (sr (wp 1 (bi hr fun y1 c6 hr => aad 85 #[] [(str b6), (bt (44 : UInt8))] _ ent85 (by kernel_rfl) (by kernel_rfl) (K_L_lexis_Split c6 (hG.hp0 hH)) ?_)))))
  rintro _ w3 ⟨o6, a7, cap8, rfl, b9⟩
  have c0 : Hp w [] [rwt aiw 97 2 o6 a7 cap8 y1.1] w3 := Hp.callK (L1 := []) (L2 := []) hH b9; clear b9
  refine wp 7 (nq (cs (sr (wp 1 (aec y1.2.2 (0 : UInt8) (by kernel_rfl) (by kernel_rfl) (nq (cn hr (fun h9 hr => ?_) (fun h9 hr => ?_))))))))
  refine sr (wp 3 (nq (ct (st ?_))))
  obtain rfl := oi hr
  refine ajc (Vs none 0 0) (bt y1.2.2) rfl (by kernel_rfl) (by kernel_rfl) ?_
  exact ⟨none, none, 0, (by first | rfl | (simp; done) | (simp; omega)), (Hp.nilrw c0 eS 9 1 none).kp⟩
  refine ck (qn (sr (wp 1 (nq (bi hr fun c1 c7 hr => cut (σ := (List Str) × (Option Nat) × (Option Addr) × Nat) [2, 3, 7] (fun ⟨a8, b3, a9, b0⟩ => [(7, (Vs a9 a8.length b0))]) (fun ⟨a8, b3, a9, b0⟩ w' => Hp w [] [rwt eS 9 1 b3 a9 b0 a8] w' ∧ .inl a8 = c1) ?_ ?_)))))
  refine sr (wp 3 (nq (ce (lpG (σ := Nat × (List Str) × Int × (Option Nat) × (Option Addr) × Nat) [2, 3, 7, 19, 20, 21] (fun ⟨b1, a3, a1, a6, a4, a5⟩ => [(7, (Vs a4 a3.length a5)), (21, (Vi .i64 a1))]) (fun ⟨b1, a3, a1, a6, a4, a5⟩ w' => Hp w [] [rwt aiw 97 2 o6 a7 cap8 y1.1, rwt eS 9 1 a6 a4 a5 a3] w' ∧ afk fu y1 b1 a3 a1 = some c1) (fun ⟨b1, a3, a1, a6, a4, a5⟩ => b1) (fu, ([] : List Str), (0 : Int), none, none, 0) (by exact ⟨(Hp.front (Hp.nilrw c0 eS 9 1 none) 1 _ rfl).kp, c7⟩) ?_ (mc (by kernel_rfl) (mc (by kernel_rfl) (mc (Eq.trans (b := (Vs none 0 0)) (by kernel_rfl) (aae (by (try simp only [List.length_set]) <;> first | rfl | omega | simp))) (mc (by kernel_rfl) (mc (by kernel_rfl) (mc (by kernel_rfl) rfl))))))))))
  rintro ⟨_ | b1, a3, a1, a6, a4, a5⟩ d7 G ⟨b4, a2⟩
  · exact absurd (show none = some _ from a2) (by simp)
  rw [afk.eq_2] at a2
  refine sr (wp 1 (nq (cs (cd a2 (fun c8 a2 => ?_) (fun c8 a2 => ?_)))))
  refine ck (qn (cs (ce (sr (gi a2 fun c9 a2 => aht a7 y1.1.length cap8 97 2 .i64 a1 Tryz.underlying93 (by kernel_rfl) (by kernel_rfl) (by kernel_rfl) y1.1 rfl c9 (b4.rdrw 0 rfl) ano (by decide) (gi a2 fun d0 a2 => ahm a7 aiw y1.1 2 a1 ano (b4.rdrw 0 rfl) [(Vi .i64 ((el y1.1 a1).1)), (str ((el y1.1 a1).2))] d0 (by kernel_rfl) (by kernel_rfl) (by kernel_rfl) (by kernel_rfl) (by decide) ?_))))))
  refine adl b4 [(Vi .i64 (0 : Int)), (str ([] : Str))] 97 (fun b => (Vp (some ⟨b, 0, none⟩))) rfl rfl (by kernel_rfl) fun b2 d8 d1 => aff d1 0 b2 0 [(Vi .i64 (0 : Int)), (str ([] : Str))] [(Vi .i64 ((el y1.1 a1).1)), (str ((el y1.1 a1).2))] 97 [blk b2 [(Vi .i64 ((el y1.1 a1).1)), (str ((el y1.1 a1).2))] 97, rwt aiw 97 2 o6 a7 cap8 y1.1, rwt eS 9 1 a6 a4 a5 a3] rfl (Nat.le_of_ble_eq_true rfl) (by kernel_rfl) (by kernel_rfl) rfl (by kernel_rfl) rfl fun d9 b5 => nq (cs (sr (wp 1 (aav b5 0 b2 1 [(Vi .i64 ((el y1.1 a1).1)), (str ((el y1.1 a1).2))] 97 (str ((el y1.1 a1).2)) rfl rfl (by kernel_rfl) (by kernel_rfl) (wp 1 ?_)))))
  refine nq (cd a2 (fun d2 a2 => ?_) (fun d2 a2 => ?_))
  refine sr (wp 2 (nq (ct (st (bt_ (st (acp ?_)))))))
  refine bt_ (acp ?_)
  obtain rfl := oi a2
  obtain rfl := oi hr
  refine ajc (Vs none 0 0) (bt (5 : UInt8)) rfl (by kernel_rfl) (by kernel_rfl) ?_
  exact ⟨none, none, 0, (by first | rfl | (simp; done) | (simp; omega)), (Hp.nilrw b5 eS 9 1 none).kp⟩
  refine ck (qn (cr (wp 2 (aav b5 0 b2 1 [(Vi .i64 ((el y1.1 a1).1)), (str ((el y1.1 a1).2))] 97 (str ((el y1.1 a1).2)) rfl rfl (by kernel_rfl) (by kernel_rfl) (adl b5 [(str ((el y1.1 a1).2))] 9 (fun b => (Vs (some ⟨b, 0, none⟩) 1 1)) rfl rfl (by kernel_rfl) fun b7 e0 c2 => gi a2 fun d3 a2 => adw c2 3 a6 a4 (some ⟨b7, 0, none⟩) a5 1 9 1 16 a3 ([(el y1.1 a1).2] : List Str) enc_S rfl Tryz.underlying54 (by unfold TI; kernel_rfl) (by decide) (by decide) (by kernel_rfl) (Eq.trans (b := (Vs (some ⟨b7, 0, none⟩) 1 1)) (by kernel_rfl) (aae (by first | rfl | (simp; done) | omega | (simp; omega) | (rw [List.length_take]; omega)))) (c2.rdblk 0 rfl) d3 fun c3 c4 c5 d4 b8 => ?_)))))
  replace b8 : Hp w [] [blk b7 [(str ((el y1.1 a1).2))] 9, blk b2 [(Vi .i64 ((el y1.1 a1).1)), (str ((el y1.1 a1).2))] 97, rwt aiw 97 2 o6 a7 cap8 y1.1, rwt eS 9 1 c3 c4 c5 (a3 ++ ([(el y1.1 a1).2] : List Str))] d4 := b8
  refine wp 1 (wl (bn (qn (cr (gi a2 fun d5 a2 => aac a1 (1 : Int) (by kernel_rfl) (by kernel_rfl) d5 (wp 1 (wl (ql ?_))))))))
  exact ⟨(b1, a3 ++ ([(el y1.1 a1).2] : List Str), a1 + (1 : Int), c3, c4, c5), _, rfl, by kernel_rfl, ⟨(Hp.front (Hp.front b8 3 _ rfl) 3 _ rfl).kp, a2⟩, Nat.lt_succ_self _⟩
  refine ach (acg (acq (aci (ql ?_))))
  obtain rfl := oi a2
  exact ⟨(a3, a6, a4, a5), _, rfl, by kernel_rfl, (Hp.front b4 1 _ rfl).kp, rfl⟩
  rintro ⟨a8, b3, a9, b0⟩ e1 G ⟨d6, rfl⟩
  refine sr (wp 3 (nq (ct ?_)))
  obtain rfl := oi hr
  refine ajc (Vs a9 a8.length b0) (bt (0 : UInt8)) rfl (by kernel_rfl) (by kernel_rfl) ?_
  exact ⟨b3, a9, b0, (by first | rfl | (simp; done) | (simp; omega)), d6.kp⟩
theorem K_L_header_Tidy {fu : Nat} {b6 : Str} {b3 : Str} {w : World} {r : (Str × UInt8)} (hr : ant fu b6 b3 = some r) (hG : Gl w) : CR Tryz.prog 25 [(str b6), (str b3)] w fun v w' => v = (Value.tuple #[(str r.1), (bt r.2)]) ∧ Hp w [] [] w' := by
  have hH : Hp w [] [] w := Hp.refl w
  refine enter (k := 56) Tryz.func25 rfl rfl (Nat.le_of_ble_eq_true rfl) ?_
  unfold ant at hr
  refine sr (wp 2 (nq (sr (wp 1 (bi hr fun y1 c2 hr => wc ent34 hH (K_L_header_Canon c2 (hG.hp0 hH)) fun w3 b4 => ?_)))))
  refine wp 5 (nq (cs (sr (wp 1 (aec y1.2 (0 : UInt8) (by kernel_rfl) (by kernel_rfl) (nq (cn hr (fun h6 hr => ?_) (fun h6 hr => ?_))))))))
  refine sr (wp 2 (nq (ct (st ?_))))
  obtain rfl := oi hr
  exact rv b4.kp
  refine ck (qn (cs (sr (wp 1 (bi hr fun y7 c3 hr => wc ent78 b4 (K_L_header_many c3 (hG.hp0 b4)) fun w9 b1 => wp 1 (wl ?_))))))
  refine qn (cb hr (fun c4 hr => ?_) (fun c4 hr => ?_))
  refine sr (wp 2 (bi hr fun e3 c5 hr => wc ent79 b1 (K_L_header_tidy c5 (hG.hp0 b1)) fun e4 c6 => wp 4 (nq (ct (st ?_)))))
  obtain rfl := oi hr
  exact rv c6.kp
  refine ck (qn (sr (wp 1 (bi hr fun a6 c7 hr => aad 31 #[] [(str b3)] _ ent31 (by kernel_rfl) (by kernel_rfl) (K_L_header_List c7 (hG.hp0 b1)) ?_))))
  rintro _ c8 ⟨a8, a2, a3, rfl, b7⟩
  have b8 : Hp w [] [rwt eS 9 1 a8 a2 a3 a6.1] c8 := Hp.callK (L1 := []) (L2 := []) b1 b7; clear b7
  refine wp 5 (nq (cs (sr (wp 1 (aec a6.2 (0 : UInt8) (by kernel_rfl) (by kernel_rfl) (nq (cn hr (fun c9 hr => ?_) (fun c9 hr => ?_))))))))
  refine sr (wp 3 (nq (ct (st ?_))))
  obtain rfl := oi hr
  exact rv b8.kp
  refine ck (qn (bi hr fun b9 d0 hr => cut (σ := (List Str)) [4, 5, 8] (fun a5 => [(8, (Vs a2 a5.length a3))]) (fun a5 w' => Hp w [] [rwt eS 9 1 a8 a2 a3 a5] w' ∧ a5.length = a6.1.length ∧ .inl a5 = b9) ?_ ?_))
  refine sr (wp 3 (nq (ce (lpG (σ := Nat × (List Str) × Int) [4, 5, 6, 8, 34, 35, 36] (fun ⟨a7, a1, a4⟩ => [(8, (Vs a2 a1.length a3)), (34, (Vs a2 a1.length a3)), (36, (Vi .i64 a4))]) (fun ⟨a7, a1, a4⟩ w' => Hp w [] [rwt eS 9 1 a8 a2 a3 a1] w' ∧ a1.length = a6.1.length ∧ ajg fu y1 a6 a7 a1 a4 = some b9) (fun ⟨a7, a1, a4⟩ => a7) (fu, a6.1, (0 : Int)) (by exact ⟨b8.kp, (by (try simp only [List.length_set]) <;> first | rfl | omega), d0⟩) ?_))))
  rintro ⟨_ | a7, a1, a4⟩ e5 G ⟨a9, e6, a0⟩
  · exact absurd (show none = some _ from a0) (by simp)
  rw [ajg.eq_2] at a0
  refine sr (wp 1 (nq (cs (cd a0 (fun d1 a0 => ?_) (fun d1 a0 => ?_)))))
  refine ck (qn (cs (ce (sr (wp 1 (gi a0 fun d2 a0 => aht a2 a1.length a3 9 1 .i64 a4 Tryz.underlying54 (by kernel_rfl) (by kernel_rfl) (by kernel_rfl) a1 rfl d2 (a9.rdrw 0 rfl) enc_S (by decide) (gi a0 fun d3 a0 => ?_)))))))
  refine w_ldE1 a2 eS a1 1 a4 enc_S (a9.rdrw 0 rfl) (str (el a1 a4)) d3 (by decide) (by kernel_rfl) (by kernel_rfl) (by kernel_rfl) (wp 2 (nq (sr (wp 4 (bi a0 fun b0 d4 a0 => wc ent79 a9 (K_L_header_tidy d4 (hG.hp0 a9)) fun e7 c0 => wp 3 ?_)))))
  refine gi a0 fun d5 a0 => aht a2 a1.length a3 9 1 .i64 a4 Tryz.underlying54 (by kernel_rfl) (by kernel_rfl) (by kernel_rfl) a1 rfl d5 (c0.rdrw 0 rfl) enc_S (by decide) (gi a0 fun d6 a0 => w_stE1 c0 0 a8 a2 a3 9 a4 a1 b0.1 rfl enc_S (str b0.1) d6 (by kernel_rfl) (by kernel_rfl) (by kernel_rfl) (by kernel_rfl) fun d7 b2 => ?_)
  replace b2 : Hp w [] [rwt eS 9 1 a8 a2 a3 (List.set a1 (Int.toNat a4) b0.1)] d7 := b2
  refine wp 1 (nq (sr (wp 1 (aec b0.2 (0 : UInt8) (by kernel_rfl) (by kernel_rfl) (nq (cn a0 (fun d8 a0 => ?_) (fun d8 a0 => ?_)))))))
  refine sr (wp 3 (nq (ct (bt_ (st (acp (bt_ ?_)))))))
  refine acp ?_
  obtain rfl := oi a0
  obtain rfl := oi hr
  exact rv b2.kp
  refine ck (bn (qn (cr (gi a0 fun d9 a0 => aac a4 (1 : Int) (by kernel_rfl) (by kernel_rfl) d9 (wp 1 (wl (ql ?_)))))))
  exact ⟨(a7, List.set a1 (Int.toNat a4) b0.1, a4 + (1 : Int)), _, rfl, (mc (by kernel_rfl) (mc (by kernel_rfl) (mc (by kernel_rfl) (mc (Eq.trans (b := (Vs a2 a1.length a3)) (by kernel_rfl) (aae (by (try simp only [List.length_set]) <;> first | rfl | omega | simp))) (mc (Eq.trans (b := (Vs a2 a1.length a3)) (by kernel_rfl) (aae (by (try simp only [List.length_set]) <;> first | rfl | omega | simp))) (mc (by kernel_rfl) (mc (by kernel_rfl) rfl))))))), ⟨b2.kp, (by (try simp only [List.length_set]) <;> first | rfl | omega), a0⟩, Nat.lt_succ_self _⟩
  refine ach (acg (acq (aci (ql ?_))))
  obtain rfl := oi a0
  exact ⟨a1, _, rfl, by kernel_rfl, a9.kp, (by (try simp only [List.length_set]) <;> first | rfl | omega), rfl⟩
  rintro a5 e0 G ⟨b5, e8, rfl⟩
  refine sr (wp 1 (gi hr fun e1 hr => aad 80 #[] [(Vs a2 a5.length a3), (str ([44, 32] : Str))] _ ent80 (by kernel_rfl) (by kernel_rfl) (sh_Join ([44, 32] : Str) e0 a2 a5.length a3 a5 rfl (b5.rdrw 0 rfl) (b5.rwcap 0 rfl) e1) ?_))
  rintro _ e9 ⟨rfl, c1⟩
  have e2 := b5.call c1; clear c1
  refine wp 2 (nq (ct ?_))
  obtain rfl := oi hr
  exact rv e2.kp
theorem amk {fu : Nat} {w : World} {r : Bool} (hr : ajf fu = some r) (hG : Gl w) : CR Tryz.prog 14 [] w fun v w' => v = (Vb r) ∧ Hp w [] [] w' := by
  have hH : Hp w [] [] w := Hp.refl w
  refine enter (k := 77) Tryz.func14 rfl rfl (Nat.le_of_ble_eq_true rfl) ?_
  unfold ajf at hr
  refine sr (wp 1 (nq (sr (bi hr fun y1 b3 hr => wc ent34 hH (K_L_header_Canon b3 (hG.hp0 hH)) fun w3 a7 => wp 5 ?_))))
  refine nq (sr (bi hr fun y6 b4 hr => wc ent25 a7 (K_L_header_Tidy b4 (hG.hp0 a7)) fun w8 a8 => wp 5 (nq (cs ?_))))
  refine cr (bi hr fun a1 b5 hr => aad 15 #[] [(str ([115, 105, 112, 47, 50, 46, 48, 47, 117, 100, 112, 32, 104, 58, 53, 48, 54, 48, 59, 98, 114, 97, 110, 99, 104, 61, 122, 57] : Str))] _ ent15 (by kernel_rfl) (by kernel_rfl) (K_L_header_Via b5 (hG.hp0 a8)) ?_)
  rintro _ b6 ⟨a9, a3, a4, rfl, b0⟩
  have b7 : Hp w [] [rwt aaa 46 3 a9 a3 a4 a1.1.2.2.2.2] b6 := Hp.callK (L1 := []) (L2 := []) a8 b0; clear b0
  refine wp 3 (adl b7 [(str ([] : Str)), (str ([] : Str)), (Vi .i64 (0 : Int)), (str ([] : Str)), (Vs none 0 0)] 24 (fun b => (Vp (some ⟨b, 0, none⟩))) rfl rfl (by kernel_rfl) fun a5 d3 b8 => aff b8 0 a5 0 [(str ([] : Str)), (str ([] : Str)), (Vi .i64 (0 : Int)), (str ([] : Str)), (Vs none 0 0)] [(str a1.1.1), (str a1.1.2.1), (Vi .i64 a1.1.2.2.1), (str a1.1.2.2.2.1), (Vs a3 a1.1.2.2.2.2.length a4)] 24 [blk a5 [(str a1.1.1), (str a1.1.2.1), (Vi .i64 a1.1.2.2.1), (str a1.1.2.2.2.1), (Vs a3 a1.1.2.2.2.2.length a4)] 24, rwt aaa 46 3 a9 a3 a4 a1.1.2.2.2.2] rfl (Nat.le_of_ble_eq_true rfl) (by kernel_rfl) (by kernel_rfl) rfl (by kernel_rfl) rfl fun d4 b1 => wp 1 (nq (sr (bi hr fun b2 b9 hr => wc ent32 b1 (akq b9 (hG.hp0 b1)) fun d5 a2 => ?_))))
  refine wp 7 (nq (bi hr fun c0 a0 hr => cut (σ := Bool) [0] (fun a6 => [(0, (Vb a6))]) (fun a6 w' => Hp w [] [] w' ∧ a6 = c0) ?_ ?_))
  refine cr (wp 1 (ack y1.2 (0 : UInt8) (by kernel_rfl) (by kernel_rfl) (wd a0 (fun c1 a0 => ?_) (fun c1 a0 => ?_))))
  refine wp 3 (wd a0 (fun c2 a0 => ?_) (fun c2 a0 => ?_))
  refine wp 1 (gy 33 (ack y6.2 (0 : UInt8) (by kernel_rfl) (by kernel_rfl) (wp 1 (wd a0 (fun c3 a0 => ?_) (fun c3 a0 => ?_)))))
  refine wp 3 (wd a0 (fun c4 a0 => ?_) (fun c4 a0 => ?_))
  refine wp 1 (gy 41 (ack a1.2 (0 : UInt8) (by kernel_rfl) (by kernel_rfl) (wp 1 (wd a0 (fun c5 a0 => ?_) (fun c5 a0 => ?_)))))
  refine wp 1 (gy 45 (aav a2 0 a5 0 [(str a1.1.1), (str a1.1.2.1), (Vi .i64 a1.1.2.2.1), (str a1.1.2.2.2.1), (Vs a3 a1.1.2.2.2.2.length a4)] 24 (str a1.1.1) rfl rfl (by kernel_rfl) (by kernel_rfl) (wp 2 (wd a0 (fun c6 a0 => ?_) (fun c6 a0 => ?_)))))
  refine wp 1 (gy 50 (aav a2 0 a5 1 [(str a1.1.1), (str a1.1.2.1), (Vi .i64 a1.1.2.2.1), (str a1.1.2.2.2.1), (Vs a3 a1.1.2.2.2.2.length a4)] 24 (str a1.1.2.1) rfl rfl (by kernel_rfl) (by kernel_rfl) (wp 2 (wd a0 (fun c7 a0 => ?_) (fun c7 a0 => ?_)))))
  refine wp 1 (gy 55 (aav a2 0 a5 2 [(str a1.1.1), (str a1.1.2.1), (Vi .i64 a1.1.2.2.1), (str a1.1.2.2.2.1), (Vs a3 a1.1.2.2.2.2.length a4)] 24 (Vi .i64 a1.1.2.2.1) rfl rfl (by kernel_rfl) (by kernel_rfl) (wp 2 (wd a0 (fun c8 a0 => ?_) (fun c8 a0 => ?_)))))
  refine wp 1 (gy 60 (aav a2 0 a5 3 [(str a1.1.1), (str a1.1.2.1), (Vi .i64 a1.1.2.2.1), (str a1.1.2.2.2.1), (Vs a3 a1.1.2.2.2.2.length a4)] 24 (str a1.1.2.2.2.1) rfl rfl (by kernel_rfl) (by kernel_rfl) (wp 2 (wd a0 (fun c9 a0 => ?_) (fun c9 a0 => ?_)))))
  refine wp 3 (wd a0 (fun d0 a0 => ?_) (fun d0 a0 => ?_))
  refine wp 3 (wd a0 (fun d1 a0 => ?_) (fun d1 a0 => ?_))
  refine wp 1 (gy 73 (ack b2.2.2 (0 : UInt8) (by kernel_rfl) (by kernel_rfl) (wp 2 (wl (ql ?_)))))
  obtain rfl := oi a0
  exact ⟨(decide (b2.2.2 = (0 : UInt8))), _, rfl, by kernel_rfl, a2.kp, rfl⟩
  refine wp 4 (wl (ql ?_))
  obtain rfl := oi a0
  exact ⟨false, _, rfl, by kernel_rfl, a2.kp, rfl⟩
  refine wp 8 (wl (ql ?_))
  obtain rfl := oi a0
  exact ⟨false, _, rfl, by kernel_rfl, a2.kp, rfl⟩
  refine wp 12 (wl (ql ?_))
  obtain rfl := oi a0
  exact ⟨false, _, rfl, by kernel_rfl, a2.kp, rfl⟩
  refine wp 17 (wl (ql ?_))
  obtain rfl := oi a0
  exact ⟨false, _, rfl, by kernel_rfl, a2.kp, rfl⟩
  refine wp 22 (wl (ql ?_))
  obtain rfl := oi a0
  exact ⟨false, _, rfl, by kernel_rfl, a2.kp, rfl⟩
  refine wp 27 (wl (ql ?_))
  obtain rfl := oi a0
  exact ⟨false, _, rfl, by kernel_rfl, a2.kp, rfl⟩
  refine wp 32 (wl (ql ?_))
  obtain rfl := oi a0
  exact ⟨false, _, rfl, by kernel_rfl, a2.kp, rfl⟩
  refine wp 36 (wl (ql ?_))
  obtain rfl := oi a0
  exact ⟨false, _, rfl, by kernel_rfl, a2.kp, rfl⟩
  refine wp 40 (wl (ql ?_))
  obtain rfl := oi a0
  exact ⟨false, _, rfl, by kernel_rfl, a2.kp, rfl⟩
  refine wp 44 (wl (ql ?_))
  obtain rfl := oi a0
  exact ⟨false, _, rfl, by kernel_rfl, a2.kp, rfl⟩
  refine wp 48 (wl (ql ?_))
  obtain rfl := oi a0
  exact ⟨false, _, rfl, by kernel_rfl, a2.kp, rfl⟩
  rintro a6 d6 G ⟨d2, rfl⟩
  refine ct ?_
  obtain rfl := oi hr
  exact rv d2.kp
end Go.Proofs
set_option linter.unusedVariables false
set_option linter.unusedSimpArgs false
set_option maxRecDepth 20000
set_option maxHeartbeats 1000000
namespace Go.Proofs
open Go.Wk Go.Px
end Go.Proofs
set_option linter.unusedVariables false
set_option linter.unusedSimpArgs false
set_option maxRecDepth 20000
set_option maxHeartbeats 1000000
namespace Go.Proofs
open Go.Wk Go.Px
open Go.Value renaming slice → Vs, int → Vi, bool → Vb, pointer → Vp
theorem ent30 : Go.Wk.Enters Tryz.prog 30 := ⟨Tryz.f30, _, Tryz.func30, rfl, by kernel_rfl⟩
theorem ahq : ∀ {fu : Nat} {a0 : Int} {w : World} {r : Str} (hr : ads fu a0 = some r) (hG : Gl w), CR Tryz.prog 30 [(Vi .i64 a0)] w fun v w' => v = (str r) ∧ Hp w [] [] w' := by
  intro fu
  induction fu with
  | zero =>
    intro a0 w r hr hG
    exact absurd (show none = some _ from hr) (by simp)
  | succ fu ih =>
  intro a0 w r hr hG
  have hH : Hp w [] [] w := Hp.refl w
  refine enter (k := 19) Tryz.func30 rfl rfl (Nat.le_of_ble_eq_true rfl) ?_
  rw [ads.eq_2] at hr
  refine sr (wp 1 (nq (cs (sr (wp 2 (wl ?_))))))
  refine qn (cd hr (fun h1 hr => ?_) (fun h1 hr => ?_))
  refine sr (wp 2 (gi hr fun g2 hr => aac a0 (1 : Int) (by kernel_rfl) (by kernel_rfl) g2 (gi hr fun g3 hr => amd ([48, 49, 50, 51, 52, 53, 54, 55, 56, 57] : Str) .i64 .i64 a0 (a0 + (1 : Int)) Tryz.underlying9 (by kernel_rfl) (by kernel_rfl) (by kernel_rfl) g3 (wp 1 (nq ?_)))))
  refine ct (st ?_)
  obtain rfl := oi hr
  exact rv hH.kp
  refine ck (qn (cs (gi hr fun g4 hr => bi hr fun y5 a2 hr => gi hr fun a3 hr => gi hr fun a4 hr => gi hr fun a5 hr => gi hr fun a6 hr => cdr 9 hH (adb acf) fun a9 a1 => ?_)))
  refine rp 8 [0] (rt 1 (Vi .i64 (a0 / (10 : Int))) rfl rfl (aai rfl (by intro w hS_; exact (x_quoT a0 (10 : Int) (by kernel_rfl) (by kernel_rfl) g4))) (rp 6 [3] (rt 4 (Vi .i64 (a0 % (10 : Int))) rfl rfl (aai rfl (by intro w hS_; exact (x_remT a0 (10 : Int) (by kernel_rfl) (by kernel_rfl) a3))) (rp 4 [5] (rt 6 (Vi .i64 (a0 % (10 : Int))) rfl rfl (aai rfl (by intro w hS_; exact (x_remT a0 (10 : Int) (by kernel_rfl) (by kernel_rfl) a4))) (rt 7 (Vi .i64 ((a0 % (10 : Int)) + (1 : Int))) rfl rfl (aai rfl (by intro w hS_; exact (aiv (a0 % (10 : Int)) (1 : Int) (by kernel_rfl) (by kernel_rfl) a5))) (rt 8 (str (sub ([48, 49, 50, 51, 52, 53, 54, 55, 56, 57] : Str) (a0 % (10 : Int)) ((a0 % (10 : Int)) + (1 : Int)))) rfl rfl (aai rfl (by intro w hS_; exact (x_slice ([48, 49, 50, 51, 52, 53, 54, 55, 56, 57] : Str) .i64 .i64 (a0 % (10 : Int)) ((a0 % (10 : Int)) + (1 : Int)) Tryz.underlying9 (by kernel_rfl) (by kernel_rfl) (by kernel_rfl) a6))) (ro 2 rfl (wc ent30 a1 (ih a2 (hG.hp0 a1)) fun w7 a7 => ?_)))))))))
  refine wl (abk (by exact trivial) (acw (by kernel_rfl) (gi hr fun a8 hr => abn y5 (sub ([48, 49, 50, 51, 52, 53, 54, 55, 56, 57] : Str) (a0 % (10 : Int)) ((a0 % (10 : Int)) + (1 : Int))) (by kernel_rfl) (by kernel_rfl) a8 (wp 1 (nq (ct ?_))))))
  obtain rfl := oi hr
  exact rv a7.kp
theorem ang {fu : Nat} {a0 : List Int} {c1 : UInt8} (a4 : Option Addr) (d0 : Nat) (b5 : Nat) {w : World} {r : Bool} (hr : afg fu a0 c1 = some r) (hG : Gl w) (e9 : d0 = a0.length) (b2 : Rd w a4 (List.flatMap (eI .u16) a0)) (m7 : d0 ≤ b5) : CR Tryz.prog 8 [(Vs a4 d0 b5), (bt c1)] w fun v w' => v = (Vb r) ∧ Hp w [] [] w' := by
  subst e9
  have hH : Hp w [] [] w := Hp.refl w
  refine enter (k := 172) Tryz.func8 rfl rfl (Nat.le_of_ble_eq_true rfl) ?_
  unfold afg at hr
  refine sr (wp 1 (nq (cs (sr (wp 3 (wl ?_))))))
  refine qn (cd hr (fun h1 hr => ?_) (fun h1 hr => ?_))
  refine sr (bi hr fun y2 f0 hr => wc ent14 hH (amk f0 (hG.hp0 hH)) fun w4 f1 => wp 1 (nq (ct (st ?_))))
  obtain rfl := oi hr
  exact rv f1.kp
  refine ck (qn (sr (wp 1 (nq (bi hr fun a5 f2 hr => agq hH [0, 4, 5] [(5, (str a5))] ?_ ?_)))))
  refine sr (wp 1 (nq (ce (lpS (fun d3 ⟨b6, b7⟩ => acn fu c1 d3 b6 b7) (([] : Str), (0 : Int)) hH f2 [0, 1, 4, 5, 6] (fun ⟨b6, b7⟩ => [(5, (str b6)), (6, (Vi .i64 b7))]) (fun _ => rfl) ?_))))
  rintro d3 ⟨b6, b7⟩ m8 G d4 a7
  dsimp only at a7
  rw [acn.eq_2] at a7
  refine cs (sr (wp 2 (w_convx .i64 .u8 (c1.toNat : Int) Tryz.underlying5 Tryz.underlying3 (by kernel_rfl) (wrap_u8_i64 _) (gi a7 fun f3 a7 => w_remT (c1.toNat : Int) (4 : Int) (by kernel_rfl) (by kernel_rfl) f3 (wp 1 (nq (cd a7 (fun f4 a7 => ?_) (fun f4 a7 => ?_))))))))
  refine ck (qn (cs (ce (cr (wp 1 (gi a7 fun f5 a7 => abn b6 ([32] : Str) (by kernel_rfl) (by kernel_rfl) f5 (wp 1 (wl ?_))))))))
  exact bn (qn (cr (wp 1 (gi a7 fun f6 a7 => aac b7 (1 : Int) (by kernel_rfl) (by kernel_rfl) f6 (wp 1 (wl (ql (le' (b6 ++ ([32] : Str), b7 + (1 : Int)) d4.kp a7))))))))
  refine ach (acg (acq (aci (ql ?_))))
  obtain rfl := oi a7
  exact je d4.kp
  intro m9 G d5
  refine sr (wp 1 (nq (bi hr fun d6 f7 hr => agq d5 [0, 4, 5, 7] [(7, (str d6))] ?_ ?_)))
  refine sr (wp 1 (nq (ce (lpS (fun d7 ⟨c2, b0⟩ => acm fu a0 a5 d7 c2 b0) (([] : Str), (0 : Int)) d5 f7 [0, 4, 5, 7, 8] (fun ⟨c2, b0⟩ => [(7, (str c2)), (8, (Vi .i64 b0))]) (fun _ => rfl) ?_))))
  rintro d7 ⟨c2, b0⟩ n0 G c5 a2
  dsimp only at a2
  rw [acm.eq_2] at a2
  refine cs (sr (wp 4 (nq (cd a2 (fun f8 a2 => ?_) (fun f8 a2 => ?_)))))
  refine ck (qn (cs (ce (bi a2 fun c3 b4 a2 => agq c5 [0, 4, 5, 7, 8] [(7, (str c3))] ?_ ?_))))
  refine sr (wp 2 (nq (cd b4 (fun f9 b4 => ?_) (fun f9 b4 => ?_))))
  refine cr (wp 1 (gi b4 fun g0 b4 => abn c2 ([44] : Str) (by kernel_rfl) (by kernel_rfl) g0 (wp 1 (wl (ql ?_)))))
  obtain rfl := oi b4
  exact je c5.kp
  refine ck (ql ?_)
  obtain rfl := oi b4
  exact je c5.kp
  intro n1 G c6
  refine cr (wp 2 (gi a2 fun g1 a2 => abn c3 a5 (by kernel_rfl) (by kernel_rfl) g1 (wp 2 (gi a2 fun g2 a2 => aht a4 a0.length b5 53 1 .i64 b0 Tryz.underlying51 (by kernel_rfl) (by kernel_rfl) (by kernel_rfl) a0 rfl g2 (b2.hp c6) (enc_I .u16) (by decide) (gi a2 fun g3 a2 => w_ldE1 a4 (eI .u16) a0 1 b0 (enc_I .u16) (b2.hp c6) (Vi .u16 (el a0 b0)) g3 (by decide) (by kernel_rfl) (by kernel_rfl) (by kernel_rfl) (alj .i64 .u16 (el a0 b0) Tryz.underlying53 Tryz.underlying3 (by kernel_rfl) ?_))))))
  refine bi a2 fun d1 g4 a2 => wc ent30 c6 (ahq g4 (hG.hp0 c6)) fun n2 g5 => gi a2 fun g6 a2 => abn (c3 ++ a5) d1 (by kernel_rfl) (by kernel_rfl) g6 (wp 1 (gi a2 fun g7 a2 => abn ((c3 ++ a5) ++ d1) a5 (by kernel_rfl) (by kernel_rfl) g7 (wp 1 (wl (bn ?_)))))
  exact qn (cr (wp 1 (gi a2 fun g8 a2 => aac b0 (1 : Int) (by kernel_rfl) (by kernel_rfl) g8 (wp 1 (wl (ql (le' (((c3 ++ a5) ++ d1) ++ a5, b0 + (1 : Int)) g5.kp a2)))))))
  refine ach (acg (acq (aci (ql ?_))))
  obtain rfl := oi a2
  exact je c5.kp
  intro n3 G d8
  refine sr (wp 1 (bi hr fun a8 g9 hr => aad 31 #[] [(str d6)] _ ent31 (by kernel_rfl) (by kernel_rfl) (K_L_header_List g9 (hG.hp0 d8)) ?_))
  rintro _ h0 ⟨h2, b8, d9, rfl, e0⟩
  have b3 : Hp w [] [rwt eS 9 1 h2 b8 d9 a8.1] h0 := Hp.callK (L1 := []) (L2 := []) d8 e0; clear e0
  refine wp 5 (nq (cs (sr (wp 3 (nq (cd hr (fun h3 hr => ?_) (fun h3 hr => ?_)))))))
  refine bi hr fun h4 a9 hr => agq b3 [0, 4, 5, 9, 10] [(4, (Vb h4))] ?_ ?_
  refine cr (wp 1 (ack a8.2 (5 : UInt8) (by kernel_rfl) (by kernel_rfl) (wd a9 (fun h5 a9 => ?_) (fun h5 a9 => ?_))))
  refine wp 4 (wd a9 (fun h6 a9 => ?_) (fun h6 a9 => ?_))
  refine gy 71 (bi a9 fun n4 h7 a9 => wc ent14 b3 (amk h7 (hG.hp0 b3)) fun n5 h8 => wp 2 (wl (ql ?_)))
  obtain rfl := oi a9
  exact je h8.kp
  refine wp 3 (wl (ql ?_))
  obtain rfl := oi a9
  exact je b3.kp
  refine wp 8 (wl (ql ?_))
  obtain rfl := oi a9
  exact je b3.kp
  intro n6 G h9
  refine ct (st ?_)
  obtain rfl := oi hr
  exact rv h9.kp
  refine ck (qn (cs (bi hr fun i0 c4 hr => agq b3 [0, 4, 5, 9, 82] [(82, (Vb i0))] ?_ ?_)))
  refine cr (wp 1 (aec a8.2 (0 : UInt8) (by kernel_rfl) (by kernel_rfl) (wn c4 (fun i1 c4 => ?_) (fun i1 c4 => ?_))))
  refine wp 6 (wl (ql ?_))
  obtain rfl := oi c4
  exact je b3.kp
  refine wp 6 (wl (ql ?_))
  obtain rfl := oi c4
  exact je b3.kp
  intro n7 G e1
  refine cb hr (fun i2 hr => ?_) (fun i2 hr => ?_)
  refine sr (wp 1 (nq (ct (st ?_))))
  obtain rfl := oi hr
  exact rv e1.kp
  refine ck (qn (bi hr fun i3 i4 hr => cut (σ := Unit) [0, 4, 5] (fun d2 => []) (fun d2 w' => Hp w [] [] w' ∧ .inl d2 = i3) ?_ ?_))
  refine sr (wp 1 (nq (ce (lpS (fun e2 a6 => acl fu a0 a8 e2 a6) (0 : Int) e1 i4 [0, 4, 5, 9, 11] (fun a6 => [(11, (Vi .i64 a6))]) (fun _ => rfl) ?_))))
  rintro e2 a6 n8 G e3 a3
  rw [acl.eq_2] at a3
  refine cs (sr (wp 4 (nq (cd a3 (fun i5 a3 => ?_) (fun i5 a3 => ?_)))))
  refine ck (qn (cs (ce (cs (gi a3 fun i6 a3 => gi a3 fun i7 a3 => gi a3 fun i9 a3 => gi a3 fun j0 a3 => bi a3 fun n9 j1 a3 => ?_)))))
  refine adm 10 (fun j_ w_ w_' => abv [3, 10] (fun w' => Rd w' b8 (List.flatMap eS a8.1)) j_ w_ w_' ∧ abv [10] (fun w' => Rd w' b8 (List.flatMap eS a8.1)) j_ w_ w_' ∧ abv [7, 8, 9, 10] (fun w' => Rd w' a4 (List.flatMap (eI .u16) a0)) j_ w_ w_' ∧ abv [8, 9, 10] (fun w' => Rd w' a4 (List.flatMap (eI .u16) a0)) j_ w_ w_' ∧ True) [false, false, false, false, false, false, false, false, false, false, false] (fun _ _ => ⟨abv.same, abv.same, abv.same, abv.same, trivial⟩) (by kernel_rfl) (by kernel_rfl) e3 rfl (adb (aah (adb (aal (aah (aal acf)))))) fun o0 b9 => rp 8 [0, 1] (aag [true, true, true, false, false, false, false, false, false, false, false] 2 91 (Vp (some (ea b8 (a6.toNat * 1)))) [3, 10] (fun _ _ _ h => h.1) _ rfl rfl (by kernel_rfl) (by kernel_rfl) (by kernel_rfl) (by kernel_rfl) (by kernel_rfl) rfl (aai rfl (by intro w hS_; exact (amu b8 a8.1.length d9 9 1 .i64 a6 Tryz.underlying54 (by kernel_rfl) (by kernel_rfl) (by kernel_rfl) a8.1 rfl i6 hS_ enc_S (by decide)))) (by exact (b9.rdrw 0 rfl)) (aag [true, true, true, true, false, false, false, false, false, false, false] 3 92 (str (el a8.1 a6)) [10] (fun _ _ _ h => h.2.1) _ rfl rfl (by kernel_rfl) (by kernel_rfl) (by kernel_rfl) (by kernel_rfl) (by kernel_rfl) rfl (aai rfl (by intro w hS_; exact (x_ldE1 b8 eS a8.1 1 a6 enc_S hS_ (str (el a8.1 a6)) i7 (by decide) (by kernel_rfl) (by kernel_rfl) (by kernel_rfl)))) (by exact (b9.rdrw 0 rfl)) (rp 4 [4, 5] (aag [true, true, true, true, true, true, true, false, false, false, false] 6 95 (Vp (some (ea a4 (a6.toNat * 1)))) [7, 8, 9, 10] (fun _ _ _ h => h.2.2.1) _ rfl rfl (by kernel_rfl) (by kernel_rfl) (by kernel_rfl) (by kernel_rfl) (by kernel_rfl) rfl (aai rfl (by intro w hS_; exact (amu a4 a0.length b5 53 1 .i64 a6 Tryz.underlying51 (by kernel_rfl) (by kernel_rfl) (by kernel_rfl) a0 rfl i9 hS_ (enc_I .u16) (by decide)))) (by exact (b2.hp b9)) (aag [true, true, true, true, true, true, true, true, false, false, false] 7 96 (Vi .u16 (el a0 a6)) [8, 9, 10] (fun _ _ _ h => h.2.2.2.1) _ rfl rfl (by kernel_rfl) (by kernel_rfl) (by kernel_rfl) (by kernel_rfl) (by kernel_rfl) rfl (aai rfl (by intro w hS_; exact (x_ldE1 a4 (eI .u16) a0 1 a6 (enc_I .u16) hS_ (Vi .u16 (el a0 a6)) j0 (by decide) (by kernel_rfl) (by kernel_rfl) (by kernel_rfl)))) (by exact (b2.hp b9)) (rt 8 (Vi .i64 (IntKind.wrap .i64 (el a0 a6))) rfl rfl (aai rfl (by intro w hS_; exact (x_conv .i64 .u16 (el a0 a6) Tryz.underlying53 Tryz.underlying3 (by kernel_rfl)))) (ro 9 rfl (wc ent30 b9 (ahq j1 (hG.hp0 b9)) fun o1 c7 => ?_))))))))
  refine wl (abk (by exact ⟨abv.new ((c7.rdrw 0 rfl)), abv.new ((c7.rdrw 0 rfl)), abv.out rfl, abv.out rfl, trivial⟩) (acw (by kernel_rfl) (wp 1 (nq (cn a3 (fun j2 a3 => ?_) (fun j2 a3 => ?_))))))
  refine sr (wp 1 (nq (ct (bt_ (st (acp (bt_ ?_)))))))
  refine acp ?_
  obtain rfl := oi a3
  obtain rfl := oi hr
  exact rv c7.kp
  exact ck (bn (qn (cr (wp 1 (gi a3 fun j3 a3 => aac a6 (1 : Int) (by kernel_rfl) (by kernel_rfl) j3 (wp 1 (wl (ql (le' (a6 + (1 : Int)) c7.kp a3)))))))))
  refine ach (acg (acq (aci (ql ?_))))
  obtain rfl := oi a3
  exact ⟨(), _, rfl, by kernel_rfl, e3.kp, rfl⟩
  rintro d2 o2 G ⟨j4, rfl⟩
  refine cs (gi hr fun j5 hr => gi hr fun j6 hr => gi hr fun j7 hr => gi hr fun j8 hr => gi hr fun j9 hr => adm 12 (fun j_ w_ w_' => abv [2, 3, 11, 12] (fun w' => Rd w' a4 (List.flatMap (eI .u16) a0)) j_ w_ w_' ∧ abv [3, 11, 12] (fun w' => Rd w' a4 (List.flatMap (eI .u16) a0)) j_ w_ w_' ∧ abv [9, 10, 12] (fun w' => Rd w' a4 (List.flatMap (eI .u16) a0)) j_ w_ w_' ∧ abv [10, 12] (fun w' => Rd w' a4 (List.flatMap (eI .u16) a0)) j_ w_ w_' ∧ True) [false, false, false, false, false, false, false, false, false, false, false, false, false] (fun _ _ => ⟨abv.same, abv.same, abv.same, abv.same, trivial⟩) (by kernel_rfl) (by kernel_rfl) j4 rfl (adb acf) fun o3 c0 => rp 11 [0] (aag [true, true, false, false, false, false, false, false, false, false, false, false, false] 1 101 (Vp (some (ea a4 (((0 : Int)).toNat * 1)))) [2, 3, 11, 12] (fun _ _ _ h => h.1) _ rfl rfl (by kernel_rfl) (by kernel_rfl) (by kernel_rfl) (by kernel_rfl) (by kernel_rfl) rfl (aai rfl (by intro w hS_; exact (amu a4 a0.length b5 53 1 .i64 (0 : Int) Tryz.underlying51 (by kernel_rfl) (by kernel_rfl) (by kernel_rfl) a0 rfl j5 hS_ (enc_I .u16) (by decide)))) (by exact (b2.hp c0)) (aag [true, true, true, false, false, false, false, false, false, false, false, false, false] 2 102 (Vi .u16 (el a0 (0 : Int))) [3, 11, 12] (fun _ _ _ h => h.2.1) _ rfl rfl (by kernel_rfl) (by kernel_rfl) (by kernel_rfl) (by kernel_rfl) (by kernel_rfl) rfl (aai rfl (by intro w hS_; exact (x_ldE1 a4 (eI .u16) a0 1 (0 : Int) (enc_I .u16) hS_ (Vi .u16 (el a0 (0 : Int))) j6 (by decide) (by kernel_rfl) (by kernel_rfl) (by kernel_rfl)))) (by exact (b2.hp c0)) ?_)))
  refine rt 3 (Vi .i64 (IntKind.wrap .i64 (el a0 (0 : Int)))) rfl rfl (aai rfl (by intro w hS_; exact (x_conv .i64 .u16 (el a0 (0 : Int)) Tryz.underlying53 Tryz.underlying3 (by kernel_rfl)))) (rp 5 [4, 5, 6] (rt 7 (Vi .i64 ((a0.length : Int) - (1 : Int))) rfl rfl (aai rfl (by intro w hS_; exact (akf (a0.length : Int) (1 : Int) (by kernel_rfl) (by kernel_rfl) j7))) (aag [true, true, true, true, true, true, true, true, true, false, false, false, false] 8 108 (Vp (some (ea a4 (((a0.length : Int) - (1 : Int)).toNat * 1)))) [9, 10, 12] (fun _ _ _ h => h.2.2.1) _ rfl rfl (by kernel_rfl) (by kernel_rfl) (by kernel_rfl) (by kernel_rfl) (by kernel_rfl) rfl (aai rfl (by intro w hS_; exact (amu a4 a0.length b5 53 1 .i64 ((a0.length : Int) - (1 : Int)) Tryz.underlying51 (by kernel_rfl) (by kernel_rfl) (by kernel_rfl) a0 rfl j8 hS_ (enc_I .u16) (by decide)))) (by exact (b2.hp c0)) (aag [true, true, true, true, true, true, true, true, true, true, false, false, false] 9 109 (Vi .u16 (el a0 ((a0.length : Int) - (1 : Int)))) [10, 12] (fun _ _ _ h => h.2.2.2.1) _ rfl rfl (by kernel_rfl) (by kernel_rfl) (by kernel_rfl) (by kernel_rfl) (by kernel_rfl) rfl (aai rfl (by intro w hS_; exact (x_ldE1 a4 (eI .u16) a0 1 ((a0.length : Int) - (1 : Int)) (enc_I .u16) hS_ (Vi .u16 (el a0 ((a0.length : Int) - (1 : Int)))) j9 (by decide) (by kernel_rfl) (by kernel_rfl) (by kernel_rfl)))) (by exact (b2.hp c0)) (rt 10 (Vi .i64 (IntKind.wrap .i64 (el a0 ((a0.length : Int) - (1 : Int))))) rfl rfl (aai rfl (by intro w hS_; exact (x_conv .i64 .u16 (el a0 ((a0.length : Int) - (1 : Int))) Tryz.underlying53 Tryz.underlying3 (by kernel_rfl)))) (rp 0 [11] (acw (by kernel_rfl) (wp 1 (wl ?_)))))))))
  refine qn (sr (wp 1 (gi hr fun k0 hr => abn a5 ([48, 48] : Str) (by kernel_rfl) (by kernel_rfl) k0 (wp 1 (bi hr fun c8 k1 hr => wc ent30 c0 (ahq k1 (hG.hp0 c0)) fun o4 e4 => gi hr fun k2 hr => ?_)))))
  refine abn (a5 ++ ([48, 48] : Str)) c8 (by kernel_rfl) (by kernel_rfl) k2 (gi hr fun k3 hr => abn ((a5 ++ ([48, 48] : Str)) ++ c8) ([32, 9] : Str) (by kernel_rfl) (by kernel_rfl) k3 (wp 1 (gi hr fun k4 hr => abn (((a5 ++ ([48, 48] : Str)) ++ c8) ++ ([32, 9] : Str)) a5 (by kernel_rfl) (by kernel_rfl) k4 (gi hr fun k5 hr => abn ((((a5 ++ ([48, 48] : Str)) ++ c8) ++ ([32, 9] : Str)) ++ a5) ([65, 67, 75] : Str) (by kernel_rfl) (by kernel_rfl) k5 (bi hr fun k6 k7 hr => wc ent32 e4 (akq k7 (hG.hp0 e4)) fun o5 e5 => ?_)))))
  refine wp 7 (nq (sr (wp 1 (bi hr fun c9 k8 hr => wc ent30 e5 (ahq k8 (hG.hp0 e5)) fun o6 e6 => gi hr fun k9 hr => abn c9 ([32] : Str) (by kernel_rfl) (by kernel_rfl) k9 ?_))))
  refine wp 1 (gi hr fun l0 hr => abn (c9 ++ ([32] : Str)) a5 (by kernel_rfl) (by kernel_rfl) l0 (wp 1 (bi hr fun e7 l1 hr => wc ent30 e6 (ahq l1 (hG.hp0 e6)) fun o7 e8 => gi hr fun l2 hr => abn ((c9 ++ ([32] : Str)) ++ a5) e7 (by kernel_rfl) (by kernel_rfl) l2 (gi hr fun l3 hr => abn (((c9 ++ ([32] : Str)) ++ a5) ++ e7) ([32, 80, 82, 65, 67, 75] : Str) (by kernel_rfl) (by kernel_rfl) l3 ?_))))
  refine bi hr fun l4 l5 hr => wc ent33 e8 (K_L_header_RAck l5 (hG.hp0 e8)) fun o8 b1 => wp 9 (nq (bi hr fun l6 a1 hr => agq b1 [4] [(4, (Vb l6))] ?_ ?_))
  refine cr (wp 1 (ack k6.2.2 (0 : UInt8) (by kernel_rfl) (by kernel_rfl) (wd a1 (fun l7 a1 => ?_) (fun l7 a1 => ?_))))
  refine wp 4 (wd a1 (fun l8 a1 => ?_) (fun l8 a1 => ?_))
  refine wp 3 (wd a1 (fun l9 a1 => ?_) (fun l9 a1 => ?_))
  refine wp 1 (gy 151 (ack l4.2.2.2 (0 : UInt8) (by kernel_rfl) (by kernel_rfl) (wp 1 (wd a1 (fun m0 a1 => ?_) (fun m0 a1 => ?_)))))
  refine wp 4 (wd a1 (fun m1 a1 => ?_) (fun m1 a1 => ?_))
  refine wp 4 (wd a1 (fun m2 a1 => ?_) (fun m2 a1 => ?_))
  refine wp 3 (wd a1 (fun m3 a1 => ?_) (fun m3 a1 => ?_))
  refine gy 169 (bi a1 fun o9 m4 a1 => wc ent14 b1 (amk m4 (hG.hp0 b1)) fun p0 m5 => wp 2 (wl (ql ?_)))
  obtain rfl := oi a1
  exact je m5.kp
  refine wp 3 (wl (ql ?_))
  obtain rfl := oi a1
  exact je b1.kp
  refine wp 7 (wl (ql ?_))
  obtain rfl := oi a1
  exact je b1.kp
  refine wp 12 (wl (ql ?_))
  obtain rfl := oi a1
  exact je b1.kp
  refine wp 17 (wl (ql ?_))
  obtain rfl := oi a1
  exact je b1.kp
  refine wp 21 (wl (ql ?_))
  obtain rfl := oi a1
  exact je b1.kp
  refine wp 25 (wl (ql ?_))
  obtain rfl := oi a1
  exact je b1.kp
  refine wp 30 (wl (ql ?_))
  obtain rfl := oi a1
  exact je b1.kp
  intro p1 G m6
  refine ct ?_
  obtain rfl := oi hr
  exact rv m6.kp
end Go.Proofs
