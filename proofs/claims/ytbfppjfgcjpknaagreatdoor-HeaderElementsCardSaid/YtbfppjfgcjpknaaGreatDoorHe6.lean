/-
  The law HeaderElements holds: for every list of numbers and every number of blanks the call returns true; no condition beyond the statement's own (part 6 of 8).
-/
import Derived.Test.YtbfppjfgcjpknaaGreatDoorHe5
import Derived.Test.YtbfppjfgcjpknaaGreatDoorProg
set_option linter.unusedVariables false
set_option linter.unusedSimpArgs false
set_option maxRecDepth 20000
set_option maxHeartbeats 1000000
namespace Go.Proofs
open Go.Wk Go.Px
open Go.Value renaming slice → Vs, int → Vi, bool → Vb, pointer → Vp
theorem ent28 : Go.Wk.Enters Tryz.prog 28 := ⟨Tryz.f28, _, Tryz.func28, rfl, by kernel_rfl⟩
theorem ent57 : Go.Wk.Enters Tryz.prog 57 := ⟨Tryz.f57, _, Tryz.func57, rfl, by kernel_rfl⟩
theorem ent70 : Go.Wk.Enters Tryz.prog 70 := ⟨Tryz.f70, _, Tryz.func70, rfl, by kernel_rfl⟩
theorem ent95 : Go.Wk.Enters Tryz.prog 95 := ⟨Tryz.f95, _, Tryz.func95, rfl, by kernel_rfl⟩
theorem ent99 : Go.Wk.Enters Tryz.prog 99 := ⟨Tryz.f99, _, Tryz.func99, rfl, by kernel_rfl⟩
theorem ent109 : Go.Wk.Enters Tryz.prog 109 := ⟨Tryz.f109, _, Tryz.func109, rfl, by kernel_rfl⟩
theorem ent126 : Go.Wk.Enters Tryz.prog 126 := ⟨Tryz.f126, _, Tryz.func126, rfl, by kernel_rfl⟩
theorem ent127 : Go.Wk.Enters Tryz.prog 127 := ⟨Tryz.f127, _, Tryz.func127, rfl, by kernel_rfl⟩
theorem ent155 : Go.Wk.Enters Tryz.prog 155 := ⟨Tryz.f155, _, Tryz.func155, rfl, by kernel_rfl⟩
theorem ent156 : Go.Wk.Enters Tryz.prog 156 := ⟨Tryz.f156, _, Tryz.func156, rfl, by kernel_rfl⟩
theorem ent157 : Go.Wk.Enters Tryz.prog 157 := ⟨Tryz.f157, _, Tryz.func157, rfl, by kernel_rfl⟩
theorem aij {fu : Nat} {a2 : (Unit × (List UInt8))} {a7 : UInt8} (a1 : Nat) (a6 : Bool) (a5 : Option Nat) (a3 : Option Addr) (a4 : Nat) {w : World} {r : (Unit × (Unit × (List UInt8)))} (hr : aex fu a2 a7 = some r) (hG : Gl w) (hM : Hp w (aaj [blk a1 [(Vp (bif a6 then some ⟨a1, 0, none⟩ else none)), (Vs a3 a2.2.length a4)] 131, rwt eB 5 1 a5 a3 a4 a2.2]) [blk a1 [(Vp (bif a6 then some ⟨a1, 0, none⟩ else none)), (Vs a3 a2.2.length a4)] 131, rwt eB 5 1 a5 a3 a4 a2.2] w) (hS : ∀ b ∈ aaj [blk a1 [(Vp (bif a6 then some ⟨a1, 0, none⟩ else none)), (Vs a3 a2.2.length a4)] 131, rwt eB 5 1 a5 a3 a4 a2.2], 9 ≤ b) : CR Tryz.prog 157 [(Vp (some ⟨a1, 0, none⟩)), (bt a7)] w fun v w' => ∃ (o0 : Option Nat), ∃ (a0 : Option Addr), ∃ (cap0 : Nat), v = Value.nilIface ∧ Hp w (aaj [blk a1 [(Vp (bif a6 then some ⟨a1, 0, none⟩ else none)), (Vs a3 a2.2.length a4)] 131, rwt eB 5 1 a5 a3 a4 a2.2]) [blk a1 [(Vp (some ⟨a1, 0, none⟩)), (Vs a0 r.2.2.length cap0)] 131, rwt eB 5 1 o0 a0 cap0 r.2.2] w' := by
  have hH : Hp w (aaj [blk a1 [(Vp (bif a6 then some ⟨a1, 0, none⟩ else none)), (Vs a3 a2.2.length a4)] 131, rwt eB 5 1 a5 a3 a4 a2.2]) [blk a1 [(Vp (bif a6 then some ⟨a1, 0, none⟩ else none)), (Vs a3 a2.2.length a4)] 131, rwt eB 5 1 a5 a3 a4 a2.2] w := hM
  refine enter (k := 17) Tryz.func157 rfl rfl (Nat.le_of_ble_eq_true rfl) ?_
  unfold aex at hr
  refine sr (wp 1 (nq (sr (wp 1 (aad 184 #[] [(Vp (some ⟨a1, 0, none⟩))] _ ent184 (by kernel_rfl) (by kernel_rfl) (sh_copyCheck a1 a6 (Vs a3 a2.2.length a4) w (hH.hand (L1 := [blk a1 [(Vp (bif a6 then some ⟨a1, 0, none⟩ else none)), (Vs a3 a2.2.length a4)] 131]) (L2 := [rwt eB 5 1 a5 a3 a4 a2.2]))) ?_)))))
  rintro _ w4 ⟨rfl, b2⟩
  have b3 : Hp w (aaj [blk a1 [(Vp (bif a6 then some ⟨a1, 0, none⟩ else none)), (Vs a3 a2.2.length a4)] 131, rwt eB 5 1 a5 a3 a4 a2.2]) [blk a1 [(Vp (some ⟨a1, 0, none⟩)), (Vs a3 a2.2.length a4)] 131, rwt eB 5 1 a5 a3 a4 a2.2] w4 := Hp.callK (L1 := [blk a1 [(Vp (bif a6 then some ⟨a1, 0, none⟩ else none)), (Vs a3 a2.2.length a4)] 131]) (L2 := [rwt eB 5 1 a5 a3 a4 a2.2]) hH b2; clear b2
  refine nq (sr (wp 4 (aav b3 0 a1 1 [(Vp (some ⟨a1, 0, none⟩)), (Vs a3 a2.2.length a4)] 131 (Vs a3 a2.2.length a4) rfl rfl (by kernel_rfl) (by kernel_rfl) (wp 1 (adl b3 [(bt a7)] 5 (fun b => (Vs (some ⟨b, 0, none⟩) 1 1)) rfl rfl (by kernel_rfl) fun b7 w8 b4 => gi hr fun b5 hr => adw b4 2 a5 a3 (some ⟨b7, 0, none⟩) a4 1 5 1 1 a2.2 ([a7] : List UInt8) aks rfl Tryz.underlying92 (by unfold TI; kernel_rfl) (by decide) (by decide) (by kernel_rfl) (Eq.trans (b := (Vs (some ⟨b7, 0, none⟩) 1 1)) (by kernel_rfl) (aae (by first | rfl | (simp; done) | omega | (simp; omega) | (rw [List.length_take]; omega)))) (b4.rdblk 0 rfl) b5 fun b0 a8 a9 b6 b1 => ?_)))))
  replace b1 : Hp w (aaj [blk a1 [(Vp (bif a6 then some ⟨a1, 0, none⟩ else none)), (Vs a3 a2.2.length a4)] 131, rwt eB 5 1 a5 a3 a4 a2.2]) [blk b7 [(bt a7)] 5, blk a1 [(Vp (some ⟨a1, 0, none⟩)), (Vs a3 a2.2.length a4)] 131, rwt eB 5 1 b0 a8 a9 (a2.2 ++ ([a7] : List UInt8))] b6 := b1
  refine wp 2 (aeu b1 1 a1 1 [(Vp (some ⟨a1, 0, none⟩)), (Vs a3 a2.2.length a4)] 131 (Vs a8 ((a2.2 ++ ([a7] : List UInt8)).length) a9) [blk b7 [(bt a7)] 5, blk a1 [(Vp (some ⟨a1, 0, none⟩)), (Vs a8 ((a2.2 ++ ([a7] : List UInt8)).length) a9)] 131, rwt eB 5 1 b0 a8 a9 (a2.2 ++ ([a7] : List UInt8))] rfl (Nat.lt_of_lt_of_le (Nat.lt_succ_self _) (Nat.le_of_ble_eq_true rfl)) (by kernel_rfl) (by kernel_rfl) rfl (by kernel_rfl) rfl fun b9 b8 => nq (sr (wp 1 (nq (ct ?_)))))
  obtain rfl := oi hr
  refine ana Value.nilIface rfl (by kernel_rfl) ?_
  exact ⟨b0, a8, a9, (by first | rfl | (simp; done) | (simp; omega)), (Hp.front (Hp.front b8 2 _ rfl) 2 _ rfl).kp⟩
theorem K_L_address_Print {fu : Nat} {a0 : (Str × Str × Str × Int × (List (Str × Str × Bool)) × (List (Str × Str × Bool)))} (b4 : Option Addr) (i3 : Nat) (b5 : Nat) (b6 : Option Addr) (i4 : Nat) (b7 : Nat) {w : World} {r : (Str × UInt8)} (hr : amh fu a0 = some r) (hG : Gl w) (p1 : i3 = a0.2.2.2.2.1.length) (p2 : Rd w b4 (List.flatMap aaa a0.2.2.2.2.1)) (p3 : i3 ≤ b5) (p4 : i4 = a0.2.2.2.2.2.length) (p5 : Rd w b6 (List.flatMap aaa a0.2.2.2.2.2)) (p6 : i4 ≤ b7) : CR Tryz.prog 95 [(Value.agg #[(str a0.1), (str a0.2.1), (str a0.2.2.1), (Vi .i64 a0.2.2.2.1), (Vs b4 i3 b5), (Vs b6 i4 b7)])] w fun v w' => v = (Value.tuple #[(str r.1), (bt r.2)]) ∧ Hp w [] [] w' := by
  subst p1
  subst p4
  have hH : Hp w [] [] w := Hp.refl w
  refine enter (k := 91) Tryz.func95 rfl rfl (Nat.le_of_ble_eq_true rfl) ?_
  unfold amh at hr
  refine sr (adl hH [(str a0.1), (str a0.2.1), (str a0.2.2.1), (Vi .i64 a0.2.2.2.1), (Vs b4 a0.2.2.2.2.1.length b5), (Vs b6 a0.2.2.2.2.2.length b7)] 68 (fun b => (Vp (some ⟨b, 0, none⟩))) rfl rfl (by kernel_rfl) fun b1 w2 f6 => wp 2 (nq (sr (akx f6 0 b1 0 6 [(str a0.1), (str a0.2.1), (str a0.2.2.1), (Vi .i64 a0.2.2.2.1), (Vs b4 a0.2.2.2.2.1.length b5), (Vs b6 a0.2.2.2.2.2.length b7)] [(str a0.1), (str a0.2.1), (str a0.2.2.1), (Vi .i64 a0.2.2.2.1), (Vs b4 a0.2.2.2.2.1.length b5), (Vs b6 a0.2.2.2.2.2.length b7)] 68 rfl rfl rfl (by kernel_rfl) (by kernel_rfl) (by kernel_rfl) (bi hr fun y4 p7 hr => ?_)))))
  refine aad 155 #[] [(Value.agg #[(str a0.1), (str a0.2.1), (str a0.2.2.1), (Vi .i64 a0.2.2.2.1), (Vs b4 a0.2.2.2.2.1.length b5), (Vs b6 a0.2.2.2.2.2.length b7)])] _ ent155 (by kernel_rfl) (by kernel_rfl) (K_L_address_Normal b4 a0.2.2.2.2.1.length b5 b6 a0.2.2.2.2.2.length b7 p7 (hG.hp0 f6) rfl (p2.hp f6) p3 rfl (p5.hp f6) p6) ?_
  rintro _ w6 ⟨o9, a4, a5, a8, a2, a3, rfl, l1⟩
  have p8 : Hp w [] [rwt aaa 46 3 o9 a4 a5 y4.1.2.2.2.2.1, rwt aaa 46 3 a8 a2 a3 y4.1.2.2.2.2.2, blk b1 [(str a0.1), (str a0.2.1), (str a0.2.2.1), (Vi .i64 a0.2.2.2.1), (Vs b4 a0.2.2.2.2.1.length b5), (Vs b6 a0.2.2.2.2.2.length b7)] 68] w6 := Hp.callK (L1 := []) (L2 := [blk b1 [(str a0.1), (str a0.2.1), (str a0.2.2.1), (Vi .i64 a0.2.2.2.1), (Vs b4 a0.2.2.2.2.1.length b5), (Vs b6 a0.2.2.2.2.2.length b7)] 68]) f6 l1; clear l1
  refine wp 3 (adl p8 [(str ([] : Str)), (str ([] : Str)), (str ([] : Str)), (Vi .i64 (0 : Int)), (Vs none 0 0), (Vs none 0 0)] 68 (fun b => (Vp (some ⟨b, 0, none⟩))) rfl rfl (by kernel_rfl) fun a9 y1 p9 => aff p9 0 a9 0 [(str ([] : Str)), (str ([] : Str)), (str ([] : Str)), (Vi .i64 (0 : Int)), (Vs none 0 0), (Vs none 0 0)] [(str y4.1.1), (str y4.1.2.1), (str y4.1.2.2.1), (Vi .i64 y4.1.2.2.2.1), (Vs a4 y4.1.2.2.2.2.1.length a5), (Vs a2 y4.1.2.2.2.2.2.length a3)] 68 [blk a9 [(str y4.1.1), (str y4.1.2.1), (str y4.1.2.2.1), (Vi .i64 y4.1.2.2.2.1), (Vs a4 y4.1.2.2.2.2.1.length a5), (Vs a2 y4.1.2.2.2.2.2.length a3)] 68, rwt aaa 46 3 o9 a4 a5 y4.1.2.2.2.2.1, rwt aaa 46 3 a8 a2 a3 y4.1.2.2.2.2.2, blk b1 [(str a0.1), (str a0.2.1), (str a0.2.2.1), (Vi .i64 a0.2.2.2.1), (Vs b4 a0.2.2.2.2.1.length b5), (Vs b6 a0.2.2.2.2.2.length b7)] 68] rfl (Nat.le_of_ble_eq_true rfl) (by kernel_rfl) (by kernel_rfl) rfl (by kernel_rfl) rfl fun y2 l2 => wp 1 (nq (cs (sr (wp 1 ?_)))))
  refine aec y4.2 (0 : UInt8) (by kernel_rfl) (by kernel_rfl) (nq (cn hr (fun q0 hr => ?_) (fun q0 hr => ?_)))
  refine sr (wp 3 (nq (ct (st ?_))))
  obtain rfl := oi hr
  exact rv l2.kp
  refine ck (qn (sr (adl l2 [(Vp none), (Vs none 0 0)] 131 (fun b => (Vp (some ⟨b, 0, none⟩))) rfl rfl (by kernel_rfl) fun a1 l3 l4 => nq (sr (wp 1 ?_)))))
  refine aav l4 1 a9 0 [(str y4.1.1), (str y4.1.2.1), (str y4.1.2.2.1), (Vi .i64 y4.1.2.2.2.1), (Vs a4 y4.1.2.2.2.2.1.length a5), (Vs a2 y4.1.2.2.2.2.2.length a3)] 68 (str y4.1.1) rfl rfl (by kernel_rfl) (by kernel_rfl) (gi hr fun q1 hr => abn y4.1.1 ([58] : Str) (by kernel_rfl) (by kernel_rfl) q1 ?_)
  have i5 := l4.nilrw eB 5 1 none
  replace i5 : Hp w [] [rwt eB 5 1 none none 0 ([] : List UInt8), blk a1 [(Vp none), (Vs none 0 0)] 131, blk a9 [(str y4.1.1), (str y4.1.2.1), (str y4.1.2.2.1), (Vi .i64 y4.1.2.2.2.1), (Vs a4 y4.1.2.2.2.2.1.length a5), (Vs a2 y4.1.2.2.2.2.2.length a3)] 68, rwt aaa 46 3 o9 a4 a5 y4.1.2.2.2.2.1, rwt aaa 46 3 a8 a2 a3 y4.1.2.2.2.2.2, blk b1 [(str a0.1), (str a0.2.1), (str a0.2.2.1), (Vi .i64 a0.2.2.2.1), (Vs b4 a0.2.2.2.2.1.length b5), (Vs b6 a0.2.2.2.2.2.length b7)] 68] l3 := i5
  refine bi hr fun c3 q2 hr => ?_
  have g5 : Hp w [] [blk a1 [(Vp none), (Vs none 0 0)] 131, rwt eB 5 1 none none 0 ([] : List UInt8), blk a9 [(str y4.1.1), (str y4.1.2.1), (str y4.1.2.2.1), (Vi .i64 y4.1.2.2.2.1), (Vs a4 y4.1.2.2.2.2.1.length a5), (Vs a2 y4.1.2.2.2.2.2.length a3)] 68, rwt aaa 46 3 o9 a4 a5 y4.1.2.2.2.2.1, rwt aaa 46 3 a8 a2 a3 y4.1.2.2.2.2.2, blk b1 [(str a0.1), (str a0.2.1), (str a0.2.2.1), (Vi .i64 a0.2.2.2.1), (Vs b4 a0.2.2.2.2.1.length b5), (Vs b6 a0.2.2.2.2.2.length b7)] 68] l3 := i5.front 1 _ rfl
  refine aad 126 #[] [(Vp (some ⟨a1, 0, none⟩)), (str (y4.1.1 ++ ([58] : Str)))] _ ent126 (by kernel_rfl) (by kernel_rfl) (aao a1 false none none 0 q2 (hG.hp0 g5) (g5.hand (L1 := [blk a1 [(Vp none), (Vs none 0 0)] 131, rwt eB 5 1 none none 0 ([] : List UInt8)]) (L2 := [blk a9 [(str y4.1.1), (str y4.1.2.1), (str y4.1.2.2.1), (Vi .i64 y4.1.2.2.2.1), (Vs a4 y4.1.2.2.2.2.1.length a5), (Vs a2 y4.1.2.2.2.2.2.length a3)] 68, rwt aaa 46 3 o9 a4 a5 y4.1.2.2.2.2.1, rwt aaa 46 3 a8 a2 a3 y4.1.2.2.2.2.2, blk b1 [(str a0.1), (str a0.2.1), (str a0.2.2.1), (Vi .i64 a0.2.2.2.1), (Vs b4 a0.2.2.2.2.1.length b5), (Vs b6 a0.2.2.2.2.2.length b7)] 68])) (g5.highs hG (fun _ h => absurd h (by simp)) 2 rfl)) ?_
  rintro _ i6 ⟨d6, c1, c2, rfl, l5⟩
  have e6 : Hp w [] [blk a1 [(Vp (some ⟨a1, 0, none⟩)), (Vs c1 c3.2.2.2.length c2)] 131, rwt eB 5 1 d6 c1 c2 c3.2.2.2, blk a9 [(str y4.1.1), (str y4.1.2.1), (str y4.1.2.2.1), (Vi .i64 y4.1.2.2.2.1), (Vs a4 y4.1.2.2.2.2.1.length a5), (Vs a2 y4.1.2.2.2.2.2.length a3)] 68, rwt aaa 46 3 o9 a4 a5 y4.1.2.2.2.2.1, rwt aaa 46 3 a8 a2 a3 y4.1.2.2.2.2.2, blk b1 [(str a0.1), (str a0.2.1), (str a0.2.2.1), (Vi .i64 a0.2.2.2.1), (Vs b4 a0.2.2.2.2.1.length b5), (Vs b6 a0.2.2.2.2.2.length b7)] 68] i6 := Hp.callK (L1 := [blk a1 [(Vp none), (Vs none 0 0)] 131, rwt eB 5 1 none none 0 ([] : List UInt8)]) (L2 := [blk a9 [(str y4.1.1), (str y4.1.2.1), (str y4.1.2.2.1), (Vi .i64 y4.1.2.2.2.1), (Vs a4 y4.1.2.2.2.2.1.length a5), (Vs a2 y4.1.2.2.2.2.2.length a3)] 68, rwt aaa 46 3 o9 a4 a5 y4.1.2.2.2.2.1, rwt aaa 46 3 a8 a2 a3 y4.1.2.2.2.2.2, blk b1 [(str a0.1), (str a0.2.1), (str a0.2.2.1), (Vi .i64 a0.2.2.2.1), (Vs b4 a0.2.2.2.2.1.length b5), (Vs b6 a0.2.2.2.2.2.length b7)] 68]) g5 l5; clear l5
  refine nq (bi hr fun q3 c4 hr => cut (σ := (List UInt8) × (Option Nat) × (Option Addr) × Nat) [2, 3, 4, 6] (fun ⟨d0, e7, d1, d2⟩ => []) (fun ⟨d0, e7, d1, d2⟩ w' => Hp w [] [blk a1 [(Vp (some ⟨a1, 0, none⟩)), (Vs d1 d0.length d2)] 131, blk a9 [(str y4.1.1), (str y4.1.2.1), (str y4.1.2.2.1), (Vi .i64 y4.1.2.2.2.1), (Vs a4 y4.1.2.2.2.2.1.length a5), (Vs a2 y4.1.2.2.2.2.2.length a3)] 68, rwt aaa 46 3 o9 a4 a5 y4.1.2.2.2.2.1, rwt aaa 46 3 a8 a2 a3 y4.1.2.2.2.2.2, rwt eB 5 1 e7 d1 d2 d0] w' ∧ d0 = q3) ?_ ?_)
  refine sr (wp 1 (aav e6 2 a9 0 [(str y4.1.1), (str y4.1.2.1), (str y4.1.2.2.1), (Vi .i64 y4.1.2.2.2.1), (Vs a4 y4.1.2.2.2.2.1.length a5), (Vs a2 y4.1.2.2.2.2.2.length a3)] 68 (str y4.1.1) rfl rfl (by kernel_rfl) (by kernel_rfl) (wp 1 (nq (cd c4 (fun q4 c4 => ?_) (fun q4 c4 => ?_))))))
  refine cr (wp 1 (aav e6 2 a9 1 [(str y4.1.1), (str y4.1.2.1), (str y4.1.2.2.1), (Vi .i64 y4.1.2.2.2.1), (Vs a4 y4.1.2.2.2.2.1.length a5), (Vs a2 y4.1.2.2.2.2.2.length a3)] 68 (str y4.1.2.1) rfl rfl (by kernel_rfl) (by kernel_rfl) (bi c4 fun i7 q5 c4 => ?_)))
  have q6 : Hp w [] [rwt eB 5 1 d6 c1 c2 c3.2.2.2, blk a1 [(Vp (some ⟨a1, 0, none⟩)), (Vs c1 c3.2.2.2.length c2)] 131, blk a9 [(str y4.1.1), (str y4.1.2.1), (str y4.1.2.2.1), (Vi .i64 y4.1.2.2.2.1), (Vs a4 y4.1.2.2.2.2.1.length a5), (Vs a2 y4.1.2.2.2.2.2.length a3)] 68, rwt aaa 46 3 o9 a4 a5 y4.1.2.2.2.2.1, rwt aaa 46 3 a8 a2 a3 y4.1.2.2.2.2.2, blk b1 [(str a0.1), (str a0.2.1), (str a0.2.2.1), (Vi .i64 a0.2.2.2.1), (Vs b4 a0.2.2.2.2.1.length b5), (Vs b6 a0.2.2.2.2.2.length b7)] 68] i6 := e6.front 1 _ rfl
  have g6 : Hp w [] [blk a1 [(Vp (some ⟨a1, 0, none⟩)), (Vs c1 c3.2.2.2.length c2)] 131, rwt eB 5 1 d6 c1 c2 c3.2.2.2, blk a9 [(str y4.1.1), (str y4.1.2.1), (str y4.1.2.2.1), (Vi .i64 y4.1.2.2.2.1), (Vs a4 y4.1.2.2.2.2.1.length a5), (Vs a2 y4.1.2.2.2.2.2.length a3)] 68, rwt aaa 46 3 o9 a4 a5 y4.1.2.2.2.2.1, rwt aaa 46 3 a8 a2 a3 y4.1.2.2.2.2.2, blk b1 [(str a0.1), (str a0.2.1), (str a0.2.2.1), (Vi .i64 a0.2.2.2.1), (Vs b4 a0.2.2.2.2.1.length b5), (Vs b6 a0.2.2.2.2.2.length b7)] 68] i6 := q6.front 1 _ rfl
  refine aad 126 #[] [(Vp (some ⟨a1, 0, none⟩)), (str y4.1.2.1)] _ ent126 (by kernel_rfl) (by kernel_rfl) (aao a1 true d6 c1 c2 q5 (hG.hp0 g6) (g6.hand (L1 := [blk a1 [(Vp (some ⟨a1, 0, none⟩)), (Vs c1 c3.2.2.2.length c2)] 131, rwt eB 5 1 d6 c1 c2 c3.2.2.2]) (L2 := [blk a9 [(str y4.1.1), (str y4.1.2.1), (str y4.1.2.2.1), (Vi .i64 y4.1.2.2.2.1), (Vs a4 y4.1.2.2.2.2.1.length a5), (Vs a2 y4.1.2.2.2.2.2.length a3)] 68, rwt aaa 46 3 o9 a4 a5 y4.1.2.2.2.2.1, rwt aaa 46 3 a8 a2 a3 y4.1.2.2.2.2.2, blk b1 [(str a0.1), (str a0.2.1), (str a0.2.2.1), (Vi .i64 a0.2.2.2.1), (Vs b4 a0.2.2.2.2.1.length b5), (Vs b6 a0.2.2.2.2.2.length b7)] 68])) (g6.highs hG (fun _ h => absurd h (by simp)) 2 rfl)) ?_
  rintro _ q7 ⟨l6, i9, j0, rfl, l7⟩
  have q8 : Hp w [] [blk a1 [(Vp (some ⟨a1, 0, none⟩)), (Vs i9 i7.2.2.2.length j0)] 131, rwt eB 5 1 l6 i9 j0 i7.2.2.2, blk a9 [(str y4.1.1), (str y4.1.2.1), (str y4.1.2.2.1), (Vi .i64 y4.1.2.2.2.1), (Vs a4 y4.1.2.2.2.2.1.length a5), (Vs a2 y4.1.2.2.2.2.2.length a3)] 68, rwt aaa 46 3 o9 a4 a5 y4.1.2.2.2.2.1, rwt aaa 46 3 a8 a2 a3 y4.1.2.2.2.2.2, blk b1 [(str a0.1), (str a0.2.1), (str a0.2.2.1), (Vi .i64 a0.2.2.2.1), (Vs b4 a0.2.2.2.2.1.length b5), (Vs b6 a0.2.2.2.2.2.length b7)] 68] q7 := Hp.callK (L1 := [blk a1 [(Vp (some ⟨a1, 0, none⟩)), (Vs c1 c3.2.2.2.length c2)] 131, rwt eB 5 1 d6 c1 c2 c3.2.2.2]) (L2 := [blk a9 [(str y4.1.1), (str y4.1.2.1), (str y4.1.2.2.1), (Vi .i64 y4.1.2.2.2.1), (Vs a4 y4.1.2.2.2.2.1.length a5), (Vs a2 y4.1.2.2.2.2.2.length a3)] 68, rwt aaa 46 3 o9 a4 a5 y4.1.2.2.2.2.1, rwt aaa 46 3 a8 a2 a3 y4.1.2.2.2.2.2, blk b1 [(str a0.1), (str a0.2.1), (str a0.2.2.1), (Vi .i64 a0.2.2.2.1), (Vs b4 a0.2.2.2.2.1.length b5), (Vs b6 a0.2.2.2.2.2.length b7)] 68]) g6 l7; clear l7
  refine wl (ql ?_)
  obtain rfl := oi c4
  exact ⟨(i7.2.2.2, l6, i9, j0), _, rfl, by kernel_rfl, (Hp.front (Hp.front (Hp.front (Hp.front (Hp.front q8 1 _ rfl) 4 _ rfl) 4 _ rfl) 4 _ rfl) 4 _ rfl).kp, rfl⟩
  refine sr (wp 1 (aav e6 2 a9 1 [(str y4.1.1), (str y4.1.2.1), (str y4.1.2.2.1), (Vi .i64 y4.1.2.2.2.1), (Vs a4 y4.1.2.2.2.2.1.length a5), (Vs a2 y4.1.2.2.2.2.2.length a3)] 68 (str y4.1.2.1) rfl rfl (by kernel_rfl) (by kernel_rfl) (wp 1 (nq (cn c4 (fun q9 c4 => ?_) (fun q9 c4 => ?_))))))
  refine cr (wp 1 (aav e6 2 a9 1 [(str y4.1.1), (str y4.1.2.1), (str y4.1.2.2.1), (Vi .i64 y4.1.2.2.2.1), (Vs a4 y4.1.2.2.2.2.1.length a5), (Vs a2 y4.1.2.2.2.2.2.length a3)] 68 (str y4.1.2.1) rfl rfl (by kernel_rfl) (by kernel_rfl) (bi c4 fun l8 r0 c4 => wc ent156 e6 (aha r0 (hG.hp0 e6)) fun l9 r1 => gi c4 fun r2 c4 => abn l8 ([64] : Str) (by kernel_rfl) (by kernel_rfl) r2 (bi c4 fun j1 r3 c4 => ?_))))
  have r4 : Hp w [] [rwt eB 5 1 d6 c1 c2 c3.2.2.2, blk a1 [(Vp (some ⟨a1, 0, none⟩)), (Vs c1 c3.2.2.2.length c2)] 131, blk a9 [(str y4.1.1), (str y4.1.2.1), (str y4.1.2.2.1), (Vi .i64 y4.1.2.2.2.1), (Vs a4 y4.1.2.2.2.2.1.length a5), (Vs a2 y4.1.2.2.2.2.2.length a3)] 68, rwt aaa 46 3 o9 a4 a5 y4.1.2.2.2.2.1, rwt aaa 46 3 a8 a2 a3 y4.1.2.2.2.2.2, blk b1 [(str a0.1), (str a0.2.1), (str a0.2.2.1), (Vi .i64 a0.2.2.2.1), (Vs b4 a0.2.2.2.2.1.length b5), (Vs b6 a0.2.2.2.2.2.length b7)] 68] l9 := r1.front 1 _ rfl
  have g7 : Hp w [] [blk a1 [(Vp (some ⟨a1, 0, none⟩)), (Vs c1 c3.2.2.2.length c2)] 131, rwt eB 5 1 d6 c1 c2 c3.2.2.2, blk a9 [(str y4.1.1), (str y4.1.2.1), (str y4.1.2.2.1), (Vi .i64 y4.1.2.2.2.1), (Vs a4 y4.1.2.2.2.2.1.length a5), (Vs a2 y4.1.2.2.2.2.2.length a3)] 68, rwt aaa 46 3 o9 a4 a5 y4.1.2.2.2.2.1, rwt aaa 46 3 a8 a2 a3 y4.1.2.2.2.2.2, blk b1 [(str a0.1), (str a0.2.1), (str a0.2.2.1), (Vi .i64 a0.2.2.2.1), (Vs b4 a0.2.2.2.2.1.length b5), (Vs b6 a0.2.2.2.2.2.length b7)] 68] l9 := r4.front 1 _ rfl
  refine aad 126 #[] [(Vp (some ⟨a1, 0, none⟩)), (str (l8 ++ ([64] : Str)))] _ ent126 (by kernel_rfl) (by kernel_rfl) (aao a1 true d6 c1 c2 r3 (hG.hp0 g7) (g7.hand (L1 := [blk a1 [(Vp (some ⟨a1, 0, none⟩)), (Vs c1 c3.2.2.2.length c2)] 131, rwt eB 5 1 d6 c1 c2 c3.2.2.2]) (L2 := [blk a9 [(str y4.1.1), (str y4.1.2.1), (str y4.1.2.2.1), (Vi .i64 y4.1.2.2.2.1), (Vs a4 y4.1.2.2.2.2.1.length a5), (Vs a2 y4.1.2.2.2.2.2.length a3)] 68, rwt aaa 46 3 o9 a4 a5 y4.1.2.2.2.2.1, rwt aaa 46 3 a8 a2 a3 y4.1.2.2.2.2.2, blk b1 [(str a0.1), (str a0.2.1), (str a0.2.2.1), (Vi .i64 a0.2.2.2.1), (Vs b4 a0.2.2.2.2.1.length b5), (Vs b6 a0.2.2.2.2.2.length b7)] 68])) (g7.highs hG (fun _ h => absurd h (by simp)) 2 rfl)) ?_
  rintro _ r5 ⟨m0, j2, j3, rfl, m1⟩
  have r6 : Hp w [] [blk a1 [(Vp (some ⟨a1, 0, none⟩)), (Vs j2 j1.2.2.2.length j3)] 131, rwt eB 5 1 m0 j2 j3 j1.2.2.2, blk a9 [(str y4.1.1), (str y4.1.2.1), (str y4.1.2.2.1), (Vi .i64 y4.1.2.2.2.1), (Vs a4 y4.1.2.2.2.2.1.length a5), (Vs a2 y4.1.2.2.2.2.2.length a3)] 68, rwt aaa 46 3 o9 a4 a5 y4.1.2.2.2.2.1, rwt aaa 46 3 a8 a2 a3 y4.1.2.2.2.2.2, blk b1 [(str a0.1), (str a0.2.1), (str a0.2.2.1), (Vi .i64 a0.2.2.2.1), (Vs b4 a0.2.2.2.2.1.length b5), (Vs b6 a0.2.2.2.2.2.length b7)] 68] r5 := Hp.callK (L1 := [blk a1 [(Vp (some ⟨a1, 0, none⟩)), (Vs c1 c3.2.2.2.length c2)] 131, rwt eB 5 1 d6 c1 c2 c3.2.2.2]) (L2 := [blk a9 [(str y4.1.1), (str y4.1.2.1), (str y4.1.2.2.1), (Vi .i64 y4.1.2.2.2.1), (Vs a4 y4.1.2.2.2.2.1.length a5), (Vs a2 y4.1.2.2.2.2.2.length a3)] 68, rwt aaa 46 3 o9 a4 a5 y4.1.2.2.2.2.1, rwt aaa 46 3 a8 a2 a3 y4.1.2.2.2.2.2, blk b1 [(str a0.1), (str a0.2.1), (str a0.2.2.1), (Vi .i64 a0.2.2.2.1), (Vs b4 a0.2.2.2.2.1.length b5), (Vs b6 a0.2.2.2.2.2.length b7)] 68]) g7 m1; clear m1
  refine wl (ql ?_)
  obtain rfl := oi c4
  exact ⟨(j1.2.2.2, m0, j2, j3), _, rfl, by kernel_rfl, (Hp.front (Hp.front (Hp.front (Hp.front (Hp.front r6 1 _ rfl) 4 _ rfl) 4 _ rfl) 4 _ rfl) 4 _ rfl).kp, rfl⟩
  refine ck (ql ?_)
  obtain rfl := oi c4
  exact ⟨(c3.2.2.2, d6, c1, c2), _, rfl, by kernel_rfl, (Hp.front (Hp.front (Hp.front (Hp.front (Hp.front e6 1 _ rfl) 4 _ rfl) 4 _ rfl) 4 _ rfl) 4 _ rfl).kp, rfl⟩
  rintro ⟨d0, e7, d1, d2⟩ m2 G ⟨m3, rfl⟩
  refine sr (wp 1 (aav m3 1 a9 2 [(str y4.1.1), (str y4.1.2.1), (str y4.1.2.2.1), (Vi .i64 y4.1.2.2.2.1), (Vs a4 y4.1.2.2.2.2.1.length a5), (Vs a2 y4.1.2.2.2.2.2.length a3)] 68 (str y4.1.2.2.1) rfl rfl (by kernel_rfl) (by kernel_rfl) (bi hr fun e1 r7 hr => ?_)))
  have r8 : Hp w [] [rwt eB 5 1 e7 d1 d2 d0, blk a1 [(Vp (some ⟨a1, 0, none⟩)), (Vs d1 d0.length d2)] 131, blk a9 [(str y4.1.1), (str y4.1.2.1), (str y4.1.2.2.1), (Vi .i64 y4.1.2.2.2.1), (Vs a4 y4.1.2.2.2.2.1.length a5), (Vs a2 y4.1.2.2.2.2.2.length a3)] 68, rwt aaa 46 3 o9 a4 a5 y4.1.2.2.2.2.1, rwt aaa 46 3 a8 a2 a3 y4.1.2.2.2.2.2] m2 := m3.front 4 _ rfl
  have g8 : Hp w [] [blk a1 [(Vp (some ⟨a1, 0, none⟩)), (Vs d1 d0.length d2)] 131, rwt eB 5 1 e7 d1 d2 d0, blk a9 [(str y4.1.1), (str y4.1.2.1), (str y4.1.2.2.1), (Vi .i64 y4.1.2.2.2.1), (Vs a4 y4.1.2.2.2.2.1.length a5), (Vs a2 y4.1.2.2.2.2.2.length a3)] 68, rwt aaa 46 3 o9 a4 a5 y4.1.2.2.2.2.1, rwt aaa 46 3 a8 a2 a3 y4.1.2.2.2.2.2] m2 := r8.front 1 _ rfl
  refine aad 126 #[] [(Vp (some ⟨a1, 0, none⟩)), (str y4.1.2.2.1)] _ ent126 (by kernel_rfl) (by kernel_rfl) (aao a1 true e7 d1 d2 r7 (hG.hp0 g8) (g8.hand (L1 := [blk a1 [(Vp (some ⟨a1, 0, none⟩)), (Vs d1 d0.length d2)] 131, rwt eB 5 1 e7 d1 d2 d0]) (L2 := [blk a9 [(str y4.1.1), (str y4.1.2.1), (str y4.1.2.2.1), (Vi .i64 y4.1.2.2.2.1), (Vs a4 y4.1.2.2.2.2.1.length a5), (Vs a2 y4.1.2.2.2.2.2.length a3)] 68, rwt aaa 46 3 o9 a4 a5 y4.1.2.2.2.2.1, rwt aaa 46 3 a8 a2 a3 y4.1.2.2.2.2.2])) (g8.highs hG (fun _ h => absurd h (by simp)) 2 rfl)) ?_
  rintro _ m4 ⟨e9, d7, d8, rfl, m5⟩
  have f7 : Hp w [] [blk a1 [(Vp (some ⟨a1, 0, none⟩)), (Vs d7 e1.2.2.2.length d8)] 131, rwt eB 5 1 e9 d7 d8 e1.2.2.2, blk a9 [(str y4.1.1), (str y4.1.2.1), (str y4.1.2.2.1), (Vi .i64 y4.1.2.2.2.1), (Vs a4 y4.1.2.2.2.2.1.length a5), (Vs a2 y4.1.2.2.2.2.2.length a3)] 68, rwt aaa 46 3 o9 a4 a5 y4.1.2.2.2.2.1, rwt aaa 46 3 a8 a2 a3 y4.1.2.2.2.2.2] m4 := Hp.callK (L1 := [blk a1 [(Vp (some ⟨a1, 0, none⟩)), (Vs d1 d0.length d2)] 131, rwt eB 5 1 e7 d1 d2 d0]) (L2 := [blk a9 [(str y4.1.1), (str y4.1.2.1), (str y4.1.2.2.1), (Vi .i64 y4.1.2.2.2.1), (Vs a4 y4.1.2.2.2.2.1.length a5), (Vs a2 y4.1.2.2.2.2.2.length a3)] 68, rwt aaa 46 3 o9 a4 a5 y4.1.2.2.2.2.1, rwt aaa 46 3 a8 a2 a3 y4.1.2.2.2.2.2]) g8 m5; clear m5
  refine nq (bi hr fun r9 e2 hr => cut (σ := (List UInt8) × (Option Nat) × (Option Addr) × Nat) [2, 3, 4, 6] (fun ⟨f2, g9, f8, f9⟩ => []) (fun ⟨f2, g9, f8, f9⟩ w' => Hp w [] [blk a1 [(Vp (some ⟨a1, 0, none⟩)), (Vs f8 f2.length f9)] 131, blk a9 [(str y4.1.1), (str y4.1.2.1), (str y4.1.2.2.1), (Vi .i64 y4.1.2.2.2.1), (Vs a4 y4.1.2.2.2.2.1.length a5), (Vs a2 y4.1.2.2.2.2.2.length a3)] 68, rwt aaa 46 3 o9 a4 a5 y4.1.2.2.2.2.1, rwt aaa 46 3 a8 a2 a3 y4.1.2.2.2.2.2, rwt eB 5 1 g9 f8 f9 f2] w' ∧ f2 = r9) ?_ ?_)
  refine sr (wp 1 (aav f7 2 a9 3 [(str y4.1.1), (str y4.1.2.1), (str y4.1.2.2.1), (Vi .i64 y4.1.2.2.2.1), (Vs a4 y4.1.2.2.2.2.1.length a5), (Vs a2 y4.1.2.2.2.2.2.length a3)] 68 (Vi .i64 y4.1.2.2.2.1) rfl rfl (by kernel_rfl) (by kernel_rfl) (wp 1 (nq (cn e2 (fun s0 e2 => ?_) (fun s0 e2 => ?_))))))
  refine cr (wp 1 (aav f7 2 a9 3 [(str y4.1.1), (str y4.1.2.1), (str y4.1.2.2.1), (Vi .i64 y4.1.2.2.2.1), (Vs a4 y4.1.2.2.2.2.1.length a5), (Vs a2 y4.1.2.2.2.2.2.length a3)] 68 (Vi .i64 y4.1.2.2.2.1) rfl rfl (by kernel_rfl) (by kernel_rfl) (gi e2 fun s1 e2 => aad 72 #[] [(Vi .i64 y4.1.2.2.2.1)] _ ent72 (by kernel_rfl) (by kernel_rfl) (sh_Itoa y4.1.2.2.2.1 m4 s1 (hG.hp0 f7)) ?_)))
  rintro _ m6 ⟨rfl, m7⟩
  have s2 := f7.call m7; clear m7
  refine gi e2 fun s3 e2 => abn ([58] : Str) (Lib.itoa y4.1.2.2.2.1) (by kernel_rfl) (by kernel_rfl) s3 (bi e2 fun j4 s4 e2 => ?_)
  have s5 : Hp w [] [rwt eB 5 1 e9 d7 d8 e1.2.2.2, blk a1 [(Vp (some ⟨a1, 0, none⟩)), (Vs d7 e1.2.2.2.length d8)] 131, blk a9 [(str y4.1.1), (str y4.1.2.1), (str y4.1.2.2.1), (Vi .i64 y4.1.2.2.2.1), (Vs a4 y4.1.2.2.2.2.1.length a5), (Vs a2 y4.1.2.2.2.2.2.length a3)] 68, rwt aaa 46 3 o9 a4 a5 y4.1.2.2.2.2.1, rwt aaa 46 3 a8 a2 a3 y4.1.2.2.2.2.2] m6 := s2.front 1 _ rfl
  have h0 : Hp w [] [blk a1 [(Vp (some ⟨a1, 0, none⟩)), (Vs d7 e1.2.2.2.length d8)] 131, rwt eB 5 1 e9 d7 d8 e1.2.2.2, blk a9 [(str y4.1.1), (str y4.1.2.1), (str y4.1.2.2.1), (Vi .i64 y4.1.2.2.2.1), (Vs a4 y4.1.2.2.2.2.1.length a5), (Vs a2 y4.1.2.2.2.2.2.length a3)] 68, rwt aaa 46 3 o9 a4 a5 y4.1.2.2.2.2.1, rwt aaa 46 3 a8 a2 a3 y4.1.2.2.2.2.2] m6 := s5.front 1 _ rfl
  refine aad 126 #[] [(Vp (some ⟨a1, 0, none⟩)), (str (([58] : Str) ++ (Lib.itoa y4.1.2.2.2.1)))] _ ent126 (by kernel_rfl) (by kernel_rfl) (aao a1 true e9 d7 d8 s4 (hG.hp0 h0) (h0.hand (L1 := [blk a1 [(Vp (some ⟨a1, 0, none⟩)), (Vs d7 e1.2.2.2.length d8)] 131, rwt eB 5 1 e9 d7 d8 e1.2.2.2]) (L2 := [blk a9 [(str y4.1.1), (str y4.1.2.1), (str y4.1.2.2.1), (Vi .i64 y4.1.2.2.2.1), (Vs a4 y4.1.2.2.2.2.1.length a5), (Vs a2 y4.1.2.2.2.2.2.length a3)] 68, rwt aaa 46 3 o9 a4 a5 y4.1.2.2.2.2.1, rwt aaa 46 3 a8 a2 a3 y4.1.2.2.2.2.2])) (h0.highs hG (fun _ h => absurd h (by simp)) 2 rfl)) ?_
  rintro _ s6 ⟨m8, j5, j6, rfl, m9⟩
  have s7 : Hp w [] [blk a1 [(Vp (some ⟨a1, 0, none⟩)), (Vs j5 j4.2.2.2.length j6)] 131, rwt eB 5 1 m8 j5 j6 j4.2.2.2, blk a9 [(str y4.1.1), (str y4.1.2.1), (str y4.1.2.2.1), (Vi .i64 y4.1.2.2.2.1), (Vs a4 y4.1.2.2.2.2.1.length a5), (Vs a2 y4.1.2.2.2.2.2.length a3)] 68, rwt aaa 46 3 o9 a4 a5 y4.1.2.2.2.2.1, rwt aaa 46 3 a8 a2 a3 y4.1.2.2.2.2.2] s6 := Hp.callK (L1 := [blk a1 [(Vp (some ⟨a1, 0, none⟩)), (Vs d7 e1.2.2.2.length d8)] 131, rwt eB 5 1 e9 d7 d8 e1.2.2.2]) (L2 := [blk a9 [(str y4.1.1), (str y4.1.2.1), (str y4.1.2.2.1), (Vi .i64 y4.1.2.2.2.1), (Vs a4 y4.1.2.2.2.2.1.length a5), (Vs a2 y4.1.2.2.2.2.2.length a3)] 68, rwt aaa 46 3 o9 a4 a5 y4.1.2.2.2.2.1, rwt aaa 46 3 a8 a2 a3 y4.1.2.2.2.2.2]) h0 m9; clear m9
  refine wl (ql ?_)
  obtain rfl := oi e2
  exact ⟨(j4.2.2.2, m8, j5, j6), _, rfl, by kernel_rfl, (Hp.front (Hp.front (Hp.front (Hp.front (Hp.front s7 1 _ rfl) 4 _ rfl) 4 _ rfl) 4 _ rfl) 4 _ rfl).kp, rfl⟩
  refine ck (ql ?_)
  obtain rfl := oi e2
  exact ⟨(e1.2.2.2, e9, d7, d8), _, rfl, by kernel_rfl, (Hp.front (Hp.front (Hp.front (Hp.front (Hp.front f7 1 _ rfl) 4 _ rfl) 4 _ rfl) 4 _ rfl) 4 _ rfl).kp, rfl⟩
  rintro ⟨f2, g9, f8, f9⟩ y3 G ⟨n0, rfl⟩
  refine bi hr fun n1 s8 hr => cut (σ := (List UInt8) × (Option Nat) × (Option Addr) × Nat) [2, 3, 4, 6] (fun ⟨f3, h1, g0, g1⟩ => []) (fun ⟨f3, h1, g0, g1⟩ w' => Hp w [] [blk a1 [(Vp (some ⟨a1, 0, none⟩)), (Vs g0 f3.length g1)] 131, blk a9 [(str y4.1.1), (str y4.1.2.1), (str y4.1.2.2.1), (Vi .i64 y4.1.2.2.2.1), (Vs a4 y4.1.2.2.2.2.1.length a5), (Vs a2 y4.1.2.2.2.2.2.length a3)] 68, rwt aaa 46 3 o9 a4 a5 y4.1.2.2.2.2.1, rwt aaa 46 3 a8 a2 a3 y4.1.2.2.2.2.2, rwt eB 5 1 h1 g0 g1 f3] w' ∧ f3 = n1) ?_ ?_
  refine sr (wp 1 (aav n0 1 a9 4 [(str y4.1.1), (str y4.1.2.1), (str y4.1.2.2.1), (Vi .i64 y4.1.2.2.2.1), (Vs a4 y4.1.2.2.2.2.1.length a5), (Vs a2 y4.1.2.2.2.2.2.length a3)] 68 (Vs a4 y4.1.2.2.2.2.1.length a5) rfl rfl (by kernel_rfl) (by kernel_rfl) (wp 2 (nq (ce (lpG (σ := Nat × Int × (List UInt8) × (Option Nat) × (Option Addr) × Nat) [2, 3, 4, 6, 49, 50, 51] (fun ⟨f0, a7, c5, e3, c6, c7⟩ => [(51, (Vi .i64 a7))]) (fun ⟨f0, a7, c5, e3, c6, c7⟩ w' => Hp w [] [blk a1 [(Vp (some ⟨a1, 0, none⟩)), (Vs c6 c5.length c7)] 131, blk a9 [(str y4.1.1), (str y4.1.2.1), (str y4.1.2.2.1), (Vi .i64 y4.1.2.2.2.1), (Vs a4 y4.1.2.2.2.2.1.length a5), (Vs a2 y4.1.2.2.2.2.2.length a3)] 68, rwt aaa 46 3 o9 a4 a5 y4.1.2.2.2.2.1, rwt aaa 46 3 a8 a2 a3 y4.1.2.2.2.2.2, rwt eB 5 1 e3 c6 c7 c5] w' ∧ agp fu y4 f0 a7 c5 = some n1) (fun ⟨f0, a7, c5, e3, c6, c7⟩ => f0) (fu, (0 : Int), f2, g9, f8, f9) (by exact ⟨(Hp.front (Hp.front (Hp.front (Hp.front (Hp.front n0 4 _ rfl) 4 _ rfl) 4 _ rfl) 4 _ rfl) 4 _ rfl).kp, s8⟩) ?_))))))
  rintro ⟨_ | f0, a7, c5, e3, c6, c7⟩ y5 G ⟨h2, b0⟩
  · exact absurd (show none = some _ from b0) (by simp)
  rw [agp.eq_2] at b0
  refine sr (wp 1 (nq (cs (cd b0 (fun s9 b0 => ?_) (fun s9 b0 => ?_)))))
  refine ck (qn (cs (ce (sr (gi b0 fun t0 b0 => aht a4 y4.1.2.2.2.2.1.length a5 46 3 .i64 a7 Tryz.underlying22 (by kernel_rfl) (by kernel_rfl) (by kernel_rfl) y4.1.2.2.2.2.1 rfl t0 (h2.rdrw 2 rfl) aab (by decide) (gi b0 fun t1 b0 => ahm a4 aaa y4.1.2.2.2.2.1 3 a7 aab (h2.rdrw 2 rfl) [(str ((el y4.1.2.2.2.2.1 a7).1)), (str ((el y4.1.2.2.2.2.1 a7).2.1)), (Vb ((el y4.1.2.2.2.2.1 a7).2.2))] t1 (by kernel_rfl) (by kernel_rfl) (by kernel_rfl) (by kernel_rfl) (by decide) ?_))))))
  refine adl h2 [(str ([] : Str)), (str ([] : Str)), (Vb false)] 46 (fun b => (Vp (some ⟨b, 0, none⟩))) rfl rfl (by kernel_rfl) fun c9 y6 t2 => aff t2 0 c9 0 [(str ([] : Str)), (str ([] : Str)), (Vb false)] [(str ((el y4.1.2.2.2.2.1 a7).1)), (str ((el y4.1.2.2.2.2.1 a7).2.1)), (Vb ((el y4.1.2.2.2.2.1 a7).2.2))] 46 [blk c9 [(str ((el y4.1.2.2.2.2.1 a7).1)), (str ((el y4.1.2.2.2.2.1 a7).2.1)), (Vb ((el y4.1.2.2.2.2.1 a7).2.2))] 46, blk a1 [(Vp (some ⟨a1, 0, none⟩)), (Vs c6 c5.length c7)] 131, blk a9 [(str y4.1.1), (str y4.1.2.1), (str y4.1.2.2.1), (Vi .i64 y4.1.2.2.2.1), (Vs a4 y4.1.2.2.2.2.1.length a5), (Vs a2 y4.1.2.2.2.2.2.length a3)] 68, rwt aaa 46 3 o9 a4 a5 y4.1.2.2.2.2.1, rwt aaa 46 3 a8 a2 a3 y4.1.2.2.2.2.2, rwt eB 5 1 e3 c6 c7 c5] rfl (Nat.le_of_ble_eq_true rfl) (by kernel_rfl) (by kernel_rfl) rfl (by kernel_rfl) rfl fun y7 j7 => nq (sr (wp 1 (aav j7 0 c9 0 [(str ((el y4.1.2.2.2.2.1 a7).1)), (str ((el y4.1.2.2.2.2.1 a7).2.1)), (Vb ((el y4.1.2.2.2.2.1 a7).2.2))] 46 (str ((el y4.1.2.2.2.2.1 a7).1)) rfl rfl (by kernel_rfl) (by kernel_rfl) (bi b0 fun n2 t3 b0 => wc ent156 j7 (aha t3 (hG.hp0 j7)) fun n3 t4 => ?_))))
  refine gi b0 fun t5 b0 => abn ([59] : Str) n2 (by kernel_rfl) (by kernel_rfl) t5 (bi b0 fun e4 t6 b0 => ?_)
  have t7 : Hp w [] [rwt eB 5 1 e3 c6 c7 c5, blk c9 [(str ((el y4.1.2.2.2.2.1 a7).1)), (str ((el y4.1.2.2.2.2.1 a7).2.1)), (Vb ((el y4.1.2.2.2.2.1 a7).2.2))] 46, blk a1 [(Vp (some ⟨a1, 0, none⟩)), (Vs c6 c5.length c7)] 131, blk a9 [(str y4.1.1), (str y4.1.2.1), (str y4.1.2.2.1), (Vi .i64 y4.1.2.2.2.1), (Vs a4 y4.1.2.2.2.2.1.length a5), (Vs a2 y4.1.2.2.2.2.2.length a3)] 68, rwt aaa 46 3 o9 a4 a5 y4.1.2.2.2.2.1, rwt aaa 46 3 a8 a2 a3 y4.1.2.2.2.2.2] n3 := t4.front 5 _ rfl
  have h3 : Hp w [] [blk a1 [(Vp (some ⟨a1, 0, none⟩)), (Vs c6 c5.length c7)] 131, rwt eB 5 1 e3 c6 c7 c5, blk c9 [(str ((el y4.1.2.2.2.2.1 a7).1)), (str ((el y4.1.2.2.2.2.1 a7).2.1)), (Vb ((el y4.1.2.2.2.2.1 a7).2.2))] 46, blk a9 [(str y4.1.1), (str y4.1.2.1), (str y4.1.2.2.1), (Vi .i64 y4.1.2.2.2.1), (Vs a4 y4.1.2.2.2.2.1.length a5), (Vs a2 y4.1.2.2.2.2.2.length a3)] 68, rwt aaa 46 3 o9 a4 a5 y4.1.2.2.2.2.1, rwt aaa 46 3 a8 a2 a3 y4.1.2.2.2.2.2] n3 := t7.front 2 _ rfl
  refine aad 126 #[] [(Vp (some ⟨a1, 0, none⟩)), (str (([59] : Str) ++ n2))] _ ent126 (by kernel_rfl) (by kernel_rfl) (aao a1 true e3 c6 c7 t6 (hG.hp0 h3) (h3.hand (L1 := [blk a1 [(Vp (some ⟨a1, 0, none⟩)), (Vs c6 c5.length c7)] 131, rwt eB 5 1 e3 c6 c7 c5]) (L2 := [blk c9 [(str ((el y4.1.2.2.2.2.1 a7).1)), (str ((el y4.1.2.2.2.2.1 a7).2.1)), (Vb ((el y4.1.2.2.2.2.1 a7).2.2))] 46, blk a9 [(str y4.1.1), (str y4.1.2.1), (str y4.1.2.2.1), (Vi .i64 y4.1.2.2.2.1), (Vs a4 y4.1.2.2.2.2.1.length a5), (Vs a2 y4.1.2.2.2.2.2.length a3)] 68, rwt aaa 46 3 o9 a4 a5 y4.1.2.2.2.2.1, rwt aaa 46 3 a8 a2 a3 y4.1.2.2.2.2.2])) (h3.highs hG (fun _ h => absurd h (by simp)) 2 rfl)) ?_
  rintro _ t8 ⟨f1, d9, e0, rfl, n4⟩
  have g2 : Hp w [] [blk a1 [(Vp (some ⟨a1, 0, none⟩)), (Vs d9 e4.2.2.2.length e0)] 131, rwt eB 5 1 f1 d9 e0 e4.2.2.2, blk c9 [(str ((el y4.1.2.2.2.2.1 a7).1)), (str ((el y4.1.2.2.2.2.1 a7).2.1)), (Vb ((el y4.1.2.2.2.2.1 a7).2.2))] 46, blk a9 [(str y4.1.1), (str y4.1.2.1), (str y4.1.2.2.1), (Vi .i64 y4.1.2.2.2.1), (Vs a4 y4.1.2.2.2.2.1.length a5), (Vs a2 y4.1.2.2.2.2.2.length a3)] 68, rwt aaa 46 3 o9 a4 a5 y4.1.2.2.2.2.1, rwt aaa 46 3 a8 a2 a3 y4.1.2.2.2.2.2] t8 := Hp.callK (L1 := [blk a1 [(Vp (some ⟨a1, 0, none⟩)), (Vs c6 c5.length c7)] 131, rwt eB 5 1 e3 c6 c7 c5]) (L2 := [blk c9 [(str ((el y4.1.2.2.2.2.1 a7).1)), (str ((el y4.1.2.2.2.2.1 a7).2.1)), (Vb ((el y4.1.2.2.2.2.1 a7).2.2))] 46, blk a9 [(str y4.1.1), (str y4.1.2.1), (str y4.1.2.2.1), (Vi .i64 y4.1.2.2.2.1), (Vs a4 y4.1.2.2.2.2.1.length a5), (Vs a2 y4.1.2.2.2.2.2.length a3)] 68, rwt aaa 46 3 o9 a4 a5 y4.1.2.2.2.2.1, rwt aaa 46 3 a8 a2 a3 y4.1.2.2.2.2.2]) h3 n4; clear n4
  refine nq (sr (wp 1 (aav g2 2 c9 2 [(str ((el y4.1.2.2.2.2.1 a7).1)), (str ((el y4.1.2.2.2.2.1 a7).2.1)), (Vb ((el y4.1.2.2.2.2.1 a7).2.2))] 46 (Vb ((el y4.1.2.2.2.2.1 a7).2.2)) rfl rfl (by kernel_rfl) (by kernel_rfl) (nq (cb b0 (fun t9 b0 => ?_) (fun t9 b0 => ?_))))))
  refine cr (wp 1 (aav g2 2 c9 1 [(str ((el y4.1.2.2.2.2.1 a7).1)), (str ((el y4.1.2.2.2.2.1 a7).2.1)), (Vb ((el y4.1.2.2.2.2.1 a7).2.2))] 46 (str ((el y4.1.2.2.2.2.1 a7).2.1)) rfl rfl (by kernel_rfl) (by kernel_rfl) (bi b0 fun n5 u0 b0 => wc ent156 g2 (aha u0 (hG.hp0 g2)) fun n6 u1 => gi b0 fun u2 b0 => abn ([61] : Str) n5 (by kernel_rfl) (by kernel_rfl) u2 (bi b0 fun j8 u3 b0 => ?_))))
  have u4 : Hp w [] [rwt eB 5 1 f1 d9 e0 e4.2.2.2, blk a1 [(Vp (some ⟨a1, 0, none⟩)), (Vs d9 e4.2.2.2.length e0)] 131, blk c9 [(str ((el y4.1.2.2.2.2.1 a7).1)), (str ((el y4.1.2.2.2.2.1 a7).2.1)), (Vb ((el y4.1.2.2.2.2.1 a7).2.2))] 46, blk a9 [(str y4.1.1), (str y4.1.2.1), (str y4.1.2.2.1), (Vi .i64 y4.1.2.2.2.1), (Vs a4 y4.1.2.2.2.2.1.length a5), (Vs a2 y4.1.2.2.2.2.2.length a3)] 68, rwt aaa 46 3 o9 a4 a5 y4.1.2.2.2.2.1, rwt aaa 46 3 a8 a2 a3 y4.1.2.2.2.2.2] n6 := u1.front 1 _ rfl
  have h4 : Hp w [] [blk a1 [(Vp (some ⟨a1, 0, none⟩)), (Vs d9 e4.2.2.2.length e0)] 131, rwt eB 5 1 f1 d9 e0 e4.2.2.2, blk c9 [(str ((el y4.1.2.2.2.2.1 a7).1)), (str ((el y4.1.2.2.2.2.1 a7).2.1)), (Vb ((el y4.1.2.2.2.2.1 a7).2.2))] 46, blk a9 [(str y4.1.1), (str y4.1.2.1), (str y4.1.2.2.1), (Vi .i64 y4.1.2.2.2.1), (Vs a4 y4.1.2.2.2.2.1.length a5), (Vs a2 y4.1.2.2.2.2.2.length a3)] 68, rwt aaa 46 3 o9 a4 a5 y4.1.2.2.2.2.1, rwt aaa 46 3 a8 a2 a3 y4.1.2.2.2.2.2] n6 := u4.front 1 _ rfl
  refine aad 126 #[] [(Vp (some ⟨a1, 0, none⟩)), (str (([61] : Str) ++ n5))] _ ent126 (by kernel_rfl) (by kernel_rfl) (aao a1 true f1 d9 e0 u3 (hG.hp0 h4) (h4.hand (L1 := [blk a1 [(Vp (some ⟨a1, 0, none⟩)), (Vs d9 e4.2.2.2.length e0)] 131, rwt eB 5 1 f1 d9 e0 e4.2.2.2]) (L2 := [blk c9 [(str ((el y4.1.2.2.2.2.1 a7).1)), (str ((el y4.1.2.2.2.2.1 a7).2.1)), (Vb ((el y4.1.2.2.2.2.1 a7).2.2))] 46, blk a9 [(str y4.1.1), (str y4.1.2.1), (str y4.1.2.2.1), (Vi .i64 y4.1.2.2.2.1), (Vs a4 y4.1.2.2.2.2.1.length a5), (Vs a2 y4.1.2.2.2.2.2.length a3)] 68, rwt aaa 46 3 o9 a4 a5 y4.1.2.2.2.2.1, rwt aaa 46 3 a8 a2 a3 y4.1.2.2.2.2.2])) (h4.highs hG (fun _ h => absurd h (by simp)) 2 rfl)) ?_
  rintro _ u5 ⟨n7, j9, k0, rfl, n8⟩
  have u6 : Hp w [] [blk a1 [(Vp (some ⟨a1, 0, none⟩)), (Vs j9 j8.2.2.2.length k0)] 131, rwt eB 5 1 n7 j9 k0 j8.2.2.2, blk c9 [(str ((el y4.1.2.2.2.2.1 a7).1)), (str ((el y4.1.2.2.2.2.1 a7).2.1)), (Vb ((el y4.1.2.2.2.2.1 a7).2.2))] 46, blk a9 [(str y4.1.1), (str y4.1.2.1), (str y4.1.2.2.1), (Vi .i64 y4.1.2.2.2.1), (Vs a4 y4.1.2.2.2.2.1.length a5), (Vs a2 y4.1.2.2.2.2.2.length a3)] 68, rwt aaa 46 3 o9 a4 a5 y4.1.2.2.2.2.1, rwt aaa 46 3 a8 a2 a3 y4.1.2.2.2.2.2] u5 := Hp.callK (L1 := [blk a1 [(Vp (some ⟨a1, 0, none⟩)), (Vs d9 e4.2.2.2.length e0)] 131, rwt eB 5 1 f1 d9 e0 e4.2.2.2]) (L2 := [blk c9 [(str ((el y4.1.2.2.2.2.1 a7).1)), (str ((el y4.1.2.2.2.2.1 a7).2.1)), (Vb ((el y4.1.2.2.2.2.1 a7).2.2))] 46, blk a9 [(str y4.1.1), (str y4.1.2.1), (str y4.1.2.2.1), (Vi .i64 y4.1.2.2.2.1), (Vs a4 y4.1.2.2.2.2.1.length a5), (Vs a2 y4.1.2.2.2.2.2.length a3)] 68, rwt aaa 46 3 o9 a4 a5 y4.1.2.2.2.2.1, rwt aaa 46 3 a8 a2 a3 y4.1.2.2.2.2.2]) h4 n8; clear n8
  refine wl (bn (qn (cr (gi b0 fun u7 b0 => aac a7 (1 : Int) (by kernel_rfl) (by kernel_rfl) u7 (wp 1 (wl (ql ?_)))))))
  exact ⟨(f0, a7 + (1 : Int), j8.2.2.2, n7, j9, k0), _, rfl, by kernel_rfl, ⟨(Hp.front (Hp.front (Hp.front (Hp.front (Hp.front u6 1 _ rfl) 5 _ rfl) 5 _ rfl) 5 _ rfl) 4 _ rfl).kp, b0⟩, Nat.lt_succ_self _⟩
  refine ck (bn (qn (cr (gi b0 fun u9 b0 => aac a7 (1 : Int) (by kernel_rfl) (by kernel_rfl) u9 (wp 1 (wl (ql ?_)))))))
  exact ⟨(f0, a7 + (1 : Int), e4.2.2.2, f1, d9, e0), _, rfl, by kernel_rfl, ⟨(Hp.front (Hp.front (Hp.front (Hp.front (Hp.front g2 1 _ rfl) 5 _ rfl) 5 _ rfl) 5 _ rfl) 4 _ rfl).kp, b0⟩, Nat.lt_succ_self _⟩
  refine ach (acg (acq (aci (ql ?_))))
  obtain rfl := oi b0
  exact ⟨(c5, e3, c6, c7), _, rfl, by kernel_rfl, (Hp.front (Hp.front (Hp.front (Hp.front (Hp.front h2 4 _ rfl) 4 _ rfl) 4 _ rfl) 4 _ rfl) 4 _ rfl).kp, rfl⟩
  rintro ⟨f3, h1, g0, g1⟩ y8 G ⟨n9, rfl⟩
  refine bi hr fun o0 v0 hr => cut (σ := (List UInt8) × (Option Nat) × (Option Addr) × Nat) [2, 3, 6] (fun ⟨f4, h5, g3, g4⟩ => []) (fun ⟨f4, h5, g3, g4⟩ w' => Hp w [] [blk a1 [(Vp (some ⟨a1, 0, none⟩)), (Vs g3 f4.length g4)] 131, rwt eB 5 1 h5 g3 g4 f4] w' ∧ f4 = o0) ?_ ?_
  refine sr (wp 1 (aav n9 1 a9 5 [(str y4.1.1), (str y4.1.2.1), (str y4.1.2.2.1), (Vi .i64 y4.1.2.2.2.1), (Vs a4 y4.1.2.2.2.2.1.length a5), (Vs a2 y4.1.2.2.2.2.2.length a3)] 68 (Vs a2 y4.1.2.2.2.2.2.length a3) rfl rfl (by kernel_rfl) (by kernel_rfl) (wp 2 (nq (ce (lpG (σ := Nat × Int × (List UInt8) × (Option Nat) × (Option Addr) × Nat) [2, 3, 6, 69, 70, 71] (fun ⟨f5, a6, b8, c8, b2, b3⟩ => [(71, (Vi .i64 a6))]) (fun ⟨f5, a6, b8, c8, b2, b3⟩ w' => Hp w [] [blk a1 [(Vp (some ⟨a1, 0, none⟩)), (Vs b2 b8.length b3)] 131, rwt aaa 46 3 a8 a2 a3 y4.1.2.2.2.2.2, rwt eB 5 1 c8 b2 b3 b8] w' ∧ aid fu y4 f5 a6 b8 = some o0) (fun ⟨f5, a6, b8, c8, b2, b3⟩ => f5) (fu, (0 : Int), f3, h1, g0, g1) (by exact ⟨(Hp.front (Hp.front (Hp.front n9 4 _ rfl) 4 _ rfl) 2 _ rfl).kp, v0⟩) ?_))))))
  rintro ⟨_ | f5, a6, b8, c8, b2, b3⟩ y9 G ⟨h6, b9⟩
  · exact absurd (show none = some _ from b9) (by simp)
  rw [aid.eq_2] at b9
  refine sr (wp 1 (nq (cs (cd b9 (fun v1 b9 => ?_) (fun v1 b9 => ?_)))))
  refine ck (qn (cs (ce (sr (wp 1 (gi b9 fun v2 b9 => aht a2 y4.1.2.2.2.2.2.length a3 46 3 .i64 a6 Tryz.underlying22 (by kernel_rfl) (by kernel_rfl) (by kernel_rfl) y4.1.2.2.2.2.2 rfl v2 (h6.rdrw 1 rfl) aab (by decide) (gi b9 fun v3 b9 => ?_)))))))
  refine ahm a2 aaa y4.1.2.2.2.2.2 3 a6 aab (h6.rdrw 1 rfl) [(str ((el y4.1.2.2.2.2.2 a6).1)), (str ((el y4.1.2.2.2.2.2 a6).2.1)), (Vb ((el y4.1.2.2.2.2.2 a6).2.2))] v3 (by kernel_rfl) (by kernel_rfl) (by kernel_rfl) (by kernel_rfl) (by decide) (adl h6 [(str ([] : Str)), (str ([] : Str)), (Vb false)] 46 (fun b => (Vp (some ⟨b, 0, none⟩))) rfl rfl (by kernel_rfl) fun c0 z0 v4 => wp 1 (aff v4 0 c0 0 [(str ([] : Str)), (str ([] : Str)), (Vb false)] [(str ((el y4.1.2.2.2.2.2 a6).1)), (str ((el y4.1.2.2.2.2.2 a6).2.1)), (Vb ((el y4.1.2.2.2.2.2 a6).2.2))] 46 [blk c0 [(str ((el y4.1.2.2.2.2.2 a6).1)), (str ((el y4.1.2.2.2.2.2 a6).2.1)), (Vb ((el y4.1.2.2.2.2.2 a6).2.2))] 46, blk a1 [(Vp (some ⟨a1, 0, none⟩)), (Vs b2 b8.length b3)] 131, rwt aaa 46 3 a8 a2 a3 y4.1.2.2.2.2.2, rwt eB 5 1 c8 b2 b3 b8] rfl (Nat.le_of_ble_eq_true rfl) (by kernel_rfl) (by kernel_rfl) rfl (by kernel_rfl) rfl fun h7 o1 => nq (bi b9 fun v5 e5 b9 => cut (σ := (List UInt8) × (Option Nat) × (Option Addr) × Nat) [2, 3, 6, 10, 69, 70, 71] (fun ⟨d3, e8, d4, d5⟩ => []) (fun ⟨d3, e8, d4, d5⟩ w' => Hp w [] [blk a1 [(Vp (some ⟨a1, 0, none⟩)), (Vs d4 d3.length d5)] 131, blk c0 [(str ((el y4.1.2.2.2.2.2 a6).1)), (str ((el y4.1.2.2.2.2.2 a6).2.1)), (Vb ((el y4.1.2.2.2.2.2 a6).2.2))] 46, rwt aaa 46 3 a8 a2 a3 y4.1.2.2.2.2.2, rwt eB 5 1 e8 d4 d5 d3] w' ∧ d3 = v5) ?_ ?_)))
  refine sr (wp 2 (nq (cd e5 (fun v6 e5 => ?_) (fun v6 e5 => ?_))))
  refine cr (bi e5 fun k1 v7 e5 => ?_)
  have v8 : Hp w [] [rwt eB 5 1 c8 b2 b3 b8, blk c0 [(str ((el y4.1.2.2.2.2.2 a6).1)), (str ((el y4.1.2.2.2.2.2 a6).2.1)), (Vb ((el y4.1.2.2.2.2.2 a6).2.2))] 46, blk a1 [(Vp (some ⟨a1, 0, none⟩)), (Vs b2 b8.length b3)] 131, rwt aaa 46 3 a8 a2 a3 y4.1.2.2.2.2.2] h7 := o1.front 3 _ rfl
  have h8 : Hp w [] [blk a1 [(Vp (some ⟨a1, 0, none⟩)), (Vs b2 b8.length b3)] 131, rwt eB 5 1 c8 b2 b3 b8, blk c0 [(str ((el y4.1.2.2.2.2.2 a6).1)), (str ((el y4.1.2.2.2.2.2 a6).2.1)), (Vb ((el y4.1.2.2.2.2.2 a6).2.2))] 46, rwt aaa 46 3 a8 a2 a3 y4.1.2.2.2.2.2] h7 := v8.front 2 _ rfl
  refine aad 157 #[] [(Vp (some ⟨a1, 0, none⟩)), (bt (63 : UInt8))] _ ent157 (by kernel_rfl) (by kernel_rfl) (aij a1 true c8 b2 b3 v7 (hG.hp0 h8) (h8.hand (L1 := [blk a1 [(Vp (some ⟨a1, 0, none⟩)), (Vs b2 b8.length b3)] 131, rwt eB 5 1 c8 b2 b3 b8]) (L2 := [blk c0 [(str ((el y4.1.2.2.2.2.2 a6).1)), (str ((el y4.1.2.2.2.2.2 a6).2.1)), (Vb ((el y4.1.2.2.2.2.2 a6).2.2))] 46, rwt aaa 46 3 a8 a2 a3 y4.1.2.2.2.2.2])) (h8.highs hG (fun _ h => absurd h (by simp)) 2 rfl)) ?_
  rintro _ v9 ⟨o2, k2, k3, rfl, o3⟩
  have w0 : Hp w [] [blk a1 [(Vp (some ⟨a1, 0, none⟩)), (Vs k2 k1.2.2.length k3)] 131, rwt eB 5 1 o2 k2 k3 k1.2.2, blk c0 [(str ((el y4.1.2.2.2.2.2 a6).1)), (str ((el y4.1.2.2.2.2.2 a6).2.1)), (Vb ((el y4.1.2.2.2.2.2 a6).2.2))] 46, rwt aaa 46 3 a8 a2 a3 y4.1.2.2.2.2.2] v9 := Hp.callK (L1 := [blk a1 [(Vp (some ⟨a1, 0, none⟩)), (Vs b2 b8.length b3)] 131, rwt eB 5 1 c8 b2 b3 b8]) (L2 := [blk c0 [(str ((el y4.1.2.2.2.2.2 a6).1)), (str ((el y4.1.2.2.2.2.2 a6).2.1)), (Vb ((el y4.1.2.2.2.2.2 a6).2.2))] 46, rwt aaa 46 3 a8 a2 a3 y4.1.2.2.2.2.2]) h8 o3; clear o3
  refine wl (ql ?_)
  obtain rfl := oi e5
  exact ⟨(k1.2.2, o2, k2, k3), _, rfl, by kernel_rfl, (Hp.front (Hp.front (Hp.front (Hp.front w0 1 _ rfl) 3 _ rfl) 3 _ rfl) 3 _ rfl).kp, rfl⟩
  refine cr (bi e5 fun k4 w1 e5 => ?_)
  have w3 : Hp w [] [rwt eB 5 1 c8 b2 b3 b8, blk c0 [(str ((el y4.1.2.2.2.2.2 a6).1)), (str ((el y4.1.2.2.2.2.2 a6).2.1)), (Vb ((el y4.1.2.2.2.2.2 a6).2.2))] 46, blk a1 [(Vp (some ⟨a1, 0, none⟩)), (Vs b2 b8.length b3)] 131, rwt aaa 46 3 a8 a2 a3 y4.1.2.2.2.2.2] h7 := o1.front 3 _ rfl
  have h9 : Hp w [] [blk a1 [(Vp (some ⟨a1, 0, none⟩)), (Vs b2 b8.length b3)] 131, rwt eB 5 1 c8 b2 b3 b8, blk c0 [(str ((el y4.1.2.2.2.2.2 a6).1)), (str ((el y4.1.2.2.2.2.2 a6).2.1)), (Vb ((el y4.1.2.2.2.2.2 a6).2.2))] 46, rwt aaa 46 3 a8 a2 a3 y4.1.2.2.2.2.2] h7 := w3.front 2 _ rfl
  refine aad 157 #[] [(Vp (some ⟨a1, 0, none⟩)), (bt (38 : UInt8))] _ ent157 (by kernel_rfl) (by kernel_rfl) (aij a1 true c8 b2 b3 w1 (hG.hp0 h9) (h9.hand (L1 := [blk a1 [(Vp (some ⟨a1, 0, none⟩)), (Vs b2 b8.length b3)] 131, rwt eB 5 1 c8 b2 b3 b8]) (L2 := [blk c0 [(str ((el y4.1.2.2.2.2.2 a6).1)), (str ((el y4.1.2.2.2.2.2 a6).2.1)), (Vb ((el y4.1.2.2.2.2.2 a6).2.2))] 46, rwt aaa 46 3 a8 a2 a3 y4.1.2.2.2.2.2])) (h9.highs hG (fun _ h => absurd h (by simp)) 2 rfl)) ?_
  rintro _ w4 ⟨o4, k5, k6, rfl, o5⟩
  have w5 : Hp w [] [blk a1 [(Vp (some ⟨a1, 0, none⟩)), (Vs k5 k4.2.2.length k6)] 131, rwt eB 5 1 o4 k5 k6 k4.2.2, blk c0 [(str ((el y4.1.2.2.2.2.2 a6).1)), (str ((el y4.1.2.2.2.2.2 a6).2.1)), (Vb ((el y4.1.2.2.2.2.2 a6).2.2))] 46, rwt aaa 46 3 a8 a2 a3 y4.1.2.2.2.2.2] w4 := Hp.callK (L1 := [blk a1 [(Vp (some ⟨a1, 0, none⟩)), (Vs b2 b8.length b3)] 131, rwt eB 5 1 c8 b2 b3 b8]) (L2 := [blk c0 [(str ((el y4.1.2.2.2.2.2 a6).1)), (str ((el y4.1.2.2.2.2.2 a6).2.1)), (Vb ((el y4.1.2.2.2.2.2 a6).2.2))] 46, rwt aaa 46 3 a8 a2 a3 y4.1.2.2.2.2.2]) h9 o5; clear o5
  refine wl (ql ?_)
  obtain rfl := oi e5
  exact ⟨(k4.2.2, o4, k5, k6), _, rfl, by kernel_rfl, (Hp.front (Hp.front (Hp.front (Hp.front w5 1 _ rfl) 3 _ rfl) 3 _ rfl) 3 _ rfl).kp, rfl⟩
  rintro ⟨d3, e8, d4, d5⟩ z1 G ⟨w7, rfl⟩
  refine bi b9 fun i0 w8 b9 => gi b9 fun w9 b9 => bi b9 fun o6 x0 b9 => adm 7 (fun j_ w_ w_' => abv [2, 3, 6, 7, 8] (fun w' => w'.heap[c0]? = some (.cells [(str ((el y4.1.2.2.2.2.2 a6).1)), (str ((el y4.1.2.2.2.2.2 a6).2.1)), (Vb ((el y4.1.2.2.2.2.2 a6).2.2))].toArray 46 (0, 0))) j_ w_ w_' ∧ abv [6, 7, 8] (fun w' => w'.heap[c0]? = some (.cells [(str ((el y4.1.2.2.2.2.2 a6).1)), (str ((el y4.1.2.2.2.2.2 a6).2.1)), (Vb ((el y4.1.2.2.2.2.2 a6).2.2))].toArray 46 (0, 0))) j_ w_ w_' ∧ True) [false, false, false, false, false, false, false, false, false] (fun _ _ => ⟨abv.same, abv.same, trivial⟩) (by kernel_rfl) (by kernel_rfl) w7 rfl (aah (adb (aal (aah (aal acf))))) fun z2 i1 => rp 6 [0] (aag [true, true, false, false, false, false, false, false, false] 1 81 (str ((el y4.1.2.2.2.2.2 a6).1)) [2, 3, 6, 7, 8] (fun _ _ _ h => h.1) _ rfl rfl (by kernel_rfl) (by kernel_rfl) (by kernel_rfl) (by kernel_rfl) (by kernel_rfl) rfl (aai rfl (by intro w hS_; exact (afx c0 0 [(str ((el y4.1.2.2.2.2.2 a6).1)), (str ((el y4.1.2.2.2.2.2 a6).2.1)), (Vb ((el y4.1.2.2.2.2.2 a6).2.2))] 46 (str ((el y4.1.2.2.2.2.2 a6).1)) hS_ rfl (by kernel_rfl) (by kernel_rfl)))) (by exact i1.blkAt 1 rfl) (rp 4 [4] (aag [true, true, false, false, true, true, false, false, false] 5 85 (str ((el y4.1.2.2.2.2.2 a6).2.1)) [6, 7, 8] (fun _ _ _ h => h.2.1) _ rfl rfl (by kernel_rfl) (by kernel_rfl) (by kernel_rfl) (by kernel_rfl) (by kernel_rfl) rfl (aai rfl (by intro w hS_; exact (afx c0 1 [(str ((el y4.1.2.2.2.2.2 a6).1)), (str ((el y4.1.2.2.2.2.2 a6).2.1)), (Vb ((el y4.1.2.2.2.2.2 a6).2.2))] 46 (str ((el y4.1.2.2.2.2.2 a6).2.1)) hS_ rfl (by kernel_rfl) (by kernel_rfl)))) (by exact i1.blkAt 1 rfl) (ro 2 rfl (wc ent156 i1 (aha w8 (hG.hp0 i1)) fun z3 k7 => ?_)))))
  refine wl (abk (by exact ⟨abv.out rfl, abv.new (k7.blkAt 1 rfl), trivial⟩) (rt 3 (str (i0 ++ ([61] : Str))) rfl rfl (aai rfl (by intro w hS_; exact (x_strcat i0 ([61] : Str) (by kernel_rfl) (by kernel_rfl) w9))) (ro 6 rfl (wc ent156 k7 (aha x0 (hG.hp0 k7)) fun o7 x2 => wl (abk (by exact ⟨abv.out rfl, abv.out rfl, trivial⟩) (acw (by kernel_rfl) (gi b9 fun x3 b9 => abn (i0 ++ ([61] : Str)) o6 (by kernel_rfl) (by kernel_rfl) x3 ?_)))))))
  refine bi b9 fun k8 x4 b9 => ?_
  have x5 : Hp w [] [rwt eB 5 1 e8 d4 d5 d3, blk a1 [(Vp (some ⟨a1, 0, none⟩)), (Vs d4 d3.length d5)] 131, blk c0 [(str ((el y4.1.2.2.2.2.2 a6).1)), (str ((el y4.1.2.2.2.2.2 a6).2.1)), (Vb ((el y4.1.2.2.2.2.2 a6).2.2))] 46, rwt aaa 46 3 a8 a2 a3 y4.1.2.2.2.2.2] o7 := x2.front 3 _ rfl
  have i2 : Hp w [] [blk a1 [(Vp (some ⟨a1, 0, none⟩)), (Vs d4 d3.length d5)] 131, rwt eB 5 1 e8 d4 d5 d3, blk c0 [(str ((el y4.1.2.2.2.2.2 a6).1)), (str ((el y4.1.2.2.2.2.2 a6).2.1)), (Vb ((el y4.1.2.2.2.2.2 a6).2.2))] 46, rwt aaa 46 3 a8 a2 a3 y4.1.2.2.2.2.2] o7 := x5.front 1 _ rfl
  refine aad 126 #[] [(Vp (some ⟨a1, 0, none⟩)), (str ((i0 ++ ([61] : Str)) ++ o6))] _ ent126 (by kernel_rfl) (by kernel_rfl) (aao a1 true e8 d4 d5 x4 (hG.hp0 i2) (i2.hand (L1 := [blk a1 [(Vp (some ⟨a1, 0, none⟩)), (Vs d4 d3.length d5)] 131, rwt eB 5 1 e8 d4 d5 d3]) (L2 := [blk c0 [(str ((el y4.1.2.2.2.2.2 a6).1)), (str ((el y4.1.2.2.2.2.2 a6).2.1)), (Vb ((el y4.1.2.2.2.2.2 a6).2.2))] 46, rwt aaa 46 3 a8 a2 a3 y4.1.2.2.2.2.2])) (i2.highs hG (fun _ h => absurd h (by simp)) 2 rfl)) ?_
  rintro _ x6 ⟨o8, k9, l0, rfl, p0⟩
  have x7 : Hp w [] [blk a1 [(Vp (some ⟨a1, 0, none⟩)), (Vs k9 k8.2.2.2.length l0)] 131, rwt eB 5 1 o8 k9 l0 k8.2.2.2, blk c0 [(str ((el y4.1.2.2.2.2.2 a6).1)), (str ((el y4.1.2.2.2.2.2 a6).2.1)), (Vb ((el y4.1.2.2.2.2.2 a6).2.2))] 46, rwt aaa 46 3 a8 a2 a3 y4.1.2.2.2.2.2] x6 := Hp.callK (L1 := [blk a1 [(Vp (some ⟨a1, 0, none⟩)), (Vs d4 d3.length d5)] 131, rwt eB 5 1 e8 d4 d5 d3]) (L2 := [blk c0 [(str ((el y4.1.2.2.2.2.2 a6).1)), (str ((el y4.1.2.2.2.2.2 a6).2.1)), (Vb ((el y4.1.2.2.2.2.2 a6).2.2))] 46, rwt aaa 46 3 a8 a2 a3 y4.1.2.2.2.2.2]) i2 p0; clear p0
  refine wl (bn (qn (cr (gi b9 fun x8 b9 => aac a6 (1 : Int) (by kernel_rfl) (by kernel_rfl) x8 (wp 1 (wl (ql ?_)))))))
  exact ⟨(f5, a6 + (1 : Int), k8.2.2.2, o8, k9, l0), _, rfl, by kernel_rfl, ⟨(Hp.front (Hp.front (Hp.front x7 1 _ rfl) 3 _ rfl) 2 _ rfl).kp, b9⟩, Nat.lt_succ_self _⟩
  refine ach (acg (acq (aci (ql ?_))))
  obtain rfl := oi b9
  exact ⟨(b8, c8, b2, b3), _, rfl, by kernel_rfl, (Hp.front (Hp.front h6 2 _ rfl) 1 _ rfl).kp, rfl⟩
  rintro ⟨f4, h5, g3, g4⟩ z4 G ⟨x9, rfl⟩
  refine sr (gi hr fun z5 hr => aad 127 #[] [(Vp (some ⟨a1, 0, none⟩))] _ ent127 (by kernel_rfl) (by kernel_rfl) (sh_BString a1 true h5 g3 g4 f4 x9 0 1 rfl rfl (by decide)) ?_)
  rintro _ z6 ⟨rfl, y0⟩
  refine wp 2 (nq (ct ?_))
  obtain rfl := oi hr
  exact rv y0.kp
theorem aih {fu : Nat} {a1 : List (Str × Str × Bool)} (b9 : Option Addr) (d8 : Nat) (c2 : Nat) {w : World} {r : (Str × UInt8)} (hr : afp fu a1 = some r) (hG : Gl w) (g3 : d8 = a1.length) (d9 : Rd w b9 (List.flatMap aaa a1)) (f0 : d8 ≤ c2) : CR Tryz.prog 70 [(Vs b9 d8 c2)] w fun v w' => v = (Value.tuple #[(str r.1), (bt r.2)]) ∧ Hp w [] [] w' := by
  subst g3
  have hH : Hp w [] [] w := Hp.refl w
  refine enter (k := 89) Tryz.func70 rfl rfl (Nat.le_of_ble_eq_true rfl) ?_
  unfold afp at hr
  refine sr (wp 2 (nq (cs (sr (wp 3 (wl ?_))))))
  refine qn (cd hr (fun h1 hr => ?_) (fun h1 hr => ?_))
  refine sr (wp 2 (nq (ct (st ?_))))
  obtain rfl := oi hr
  exact rv hH.kp
  refine ck (qn (sr (adl hH [(Vp none), (Vs none 0 0)] 131 (fun b => (Vp (some ⟨b, 0, none⟩))) rfl rfl (by kernel_rfl) fun b2 w3 g4 => nq (bi hr fun f1 g5 hr => cut (σ := (List UInt8) × Bool × (Option Nat) × (Option Addr) × Nat) [2, 3, 4] (fun ⟨c3, c8, c9, c6, c7⟩ => []) (fun ⟨c3, c8, c9, c6, c7⟩ w' => Hp w [] [blk b2 [(Vp (bif c8 then some ⟨b2, 0, none⟩ else none)), (Vs c6 c3.length c7)] 131, rwt eB 5 1 c9 c6 c7 c3] w' ∧ .inl c3 = f1) ?_ ?_))))
  refine sr (wp 3 (nq (ce (lpG (σ := Nat × Int × (List UInt8) × Bool × (Option Nat) × (Option Addr) × Nat) [0, 2, 3, 4, 15, 16, 17] (fun ⟨c0, a0, a5, b5, b6, a6, a7⟩ => [(17, (Vi .i64 a0))]) (fun ⟨c0, a0, a5, b5, b6, a6, a7⟩ w' => Hp w [] [blk b2 [(Vp (bif b5 then some ⟨b2, 0, none⟩ else none)), (Vs a6 a5.length a7)] 131, rwt eB 5 1 b6 a6 a7 a5] w' ∧ aen fu a1 c0 a0 a5 = some f1) (fun ⟨c0, a0, a5, b5, b6, a6, a7⟩ => c0) (fu, (0 : Int), ([] : List UInt8), false, none, none, 0) (by exact ⟨(Hp.front (Hp.nilrw g4 eB 5 1 none) 1 _ rfl).kp, g5⟩) ?_))))
  rintro ⟨_ | c0, a0, a5, b5, b6, a6, a7⟩ k4 G ⟨d0, a2⟩
  · exact absurd (show none = some _ from a2) (by simp)
  rw [aen.eq_2] at a2
  refine sr (wp 1 (nq (cs (cd a2 (fun g6 a2 => ?_) (fun g6 a2 => ?_)))))
  refine ck (qn (cs (ce (sr (wp 1 (gi a2 fun g7 a2 => aht b9 a1.length c2 46 3 .i64 a0 Tryz.underlying22 (by kernel_rfl) (by kernel_rfl) (by kernel_rfl) a1 rfl g7 (d9.hp d0) aab (by decide) (gi a2 fun g8 a2 => ?_)))))))
  refine ahm b9 aaa a1 3 a0 aab (d9.hp d0) [(str ((el a1 a0).1)), (str ((el a1 a0).2.1)), (Vb ((el a1 a0).2.2))] g8 (by kernel_rfl) (by kernel_rfl) (by kernel_rfl) (by kernel_rfl) (by decide) (adl d0 [(str ([] : Str)), (str ([] : Str)), (Vb false)] 46 (fun b => (Vp (some ⟨b, 0, none⟩))) rfl rfl (by kernel_rfl) fun a3 k5 g9 => wp 1 (aff g9 0 a3 0 [(str ([] : Str)), (str ([] : Str)), (Vb false)] [(str ((el a1 a0).1)), (str ((el a1 a0).2.1)), (Vb ((el a1 a0).2.2))] 46 [blk a3 [(str ((el a1 a0).1)), (str ((el a1 a0).2.1)), (Vb ((el a1 a0).2.2))] 46, blk b2 [(Vp (bif b5 then some ⟨b2, 0, none⟩ else none)), (Vs a6 a5.length a7)] 131, rwt eB 5 1 b6 a6 a7 a5] rfl (Nat.le_of_ble_eq_true rfl) (by kernel_rfl) (by kernel_rfl) rfl (by kernel_rfl) rfl fun k6 d1 => nq (cs (bi a2 fun h0 a4 a2 => agq d1 [0, 2, 3, 4, 6, 15, 16, 17, 41] [(41, (Vb h0))] ?_ ?_))))
  refine bi a4 fun d2 e0 a4 => ?_
  rcases Bool.eq_false_or_eq_true (!d2) with c4 | c4
  replace a4 := cft c4 a4
  refine adm 18 (fun j_ w_ w_' => abv [2, 3, 4, 5, 6, 7, 8, 9, 10, 11, 12, 13, 14, 15, 16, 17, 18, 19] (fun w' => w'.heap[a3]? = some (.cells [(str ((el a1 a0).1)), (str ((el a1 a0).2.1)), (Vb ((el a1 a0).2.2))].toArray 46 (0, 0))) j_ w_ w_' ∧ True) [false, false, false, false, false, false, false, false, false, false, false, false, false, false, false, false, false, false, false, false] (fun _ _ => ⟨abv.same, trivial⟩) (by kernel_rfl) (by kernel_rfl) d1 rfl (aal (adb (aah (adb (aal (aah (aal acf))))))) fun k7 e1 => rp 17 [0] (aag [true, true, false, false, false, false, false, false, false, false, false, false, false, false, false, false, false, false, false, false] 1 23 (str ((el a1 a0).1)) [2, 3, 4, 5, 6, 7, 8, 9, 10, 11, 12, 13, 14, 15, 16, 17, 18, 19] (fun _ _ _ h => h.1) _ rfl rfl (by kernel_rfl) (by kernel_rfl) (by kernel_rfl) (by kernel_rfl) (by kernel_rfl) rfl (aai rfl (by intro w hS_; exact (afx a3 0 [(str ((el a1 a0).1)), (str ((el a1 a0).2.1)), (Vb ((el a1 a0).2.2))] 46 (str ((el a1 a0).1)) hS_ rfl (by kernel_rfl) (by kernel_rfl)))) (by exact e1.blkAt 0 rfl) (ro 2 rfl (wc ent69 e1 (afb e0 (hG.hp0 e1)) fun f2 a8 => wl (abk (by exact ⟨abv.out rfl, trivial⟩) (rp 14 [3] (rt 4 (Vb true) rfl rfl (aai rfl (by intro w hS_; exact Eq.trans (b := Result.ok (Next.value (.bool (!d2))) w) (by kernel_rfl) (congrArg (fun b => Result.ok (Next.value (.bool b)) w) c4))) (rp 9 [5, 6, 7, 8] ?_)))))))
  refine ro 9 rfl (wp 1 (wl (abk (by exact ⟨abv.same, trivial⟩) (rp 0 [10, 11, 12, 13, 14, 15, 16, 17] (acw (by kernel_rfl) (wp 2 (wl (ql ?_))))))))
  obtain rfl := oi a4
  exact je (Hp.front (Hp.front (Hp.front a8 2 _ rfl) 2 _ rfl) 2 _ rfl).kp
  replace a4 := cff c4 a4
  refine bi a4 fun e2 f3 a4 => ?_
  by_cases d3 : ((el a1 a0).1) = e2
  replace a4 := ift d3 a4
  refine gi a4 fun f4 a4 => adm 18 (fun j_ w_ w_' => abv [2, 3, 4, 5, 6, 7, 8, 9, 10, 11, 12, 13, 14, 15, 16, 17, 18, 19] (fun w' => w'.heap[a3]? = some (.cells [(str ((el a1 a0).1)), (str ((el a1 a0).2.1)), (Vb ((el a1 a0).2.2))].toArray 46 (0, 0))) j_ w_ w_' ∧ abv [10, 11, 12, 13, 14, 15, 16, 17, 18, 19] (fun w' => w'.heap[a3]? = some (.cells [(str ((el a1 a0).1)), (str ((el a1 a0).2.1)), (Vb ((el a1 a0).2.2))].toArray 46 (0, 0))) j_ w_ w_' ∧ abv [9, 10, 11, 12, 13, 14, 15, 16, 17, 18, 19] (fun w' => w'.heap[a3]? = some (.cells [(str ((el a1 a0).1)), (str ((el a1 a0).2.1)), (Vb ((el a1 a0).2.2))].toArray 46 (0, 0))) j_ w_ w_' ∧ abv [18, 19] (fun w' => w'.heap[a3]? = some (.cells [(str ((el a1 a0).1)), (str ((el a1 a0).2.1)), (Vb ((el a1 a0).2.2))].toArray 46 (0, 0))) j_ w_ w_' ∧ True) [false, false, false, false, false, false, false, false, false, false, false, false, false, false, false, false, false, false, false, false] (fun _ _ => ⟨abv.same, abv.same, abv.same, abv.same, trivial⟩) (by kernel_rfl) (by kernel_rfl) d1 rfl (aal (adb (aah (adb (aal (aah (aal acf))))))) fun k8 e3 => rp 17 [0] (aag [true, true, false, false, false, false, false, false, false, false, false, false, false, false, false, false, false, false, false, false] 1 23 (str ((el a1 a0).1)) [2, 3, 4, 5, 6, 7, 8, 9, 10, 11, 12, 13, 14, 15, 16, 17, 18, 19] (fun _ _ _ h => h.1) _ rfl rfl (by kernel_rfl) (by kernel_rfl) (by kernel_rfl) (by kernel_rfl) (by kernel_rfl) rfl (aai rfl (by intro w hS_; exact (afx a3 0 [(str ((el a1 a0).1)), (str ((el a1 a0).2.1)), (Vb ((el a1 a0).2.2))] 46 (str ((el a1 a0).1)) hS_ rfl (by kernel_rfl) (by kernel_rfl)))) (by exact e3.blkAt 0 rfl) (ro 2 rfl (wc ent69 e3 (afb e0 (hG.hp0 e3)) fun f2 a8 => wl (abk (by exact ⟨abv.out rfl, abv.new (a8.blkAt 0 rfl), abv.new (a8.blkAt 0 rfl), abv.new (a8.blkAt 0 rfl), trivial⟩) (rp 14 [3] (rt 4 (Vb false) rfl rfl (aai rfl (by intro w hS_; exact Eq.trans (b := Result.ok (Next.value (.bool (!d2))) w) (by kernel_rfl) (congrArg (fun b => Result.ok (Next.value (.bool b)) w) c4))) ?_))))))
  refine rp 12 [5] (aag [true, true, true, true, true, true, true, false, false, false, false, false, false, false, false, false, false, false, false, false] 6 28 (str ((el a1 a0).1)) [10, 11, 12, 13, 14, 15, 16, 17, 18, 19] (fun _ _ _ h => h.2.1) _ rfl rfl (by kernel_rfl) (by kernel_rfl) (by kernel_rfl) (by kernel_rfl) (by kernel_rfl) rfl (akb 26 (by kernel_rfl) (by kernel_rfl) (by kernel_rfl) (by intro w hS_; exact (afx a3 0 [(str ((el a1 a0).1)), (str ((el a1 a0).2.1)), (Vb ((el a1 a0).2.2))] 46 (str ((el a1 a0).1)) hS_ rfl (by kernel_rfl) (by kernel_rfl)))) (by exact a8.blkAt 0 rfl) (rp 10 [7] (aag [true, true, true, true, true, true, true, true, true, false, false, false, false, false, false, false, false, false, false, false] 8 30 (str ((el a1 a0).1)) [9, 10, 11, 12, 13, 14, 15, 16, 17, 18, 19] (fun _ _ _ h => h.2.2.1) _ rfl rfl (by kernel_rfl) (by kernel_rfl) (by kernel_rfl) (by kernel_rfl) (by kernel_rfl) rfl (akb 26 (by kernel_rfl) (by kernel_rfl) (by kernel_rfl) (by intro w hS_; exact (afx a3 0 [(str ((el a1 a0).1)), (str ((el a1 a0).2.1)), (Vb ((el a1 a0).2.2))] 46 (str ((el a1 a0).1)) hS_ rfl (by kernel_rfl) (by kernel_rfl)))) (by exact a8.blkAt 0 rfl) (ro 9 rfl (gy 26 (wc ent84 a8 (ada f3 (hG.hp0 a8)) fun h2 b7 => wl (abk (by exact ⟨abv.out rfl, abv.new (b7.blkAt 0 rfl), abv.out rfl, abv.new (b7.blkAt 0 rfl), trivial⟩) (rp 6 [10, 11] ?_))))))))
  refine rt 12 (Vb false) rfl rfl (aai rfl (by intro w hS_; exact Eq.trans (b := Result.ok (Next.value (.bool (!decide (((el a1 a0).1) = e2)))) w) (by kernel_rfl) (congrArg (fun b => Result.ok (Next.value (.bool b)) w) (by rw [decide_eq_true d3]; rfl)))) (rp 3 [13, 14] (rt 15 (Vs b9 (Int.toNat a0) c2) rfl rfl (akb 34 (by kernel_rfl) (by kernel_rfl) (by kernel_rfl) (by intro w hS_; exact (x_slTo b9 a1.length c2 46 3 .i64 a0 Tryz.underlying22 (by kernel_rfl) (by kernel_rfl) (by kernel_rfl) a1 rfl f4 f0))) (rp 1 [16] (aag [true, true, true, true, true, true, true, true, true, true, true, true, true, true, true, true, true, true, false, false] 17 39 (str ((el a1 a0).1)) [18, 19] (fun _ _ _ h => h.2.2.2.1) _ rfl rfl (by kernel_rfl) (by kernel_rfl) (by kernel_rfl) (by kernel_rfl) (by kernel_rfl) rfl (akb 34 (by kernel_rfl) (by kernel_rfl) (by kernel_rfl) (by intro w hS_; exact (afx a3 0 [(str ((el a1 a0).1)), (str ((el a1 a0).2.1)), (Vb ((el a1 a0).2.2))] 46 (str ((el a1 a0).1)) hS_ rfl (by kernel_rfl) (by kernel_rfl)))) (by exact b7.blkAt 0 rfl) (acw (by kernel_rfl) (gy 34 (bi a4 fun k9 h3 a4 => wc ent125 b7 (alf b9 (Int.toNat a0) c2 h3 (hG.hp0 b7) (by first | rfl | (simp; done) | omega | (simp; omega) | (rw [List.length_take]; omega)) (Rd.takeT aab (Int.toNat a0) (d9.hp b7)) (toNat_le f4 f0)) fun l0 h4 => wp 1 ?_)))))))
  refine wl (ql ?_)
  obtain rfl := oi a4
  exact je (Hp.front (Hp.front (Hp.front h4 2 _ rfl) 2 _ rfl) 2 _ rfl).kp
  replace a4 := ifn d3 a4
  refine adm 18 (fun j_ w_ w_' => abv [2, 3, 4, 5, 6, 7, 8, 9, 10, 11, 12, 13, 14, 15, 16, 17, 18, 19] (fun w' => w'.heap[a3]? = some (.cells [(str ((el a1 a0).1)), (str ((el a1 a0).2.1)), (Vb ((el a1 a0).2.2))].toArray 46 (0, 0))) j_ w_ w_' ∧ abv [10, 11, 12, 13, 14, 15, 16, 17, 18, 19] (fun w' => w'.heap[a3]? = some (.cells [(str ((el a1 a0).1)), (str ((el a1 a0).2.1)), (Vb ((el a1 a0).2.2))].toArray 46 (0, 0))) j_ w_ w_' ∧ abv [9, 10, 11, 12, 13, 14, 15, 16, 17, 18, 19] (fun w' => w'.heap[a3]? = some (.cells [(str ((el a1 a0).1)), (str ((el a1 a0).2.1)), (Vb ((el a1 a0).2.2))].toArray 46 (0, 0))) j_ w_ w_' ∧ abv [18, 19] (fun w' => w'.heap[a3]? = some (.cells [(str ((el a1 a0).1)), (str ((el a1 a0).2.1)), (Vb ((el a1 a0).2.2))].toArray 46 (0, 0))) j_ w_ w_' ∧ True) [false, false, false, false, false, false, false, false, false, false, false, false, false, false, false, false, false, false, false, false] (fun _ _ => ⟨abv.same, abv.same, abv.same, abv.same, trivial⟩) (by kernel_rfl) (by kernel_rfl) d1 rfl (aal (adb (aah (adb (aal (aah (aal acf))))))) fun l1 e4 => rp 17 [0] (aag [true, true, false, false, false, false, false, false, false, false, false, false, false, false, false, false, false, false, false, false] 1 23 (str ((el a1 a0).1)) [2, 3, 4, 5, 6, 7, 8, 9, 10, 11, 12, 13, 14, 15, 16, 17, 18, 19] (fun _ _ _ h => h.1) _ rfl rfl (by kernel_rfl) (by kernel_rfl) (by kernel_rfl) (by kernel_rfl) (by kernel_rfl) rfl (aai rfl (by intro w hS_; exact (afx a3 0 [(str ((el a1 a0).1)), (str ((el a1 a0).2.1)), (Vb ((el a1 a0).2.2))] 46 (str ((el a1 a0).1)) hS_ rfl (by kernel_rfl) (by kernel_rfl)))) (by exact e4.blkAt 0 rfl) (ro 2 rfl (wc ent69 e4 (afb e0 (hG.hp0 e4)) fun f2 a8 => wl (abk (by exact ⟨abv.out rfl, abv.new (a8.blkAt 0 rfl), abv.new (a8.blkAt 0 rfl), abv.new (a8.blkAt 0 rfl), trivial⟩) (rp 14 [3] (rt 4 (Vb false) rfl rfl (aai rfl (by intro w hS_; exact Eq.trans (b := Result.ok (Next.value (.bool (!d2))) w) (by kernel_rfl) (congrArg (fun b => Result.ok (Next.value (.bool b)) w) c4))) (rp 12 [5] ?_)))))))
  refine aag [true, true, true, true, true, true, true, false, false, false, false, false, false, false, false, false, false, false, false, false] 6 28 (str ((el a1 a0).1)) [10, 11, 12, 13, 14, 15, 16, 17, 18, 19] (fun _ _ _ h => h.2.1) _ rfl rfl (by kernel_rfl) (by kernel_rfl) (by kernel_rfl) (by kernel_rfl) (by kernel_rfl) rfl (akb 26 (by kernel_rfl) (by kernel_rfl) (by kernel_rfl) (by intro w hS_; exact (afx a3 0 [(str ((el a1 a0).1)), (str ((el a1 a0).2.1)), (Vb ((el a1 a0).2.2))] 46 (str ((el a1 a0).1)) hS_ rfl (by kernel_rfl) (by kernel_rfl)))) (by exact a8.blkAt 0 rfl) (rp 10 [7] (aag [true, true, true, true, true, true, true, true, true, false, false, false, false, false, false, false, false, false, false, false] 8 30 (str ((el a1 a0).1)) [9, 10, 11, 12, 13, 14, 15, 16, 17, 18, 19] (fun _ _ _ h => h.2.2.1) _ rfl rfl (by kernel_rfl) (by kernel_rfl) (by kernel_rfl) (by kernel_rfl) (by kernel_rfl) rfl (akb 26 (by kernel_rfl) (by kernel_rfl) (by kernel_rfl) (by intro w hS_; exact (afx a3 0 [(str ((el a1 a0).1)), (str ((el a1 a0).2.1)), (Vb ((el a1 a0).2.2))] 46 (str ((el a1 a0).1)) hS_ rfl (by kernel_rfl) (by kernel_rfl)))) (by exact a8.blkAt 0 rfl) (ro 9 rfl (gy 26 (wc ent84 a8 (ada f3 (hG.hp0 a8)) fun h2 b7 => wl (abk (by exact ⟨abv.out rfl, abv.new (b7.blkAt 0 rfl), abv.out rfl, abv.new (b7.blkAt 0 rfl), trivial⟩) (rp 6 [10, 11] (rt 12 (Vb true) rfl rfl (aai rfl (by intro w hS_; exact Eq.trans (b := Result.ok (Next.value (.bool (!decide (((el a1 a0).1) = e2)))) w) (by kernel_rfl) (congrArg (fun b => Result.ok (Next.value (.bool b)) w) (by rw [decide_eq_false d3]; rfl)))) ?_))))))))
  refine rp 0 [13, 14, 15, 16, 17] (acw (by kernel_rfl) (wp 2 (wl (ql ?_))))
  obtain rfl := oi a4
  exact je (Hp.front (Hp.front (Hp.front b7 2 _ rfl) 2 _ rfl) 2 _ rfl).kp
  intro f5 G e5
  refine cb a2 (fun h5 a2 => ?_) (fun h5 a2 => ?_)
  refine sr (wp 2 (nq (ct (st (bt_ (st (acp ?_)))))))
  refine bt_ (acp ?_)
  obtain rfl := oi a2
  obtain rfl := oi hr
  exact rv e5.kp
  refine ck (qn (sr (wp 1 (aav e5 0 a3 0 [(str ((el a1 a0).1)), (str ((el a1 a0).2.1)), (Vb ((el a1 a0).2.2))] 46 (str ((el a1 a0).1)) rfl rfl (by kernel_rfl) (by kernel_rfl) (gi a2 fun h6 a2 => abn ([59] : Str) ((el a1 a0).1) (by kernel_rfl) (by kernel_rfl) h6 (bi a2 fun b3 h7 a2 => ?_))))))
  have h8 : Hp w [] [rwt eB 5 1 b6 a6 a7 a5, blk a3 [(str ((el a1 a0).1)), (str ((el a1 a0).2.1)), (Vb ((el a1 a0).2.2))] 46, blk b2 [(Vp (bif b5 then some ⟨b2, 0, none⟩ else none)), (Vs a6 a5.length a7)] 131] f5 := e5.front 2 _ rfl
  have d4 : Hp w [] [blk b2 [(Vp (bif b5 then some ⟨b2, 0, none⟩ else none)), (Vs a6 a5.length a7)] 131, rwt eB 5 1 b6 a6 a7 a5, blk a3 [(str ((el a1 a0).1)), (str ((el a1 a0).2.1)), (Vb ((el a1 a0).2.2))] 46] f5 := h8.front 2 _ rfl
  refine aad 126 #[] [(Vp (some ⟨b2, 0, none⟩)), (str (([59] : Str) ++ ((el a1 a0).1)))] _ ent126 (by kernel_rfl) (by kernel_rfl) (aao b2 b5 b6 a6 a7 h7 (hG.hp0 d4) (d4.hand (L1 := [blk b2 [(Vp (bif b5 then some ⟨b2, 0, none⟩ else none)), (Vs a6 a5.length a7)] 131, rwt eB 5 1 b6 a6 a7 a5]) (L2 := [blk a3 [(str ((el a1 a0).1)), (str ((el a1 a0).2.1)), (Vb ((el a1 a0).2.2))] 46])) (d4.highs hG (fun _ h => absurd h (by simp)) 2 rfl)) ?_
  rintro _ h9 ⟨b8, b0, b1, rfl, f6⟩
  have c1 : Hp w [] [blk b2 [(Vp (some ⟨b2, 0, none⟩)), (Vs b0 b3.2.2.2.length b1)] 131, rwt eB 5 1 b8 b0 b1 b3.2.2.2, blk a3 [(str ((el a1 a0).1)), (str ((el a1 a0).2.1)), (Vb ((el a1 a0).2.2))] 46] h9 := Hp.callK (L1 := [blk b2 [(Vp (bif b5 then some ⟨b2, 0, none⟩ else none)), (Vs a6 a5.length a7)] 131, rwt eB 5 1 b6 a6 a7 a5]) (L2 := [blk a3 [(str ((el a1 a0).1)), (str ((el a1 a0).2.1)), (Vb ((el a1 a0).2.2))] 46]) d4 f6; clear f6
  refine nq (cs (sr (wp 1 (aav c1 2 a3 2 [(str ((el a1 a0).1)), (str ((el a1 a0).2.1)), (Vb ((el a1 a0).2.2))] 46 (Vb ((el a1 a0).2.2)) rfl rfl (by kernel_rfl) (by kernel_rfl) (wp 1 (nq (cb a2 (fun i0 a2 => ?_) (fun i0 a2 => ?_))))))))
  refine cs (sr (wp 1 (aav c1 2 a3 1 [(str ((el a1 a0).1)), (str ((el a1 a0).2.1)), (Vb ((el a1 a0).2.2))] 46 (str ((el a1 a0).2.1)) rfl rfl (by kernel_rfl) (by kernel_rfl) (wp 1 (nq (cn a2 (fun i1 a2 => ?_) (fun i1 a2 => ?_)))))))
  refine sr (wp 2 (nq (ct (st (st (bt_ (st ?_)))))))
  refine acp (bt_ (acp ?_))
  obtain rfl := oi a2
  obtain rfl := oi hr
  exact rv c1.kp
  refine ck (qn (ach (acg (aci (qn (cr (gi a2 fun i2 a2 => aac a0 (1 : Int) (by kernel_rfl) (by kernel_rfl) i2 (wp 1 ?_))))))))
  refine wl (ql ?_)
  exact ⟨(c0, a0 + (1 : Int), b3.2.2.2, true, b8, b0, b1), _, rfl, by kernel_rfl, ⟨(Hp.front (Hp.front c1 1 _ rfl) 1 _ rfl).kp, a2⟩, Nat.lt_succ_self _⟩
  refine ck (qn (sr (wp 1 (aav c1 2 a3 1 [(str ((el a1 a0).1)), (str ((el a1 a0).2.1)), (Vb ((el a1 a0).2.2))] 46 (str ((el a1 a0).2.1)) rfl rfl (by kernel_rfl) (by kernel_rfl) (wp 1 (nq (bi a2 fun i3 b4 a2 => cut (σ := Str) [0, 2, 3, 4, 7, 15, 16, 17] (fun c5 => [(7, (str c5))]) (fun c5 w' => Hp w [] [blk b2 [(Vp (some ⟨b2, 0, none⟩)), (Vs b0 b3.2.2.2.length b1)] 131, rwt eB 5 1 b8 b0 b1 b3.2.2.2] w' ∧ .inl c5 = i3) ?_ ?_)))))))
  refine sr (wp 1 (bi b4 fun l2 i4 b4 => wc ent26 c1 (afw i4 (hG.hp0 c1)) fun l3 f7 => wp 5 (nq (bi b4 fun i5 a9 b4 => cut (σ := Bool) [0, 2, 3, 4, 7, 15, 16, 17, 75] (fun d5 => [(75, (Vb d5))]) (fun d5 w' => Hp w [] [blk b2 [(Vp (some ⟨b2, 0, none⟩)), (Vs b0 b3.2.2.2.length b1)] 131, rwt eB 5 1 b8 b0 b1 b3.2.2.2] w' ∧ d5 = i5) ?_ ?_))))
  refine cr (wp 1 (bi a9 fun l4 i6 a9 => wc ent69 f7 (afb i6 (hG.hp0 f7)) fun l5 d6 => wp 1 (wb a9 (fun i7 a9 => ?_) (fun i7 a9 => ?_))))
  refine wp 1 (gy 62 (wb a9 (fun i9 a9 => ?_) (fun i9 a9 => ?_)))
  refine wp 4 (gy 62 (wd a9 (fun j0 a9 => ?_) (fun j0 a9 => ?_)))
  refine wp 1 (gy 69 (gi a9 fun j1 a9 => adz ((el a1 a0).2.1) .i64 (0 : Int) Tryz.underlying9 (by kernel_rfl) (by kernel_rfl) j1 (gy 69 (ack (at_ ((el a1 a0).2.1) (0 : Int)) (91 : UInt8) (by kernel_rfl) (by kernel_rfl) (wp 3 (wl (ql ?_)))))))
  obtain rfl := oi a9
  exact ⟨(!decide ((at_ ((el a1 a0).2.1) (0 : Int)) = (91 : UInt8))), _, rfl, by kernel_rfl, (Hp.front (Hp.front d6 1 _ rfl) 1 _ rfl).kp, rfl⟩
  refine wp 6 (wl (ql ?_))
  obtain rfl := oi a9
  exact ⟨true, _, rfl, by kernel_rfl, (Hp.front (Hp.front d6 1 _ rfl) 1 _ rfl).kp, rfl⟩
  refine wp 11 (wl (ql ?_))
  obtain rfl := oi a9
  exact ⟨true, _, rfl, by kernel_rfl, (Hp.front (Hp.front d6 1 _ rfl) 1 _ rfl).kp, rfl⟩
  refine wp 13 (wl (ql ?_))
  obtain rfl := oi a9
  exact ⟨false, _, rfl, by kernel_rfl, (Hp.front (Hp.front d6 1 _ rfl) 1 _ rfl).kp, rfl⟩
  rintro d5 l6 G ⟨e6, rfl⟩
  refine cb b4 (fun j2 b4 => ?_) (fun j2 b4 => ?_)
  refine sr (wp 1 (bi b4 fun f8 j3 b4 => wc ent99 e6 (amj j3 (hG.hp0 e6)) fun l7 f9 => wp 5 (nq (cs (cs ?_)))))
  refine cr (wp 1 (aec f8.2 (0 : UInt8) (by kernel_rfl) (by kernel_rfl) (nq (cn b4 (fun j4 b4 => ?_) (fun j4 b4 => ?_)))))
  refine sr (wp 2 (nq (ct (st (acp ?_)))))
  obtain rfl := oi b4
  refine bt_ (st (acp (bt_ (acp ?_))))
  obtain rfl := oi a2
  obtain rfl := oi hr
  exact rv f9.kp
  refine ck (qn (cr (wp 2 (wl (ql ?_)))))
  obtain rfl := oi b4
  exact ⟨f8.1, _, rfl, by kernel_rfl, (Hp.front (Hp.front f9 1 _ rfl) 1 _ rfl).kp, rfl⟩
  refine ck (ql ?_)
  obtain rfl := oi b4
  exact ⟨(el a1 a0).2.1, _, rfl, by kernel_rfl, (Hp.front (Hp.front e6 1 _ rfl) 1 _ rfl).kp, rfl⟩
  rintro c5 g0 G ⟨j5, rfl⟩
  refine cr (wp 1 (gi a2 fun j6 a2 => abn ([61] : Str) c5 (by kernel_rfl) (by kernel_rfl) j6 (bi a2 fun e7 j7 a2 => ?_)))
  have j8 : Hp w [] [rwt eB 5 1 b8 b0 b1 b3.2.2.2, blk b2 [(Vp (some ⟨b2, 0, none⟩)), (Vs b0 b3.2.2.2.length b1)] 131] g0 := j5.front 1 _ rfl
  have d7 : Hp w [] [blk b2 [(Vp (some ⟨b2, 0, none⟩)), (Vs b0 b3.2.2.2.length b1)] 131, rwt eB 5 1 b8 b0 b1 b3.2.2.2] g0 := j8.front 1 _ rfl
  refine aad 126 #[] [(Vp (some ⟨b2, 0, none⟩)), (str (([61] : Str) ++ c5))] _ ent126 (by kernel_rfl) (by kernel_rfl) (aao b2 true b8 b0 b1 j7 (hG.hp0 d7) (d7.hand (L1 := [blk b2 [(Vp (some ⟨b2, 0, none⟩)), (Vs b0 b3.2.2.2.length b1)] 131, rwt eB 5 1 b8 b0 b1 b3.2.2.2]) (L2 := [])) (d7.highs hG (fun _ h => absurd h (by simp)) 2 rfl)) ?_
  rintro _ j9 ⟨g1, e8, e9, rfl, g2⟩
  have k0 : Hp w [] [blk b2 [(Vp (some ⟨b2, 0, none⟩)), (Vs e8 e7.2.2.2.length e9)] 131, rwt eB 5 1 g1 e8 e9 e7.2.2.2] j9 := Hp.callK (L1 := [blk b2 [(Vp (some ⟨b2, 0, none⟩)), (Vs b0 b3.2.2.2.length b1)] 131, rwt eB 5 1 b8 b0 b1 b3.2.2.2]) (L2 := []) d7 g2; clear g2
  refine wl (bn (qn (cr (gi a2 fun k1 a2 => aac a0 (1 : Int) (by kernel_rfl) (by kernel_rfl) k1 (wp 1 (wl (ql ?_)))))))
  exact ⟨(c0, a0 + (1 : Int), e7.2.2.2, true, g1, e8, e9), _, rfl, by kernel_rfl, ⟨(Hp.front (Hp.front k0 1 _ rfl) 1 _ rfl).kp, a2⟩, Nat.lt_succ_self _⟩
  refine ach (acg (acq (aci (ql ?_))))
  obtain rfl := oi a2
  exact ⟨(a5, b5, b6, a6, a7), _, rfl, by kernel_rfl, (Hp.front (Hp.front d0 1 _ rfl) 1 _ rfl).kp, rfl⟩
  rintro ⟨c3, c8, c9, c6, c7⟩ l8 G ⟨k2, rfl⟩
  refine sr (gi hr fun l9 hr => aad 127 #[] [(Vp (some ⟨b2, 0, none⟩))] _ ent127 (by kernel_rfl) (by kernel_rfl) (sh_BString b2 c8 c9 c6 c7 c3 k2 0 1 rfl rfl (by decide)) ?_)
  rintro _ m0 ⟨rfl, k3⟩
  refine wp 2 (nq (ct ?_))
  obtain rfl := oi hr
  exact rv k3.kp
theorem ank {fu : Nat} {a0 : (Str × (Str × Str × Str × Int × (List (Str × Str × Bool)) × (List (Str × Str × Bool))) × (List (Str × Str × Bool)))} (a3 : Option Addr) (b3 : Nat) (a4 : Nat) (a5 : Option Addr) (b4 : Nat) (a6 : Nat) (a1 : Option Addr) (b5 : Nat) (a2 : Nat) {w : World} {r : (Str × UInt8)} (hr : aim fu a0 = some r) (hG : Gl w) (c2 : b3 = a0.2.1.2.2.2.2.1.length) (c3 : Rd w a3 (List.flatMap aaa a0.2.1.2.2.2.2.1)) (c4 : b3 ≤ a4) (c5 : b4 = a0.2.1.2.2.2.2.2.length) (c6 : Rd w a5 (List.flatMap aaa a0.2.1.2.2.2.2.2)) (c7 : b4 ≤ a6) (c8 : b5 = a0.2.2.length) (c9 : Rd w a1 (List.flatMap aaa a0.2.2)) (d0 : b5 ≤ a2) : CR Tryz.prog 50 [(Value.agg #[(str a0.1), (str a0.2.1.1), (str a0.2.1.2.1), (str a0.2.1.2.2.1), (Vi .i64 a0.2.1.2.2.2.1), (Vs a3 b3 a4), (Vs a5 b4 a6), (Vs a1 b5 a2)])] w fun v w' => v = (Value.tuple #[(str r.1), (bt r.2)]) ∧ Hp w [] [] w' := by
  subst c2
  subst c5
  subst c8
  have hH : Hp w [] [] w := Hp.refl w
  refine enter (k := 48) Tryz.func50 rfl rfl (Nat.le_of_ble_eq_true rfl) ?_
  unfold aim at hr
  refine sr (adl hH [(str a0.1), (str a0.2.1.1), (str a0.2.1.2.1), (str a0.2.1.2.2.1), (Vi .i64 a0.2.1.2.2.2.1), (Vs a3 a0.2.1.2.2.2.2.1.length a4), (Vs a5 a0.2.1.2.2.2.2.2.length a6), (Vs a1 a0.2.2.length a2)] 70 (fun b => (Vp (some ⟨b, 0, none⟩))) rfl rfl (by kernel_rfl) fun b1 w2 b6 => wp 2 (nq (sr (wp 1 (aav b6 0 b1 0 [(str a0.1), (str a0.2.1.1), (str a0.2.1.2.1), (str a0.2.1.2.2.1), (Vi .i64 a0.2.1.2.2.2.1), (Vs a3 a0.2.1.2.2.2.2.1.length a4), (Vs a5 a0.2.1.2.2.2.2.2.length a6), (Vs a1 a0.2.2.length a2)] 70 (str a0.1) rfl rfl (by kernel_rfl) (by kernel_rfl) ?_)))))
  refine bi hr fun y4 d1 hr => wc ent99 b6 (amj d1 (hG.hp0 b6)) fun w6 a8 => wp 5 (nq (cs (sr (wp 1 (aec y4.2 (0 : UInt8) (by kernel_rfl) (by kernel_rfl) ?_)))))
  refine nq (cn hr (fun h9 hr => ?_) (fun h9 hr => ?_))
  refine sr (wp 2 (nq (ct (st ?_))))
  obtain rfl := oi hr
  exact rv a8.kp
  refine ck (qn (sr (wp 1 (akx a8 0 b1 1 6 [(str a0.1), (str a0.2.1.1), (str a0.2.1.2.1), (str a0.2.1.2.2.1), (Vi .i64 a0.2.1.2.2.2.1), (Vs a3 a0.2.1.2.2.2.2.1.length a4), (Vs a5 a0.2.1.2.2.2.2.2.length a6), (Vs a1 a0.2.2.length a2)] [(str a0.2.1.1), (str a0.2.1.2.1), (str a0.2.1.2.2.1), (Vi .i64 a0.2.1.2.2.2.1), (Vs a3 a0.2.1.2.2.2.2.1.length a4), (Vs a5 a0.2.1.2.2.2.2.2.length a6)] 70 rfl rfl rfl (by kernel_rfl) (by kernel_rfl) (by kernel_rfl) (bi hr fun a7 d2 hr => wc ent95 a8 (K_L_address_Print a3 a0.2.1.2.2.2.2.1.length a4 a5 a0.2.1.2.2.2.2.2.length a6 d2 (hG.hp0 a8) rfl (c3.hp a8) c4 rfl (c6.hp a8) c7) fun e7 a9 => wp 5 (wl ?_))))))
  refine qn (cs (sr (wp 1 (aec a7.2 (0 : UInt8) (by kernel_rfl) (by kernel_rfl) (nq (cn hr (fun d3 hr => ?_) (fun d3 hr => ?_)))))))
  refine sr (wp 2 (nq (ct (st ?_))))
  obtain rfl := oi hr
  exact rv a9.kp
  refine ck (qn (sr (wp 1 (aav a9 0 b1 7 [(str a0.1), (str a0.2.1.1), (str a0.2.1.2.1), (str a0.2.1.2.2.1), (Vi .i64 a0.2.1.2.2.2.1), (Vs a3 a0.2.1.2.2.2.2.1.length a4), (Vs a5 a0.2.1.2.2.2.2.2.length a6), (Vs a1 a0.2.2.length a2)] 70 (Vs a1 a0.2.2.length a2) rfl rfl (by kernel_rfl) (by kernel_rfl) (bi hr fun b8 d4 hr => aad 100 #[] [(Vs a1 a0.2.2.length a2)] _ ent100 (by kernel_rfl) (by kernel_rfl) (ais a1 a0.2.2.length a2 d4 (hG.hp0 a9) rfl (c9.hp a9) d0) ?_)))))
  rintro _ d5 ⟨d6, b9, c0, rfl, c1⟩
  have b0 : Hp w [] [rwt aaa 46 3 d6 b9 c0 b8, blk b1 [(str a0.1), (str a0.2.1.1), (str a0.2.1.2.1), (str a0.2.1.2.2.1), (Vi .i64 a0.2.1.2.2.2.1), (Vs a3 a0.2.1.2.2.2.2.1.length a4), (Vs a5 a0.2.1.2.2.2.2.2.length a6), (Vs a1 a0.2.2.length a2)] 70] d5 := Hp.callK (L1 := []) (L2 := [blk b1 [(str a0.1), (str a0.2.1.1), (str a0.2.1.2.1), (str a0.2.1.2.2.1), (Vi .i64 a0.2.1.2.2.2.1), (Vs a3 a0.2.1.2.2.2.2.1.length a4), (Vs a5 a0.2.1.2.2.2.2.2.length a6), (Vs a1 a0.2.2.length a2)] 70]) a9 c1; clear c1
  refine bi hr fun b7 d7 hr => wc ent70 b0 (aih b9 b8.length c0 d7 (hG.hp0 b0) rfl (b0.rdrw 0 rfl) (b0.rwcap 0 rfl)) fun e8 b2 => wp 5 (nq (cs (sr (wp 1 (aec b7.2 (0 : UInt8) (by kernel_rfl) (by kernel_rfl) ?_)))))
  refine nq (cn hr (fun d8 hr => ?_) (fun d8 hr => ?_))
  refine sr (wp 2 (nq (ct (st ?_))))
  obtain rfl := oi hr
  exact rv b2.kp
  refine ck (qn (cs (sr (wp 1 (aav b2 1 b1 0 [(str a0.1), (str a0.2.1.1), (str a0.2.1.2.1), (str a0.2.1.2.2.1), (Vi .i64 a0.2.1.2.2.2.1), (Vs a3 a0.2.1.2.2.2.2.1.length a4), (Vs a5 a0.2.1.2.2.2.2.2.length a6), (Vs a1 a0.2.2.length a2)] 70 (str a0.1) rfl rfl (by kernel_rfl) (by kernel_rfl) (wp 1 (nq (cd hr (fun d9 hr => ?_) (fun d9 hr => ?_)))))))))
  refine sr (wp 1 (gi hr fun e0 hr => abn ([60] : Str) a7.1 (by kernel_rfl) (by kernel_rfl) e0 (gi hr fun e1 hr => abn (([60] : Str) ++ a7.1) ([62] : Str) (by kernel_rfl) (by kernel_rfl) e1 (wp 1 (gi hr fun e2 hr => abn ((([60] : Str) ++ a7.1) ++ ([62] : Str)) b7.1 (by kernel_rfl) (by kernel_rfl) e2 ?_)))))
  refine wp 2 (nq (ct (st ?_)))
  obtain rfl := oi hr
  exact rv b2.kp
  refine ck (qn (sr (wp 1 (gi hr fun e3 hr => abn y4.1 ([32, 60] : Str) (by kernel_rfl) (by kernel_rfl) e3 (wp 1 (gi hr fun e4 hr => abn (y4.1 ++ ([32, 60] : Str)) a7.1 (by kernel_rfl) (by kernel_rfl) e4 ?_))))))
  refine gi hr fun e5 hr => abn ((y4.1 ++ ([32, 60] : Str)) ++ a7.1) ([62] : Str) (by kernel_rfl) (by kernel_rfl) e5 (wp 1 (gi hr fun e6 hr => abn (((y4.1 ++ ([32, 60] : Str)) ++ a7.1) ++ ([62] : Str)) b7.1 (by kernel_rfl) (by kernel_rfl) e6 (wp 2 (nq (ct ?_)))))
  obtain rfl := oi hr
  exact rv b2.kp
theorem aeo {fu : Nat} {s_0 : Str} {w : World} {r : Str} (hr : acx fu s_0 = some r) (hG : Gl w) : CR Tryz.prog 52 [(str s_0), (Value.func (.func 53) #[] #[])] w fun v w' => v = (str r) ∧ Hp w [] [] w' := by
  have hH : Hp w [] [] w := Hp.refl w
  refine enter (k := 26) Tryz.func52 rfl rfl (Nat.le_of_ble_eq_true rfl) ?_
  unfold acx at hr
  refine sr (wp 1 (nq (sr (wp 1 (w_tobytes hH s_0 5 Tryz.underlying9 Tryz.underlying92 Tryz.underlying5 (by kernel_rfl) fun a1 cap2 w3 b2 => wp 1 ?_)))))
  refine nq (bi hr fun b1 b3 hr => cut (σ := Str) [4, 5] (fun a4 => []) (fun a4 w' => Hp w [] [brow (Vs a1 s_0.length cap2) s_0.length a4] w' ∧ a4 = b1) ?_ ?_)
  refine sr (wp 3 (nq (ce (lpG (σ := Nat × Str × Int) [1, 4, 5, 10, 11, 12] (fun ⟨a5, a3, a2⟩ => [(12, (Vi .i64 a2))]) (fun ⟨a5, a3, a2⟩ w' => Hp w [] [brow (Vs a1 s_0.length cap2) s_0.length a3] w' ∧ ade fu s_0 a5 a3 a2 = some b1) (fun ⟨a5, a3, a2⟩ => a5) (fu, s_0, (0 : Int)) (by exact ⟨b2.kp, b3⟩) ?_))))
  rintro ⟨_ | a5, a3, a2⟩ c3 G ⟨a6, a0⟩
  · exact absurd (show none = some _ from a0) (by simp)
  rw [ade.eq_2] at a0
  refine sr (wp 1 (nq (cs (cd a0 (fun b4 a0 => ?_) (fun b4 a0 => ?_)))))
  refine ck (qn (cs (ce (sr (wp 1 (gi a0 fun b5 a0 => aht a1 s_0.length cap2 5 1 .i64 a2 Tryz.underlying92 (by kernel_rfl) (by kernel_rfl) (by kernel_rfl) a3 (a6.browlen 0 rfl).symm b5 (Rd.ofbytes (a6.rdbrow 0 rfl)) aks (by decide) (gi a0 fun b6 a0 => ?_)))))))
  refine w_ldE1 a1 eB a3 1 a2 aks (Rd.ofbytes (a6.rdbrow 0 rfl)) (bt (at_ a3 a2)) b6 (by decide) (by kernel_rfl) (by kernel_rfl) (by kernel_rfl) (wp 2 (nq (cr (wp 4 (bi a0 fun a7 b7 a0 => wc ent53 a6 (alv b7 (hG.hp0 a6)) fun c4 a8 => gi a0 fun b8 a0 => aht a1 s_0.length cap2 5 1 .i64 a2 Tryz.underlying92 (by kernel_rfl) (by kernel_rfl) (by kernel_rfl) a3 (a8.browlen 0 rfl).symm b8 (Rd.ofbytes (a8.rdbrow 0 rfl)) aks (by decide) ?_)))))
  refine gi a0 fun b9 a0 => w_stB a8 0 a1 s_0.length cap2 a2 a3 a7 rfl b9 (by kernel_rfl) (by kernel_rfl) (by kernel_rfl) fun c0 a9 => ?_
  replace a9 : Hp w [] [brow (Vs a1 s_0.length cap2) s_0.length (List.set a3 (Int.toNat a2) a7)] c0 := a9
  refine wl (bn (qn (cr (gi a0 fun c1 a0 => aac a2 (1 : Int) (by kernel_rfl) (by kernel_rfl) c1 (wp 1 (wl (ql ?_)))))))
  exact ⟨(a5, List.set a3 (Int.toNat a2) a7, a2 + (1 : Int)), _, rfl, by kernel_rfl, ⟨a9.kp, a0⟩, Nat.lt_succ_self _⟩
  refine ach (acg (acq (aci (ql ?_))))
  obtain rfl := oi a0
  exact ⟨a3, _, rfl, by kernel_rfl, a6.kp, rfl⟩
  rintro a4 c2 G ⟨b0, rfl⟩
  refine sr (wp 1 (aed (v := (str a4)) (w' := c2) rfl rfl (anm a4 a1 s_0.length cap2 5 (Rd.bytes (Rd.ofbytes (b0.rdbrow 0 rfl))) (b0.browlen 0 rfl) Tryz.underlying92 Tryz.underlying9 Tryz.underlying5 (by kernel_rfl)) (wp 1 (nq (ct ?_)))))
  obtain rfl := oi hr
  exact rv b0.kp
theorem K_L_header_cutPort {fu : Nat} {s_0 : Str} {w : World} {r : (Str × Str × Bool)} (hr : alk fu s_0 = some r) (hG : Gl w) : CR Tryz.prog 57 [(str s_0)] w fun v w' => v = (Value.tuple #[(str r.1), (str r.2.1), (Vb r.2.2)]) ∧ Hp w [] [] w' := by
  have hH : Hp w [] [] w := Hp.refl w
  refine enter (k := 30) Tryz.func57 rfl rfl (Nat.le_of_ble_eq_true rfl) ?_
  unfold alk at hr
  refine sr (wp 3 (nq (sr (wp 1 (gi hr fun g4 hr => aad 109 #[] [(str s_0), (bt (58 : UInt8))] _ ent109 (by kernel_rfl) (by kernel_rfl) (sh_LastIndexByte s_0 (58 : UInt8) w g4) ?_)))))
  rintro _ w1 ⟨rfl, a3⟩
  have a1 := hH.call a3; clear a3
  refine wp 1 (nq (cs (bi hr fun a7 a0 hr => agq a1 [0, 2, 3, 4, 5, 21] [(21, (Vb a7))] ?_ ?_)))
  refine cr (wp 2 (wd a0 (fun a8 a0 => ?_) (fun a8 a0 => ?_)))
  refine wp 11 (wl (ql ?_))
  obtain rfl := oi a0
  exact je a1.kp
  refine wp 2 (gy 10 (gi a0 fun a9 a0 => akw s_0 .i64 (ann (· == (58 : UInt8)) s_0) Tryz.underlying9 (by kernel_rfl) (by kernel_rfl) a9 (gy 10 (gi a0 fun b0 a0 => aad 110 #[] [(str (List.take (Int.toNat (ann (· == (58 : UInt8)) s_0)) s_0)), (str ([91] : Str))] _ ent110 (by kernel_rfl) (by kernel_rfl) (sh_Contains (List.take (Int.toNat (ann (· == (58 : UInt8)) s_0)) s_0) ([91] : Str) w1 b0 (hG.hp0 a1)) ?_))))
  rintro _ b1 ⟨rfl, a4⟩
  have a2 := a1.call a4; clear a4
  refine gy 10 (wb a0 (fun b2 a0 => ?_) (fun b2 a0 => ?_))
  refine wp 2 (gy 15 (gi a0 fun b3 a0 => ahu s_0 .i64 (ann (· == (58 : UInt8)) s_0) Tryz.underlying9 (by kernel_rfl) (by kernel_rfl) b3 (gy 15 (gi a0 fun b4 a0 => aad 110 #[] [(str (List.drop (Int.toNat (ann (· == (58 : UInt8)) s_0)) s_0)), (str ([93] : Str))] _ ent110 (by kernel_rfl) (by kernel_rfl) (sh_Contains (List.drop (Int.toNat (ann (· == (58 : UInt8)) s_0)) s_0) ([93] : Str) b1 b4 (hG.hp0 a2)) ?_))))
  rintro _ c1 ⟨rfl, a5⟩
  have b5 := a2.call a5; clear a5
  refine wp 2 (wl (ql ?_))
  obtain rfl := oi a0
  exact je b5.kp
  refine wp 6 (wl (ql ?_))
  obtain rfl := oi a0
  exact je a2.kp
  intro c2 G a6
  refine cb hr (fun b6 hr => ?_) (fun b6 hr => ?_)
  refine sr (wp 4 (nq (ct (st ?_))))
  obtain rfl := oi hr
  exact rv a6.kp
  refine ck (qn (cs (gi hr fun b7 hr => gi hr fun b8 hr => gi hr fun b9 hr => cdr 8 a6 (adb acf) fun c3 c0 => rp 6 [0, 1] (rt 2 (str (List.take (Int.toNat (ann (· == (58 : UInt8)) s_0)) s_0)) rfl rfl (aai rfl (by intro w hS_; exact (x_slice_to s_0 .i64 (ann (· == (58 : UInt8)) s_0) Tryz.underlying9 (by kernel_rfl) (by kernel_rfl) b7))) (rp 3 [3, 4] ?_)))))
  refine rt 5 (Vi .i64 ((ann (· == (58 : UInt8)) s_0) + (1 : Int))) rfl rfl (aai rfl (by intro w hS_; exact (aiv (ann (· == (58 : UInt8)) s_0) (1 : Int) (by kernel_rfl) (by kernel_rfl) b8))) (rt 6 (str (List.drop (Int.toNat ((ann (· == (58 : UInt8)) s_0) + (1 : Int))) s_0)) rfl rfl (aai rfl (by intro w hS_; exact (amo s_0 .i64 ((ann (· == (58 : UInt8)) s_0) + (1 : Int)) Tryz.underlying9 (by kernel_rfl) (by kernel_rfl) b9))) (rp 0 [7] (acw (by kernel_rfl) (wp 2 (nq (ct ?_))))))
  obtain rfl := oi hr
  exact rv c0.kp
theorem K_L_address_Get {fu : Nat} {a1 : List (Str × Str × Bool)} {b0 : Str} (a3 : Option Addr) (a6 : Nat) (a7 : Nat) {w : World} {r : (Str × Bool)} (hr : anv fu a1 b0 = some r) (hG : Gl w) (b4 : a6 = a1.length) (b1 : Rd w a3 (List.flatMap aaa a1)) (c7 : a6 ≤ a7) : CR Tryz.prog 28 [(Vs a3 a6 a7), (str b0)] w fun v w' => v = (Value.tuple #[(str r.1), (Vb r.2)]) ∧ Hp w [] [] w' := by
  subst b4
  have hH : Hp w [] [] w := Hp.refl w
  refine enter (k := 24) Tryz.func28 rfl rfl (Nat.le_of_ble_eq_true rfl) ?_
  unfold anv at hr
  refine sr (wp 2 (nq (sr (wp 1 (bi hr fun y1 b5 hr => wc ent84 hH (ada b5 (hG.hp0 hH)) fun w3 b2 => ?_)))))
  refine wp 1 (nq (bi hr fun b6 b7 hr => cut1 b2 b6 [4, 5] (fun b8 => []) ?_ ?_))
  refine sr (wp 3 (nq (ce (lpS (fun b3 a0 => ajk fu a1 y1 b3 a0) (0 : Int) b2 b7 [1, 4, 5, 10, 11, 12] (fun a0 => [(12, (Vi .i64 a0))]) (fun _ => rfl) ?_))))
  rintro b3 a0 c8 G a4 a2
  rw [ajk.eq_2] at a2
  refine sr (wp 1 (nq (cs (cd a2 (fun b9 a2 => ?_) (fun b9 a2 => ?_)))))
  refine ck (qn (cs (ce (sr (gi a2 fun c0 a2 => aht a3 a1.length a7 46 3 .i64 a0 Tryz.underlying22 (by kernel_rfl) (by kernel_rfl) (by kernel_rfl) a1 rfl c0 (b1.hp a4) aab (by decide) (gi a2 fun c1 a2 => ahm a3 aaa a1 3 a0 aab (b1.hp a4) [(str ((el a1 a0).1)), (str ((el a1 a0).2.1)), (Vb ((el a1 a0).2.2))] c1 (by kernel_rfl) (by kernel_rfl) (by kernel_rfl) (by kernel_rfl) (by decide) ?_))))))
  refine adl a4 [(str ([] : Str)), (str ([] : Str)), (Vb false)] 46 (fun b => (Vp (some ⟨b, 0, none⟩))) rfl rfl (by kernel_rfl) fun a5 c9 c2 => aff c2 0 a5 0 [(str ([] : Str)), (str ([] : Str)), (Vb false)] [(str ((el a1 a0).1)), (str ((el a1 a0).2.1)), (Vb ((el a1 a0).2.2))] 46 [blk a5 [(str ((el a1 a0).1)), (str ((el a1 a0).2.1)), (Vb ((el a1 a0).2.2))] 46] rfl (Nat.le_of_ble_eq_true rfl) (by kernel_rfl) (by kernel_rfl) rfl (by kernel_rfl) rfl fun d0 a8 => nq (sr (wp 1 (aav a8 0 a5 0 [(str ((el a1 a0).1)), (str ((el a1 a0).2.1)), (Vb ((el a1 a0).2.2))] 46 (str ((el a1 a0).1)) rfl rfl (by kernel_rfl) (by kernel_rfl) (bi a2 fun d1 c3 a2 => wc ent84 a8 (ada c3 (hG.hp0 a8)) fun d2 a9 => ?_))))
  refine wp 2 (nq (cd a2 (fun c4 a2 => ?_) (fun c4 a2 => ?_)))
  refine sr (wp 1 (aav a9 0 a5 1 [(str ((el a1 a0).1)), (str ((el a1 a0).2.1)), (Vb ((el a1 a0).2.2))] 46 (str ((el a1 a0).2.1)) rfl rfl (by kernel_rfl) (by kernel_rfl) (wp 2 (nq (ct (bt_ (st ?_)))))))
  refine acp (bt_ (acp ?_))
  obtain rfl := oi a2
  obtain rfl := oi hr
  exact rv a9.kp
  exact ck (bn (qn (cr (gi a2 fun c5 a2 => aac a0 (1 : Int) (by kernel_rfl) (by kernel_rfl) c5 (wp 1 (wl (ql (le' (a0 + (1 : Int)) a9.kp a2))))))))
  refine ach (acg (acq (aci (ql ?_))))
  obtain rfl := oi a2
  exact je1 rfl a4.kp
  rintro b8 d3 G c6 rfl
  refine sr (wp 2 (nq (ct ?_)))
  obtain rfl := oi hr
  exact rv c6.kp
theorem K_L_header_Via {fu : Nat} {c8 : Str} {w : World} {r : ((Str × Str × Int × Str × (List (Str × Str × Bool))) × UInt8)} (hr : amr fu c8 = some r) (hG : Gl w) : CR Tryz.prog 15 [(str c8)] w fun v w' => ∃ (o0 : Option Nat), ∃ (a0 : Option Addr), ∃ (cap0 : Nat), v = (Value.tuple #[(Value.agg #[(str r.1.1), (str r.1.2.1), (Vi .i64 r.1.2.2.1), (str r.1.2.2.2.1), (Vs a0 r.1.2.2.2.2.length cap0)]), (bt r.2)]) ∧ Hp w [] [rwt aaa 46 3 o0 a0 cap0 r.1.2.2.2.2] w' := by
  have hH : Hp w [] [] w := Hp.refl w
  refine enter (k := 120) Tryz.func15 rfl rfl (Nat.le_of_ble_eq_true rfl) ?_
  unfold amr at hr
  refine sr (adl hH [(str ([] : Str)), (str ([] : Str)), (Vi .i64 (0 : Int)), (str ([] : Str)), (Vs none 0 0)] 24 (fun b => (Vp (some ⟨b, 0, none⟩))) rfl rfl (by kernel_rfl) fun b1 w2 c9 => wp 1 (nq (sr (wp 1 (bi hr fun y4 e9 hr => ?_)))))
  refine wc ent51 c9 (afq e9 (hG.hp0 c9)) fun w6 b9 => wp 1 (nq (cs (bi hr fun f0 b3 hr => agq b9 [0, 2, 3, 30] [(30, (Vb f0))] ?_ ?_)))
  refine cr (wp 3 (wd b3 (fun f1 b3 => ?_) (fun f1 b3 => ?_)))
  refine wp 5 (wl (ql ?_))
  obtain rfl := oi b3
  exact je b9.kp
  refine wp 1 (gy 25 (gi b3 fun f2 b3 => akw y4 .i64 (8 : Int) Tryz.underlying9 (by kernel_rfl) (by kernel_rfl) f2 (gy 25 (bi b3 fun j1 f3 b3 => wc ent52 b9 (aeo f3 (hG.hp0 b9)) fun j2 f4 => wp 2 (wl (ql ?_))))))
  obtain rfl := oi b3
  exact je f4.kp
  intro j3 G c3
  refine cb hr (fun f5 hr => ?_) (fun f5 hr => ?_)
  refine sr (wp 1 (aff c3 0 b1 0 [(str ([] : Str)), (str ([] : Str)), (Vi .i64 (0 : Int)), (str ([] : Str)), (Vs none 0 0)] [(str ([] : Str)), (str ([] : Str)), (Vi .i64 (0 : Int)), (str ([] : Str)), (Vs none 0 0)] 24 [blk b1 [(str ([] : Str)), (str ([] : Str)), (Vi .i64 (0 : Int)), (str ([] : Str)), (Vs none 0 0)] 24] rfl (Nat.le_of_ble_eq_true rfl) (by kernel_rfl) (by kernel_rfl) rfl (by kernel_rfl) rfl fun j4 d0 => wp 1 (nq (ct (st ?_)))))
  obtain rfl := oi hr
  refine ajz _ [(Value.agg #[(str ([] : Str)), (str ([] : Str)), (Vi .i64 (0 : Int)), (str ([] : Str)), (Vs none 0 0)]), (bt (5 : UInt8))] (Value.tuple #[(Value.agg #[(str ([] : Str)), (str ([] : Str)), (Vi .i64 (0 : Int)), (str ([] : Str)), (Vs none 0 0)]), (bt (5 : UInt8))]) rfl rfl (aaf (aer d0 0 b1 24 [(str ([] : Str)), (str ([] : Str)), (Vi .i64 (0 : Int)), (str ([] : Str)), (Vs none 0 0)] rfl (by kernel_rfl) (by kernel_rfl) (by kernel_rfl)) (aaf (acu (by kernel_rfl)) aeb)) rfl ?_
  exact ⟨none, none, 0, (by first | rfl | (simp; done) | (simp; omega)), (Hp.nilrw d0 aaa 46 3 none).kp⟩
  refine ck (qn (sr (wp 1 (bi hr fun f6 f7 hr => wc ent54 c3 (agz f7 (hG.hp0 c3)) fun j5 d1 => wp 1 (nq ?_)))))
  refine sr (wp 2 (bi hr fun a9 f8 hr => wc ent55 d1 (ajx f8 (hG.hp0 d1)) fun j6 c4 => wp 1 (nq (cs (bi hr fun f9 b7 hr => agq c4 [0, 2, 3, 4, 5, 43] [(43, (Vb f9))] ?_ ?_)))))
  refine cr (wp 2 (wd b7 (fun g0 b7 => ?_) (fun g0 b7 => ?_)))
  refine wp 4 (wl (ql ?_))
  obtain rfl := oi b7
  exact je c4.kp
  refine wp 4 (wl (ql ?_))
  obtain rfl := oi b7
  exact je c4.kp
  intro j7 G c5
  refine cb hr (fun g1 hr => ?_) (fun g1 hr => ?_)
  refine sr (wp 1 (aff c5 0 b1 0 [(str ([] : Str)), (str ([] : Str)), (Vi .i64 (0 : Int)), (str ([] : Str)), (Vs none 0 0)] [(str ([] : Str)), (str ([] : Str)), (Vi .i64 (0 : Int)), (str ([] : Str)), (Vs none 0 0)] 24 [blk b1 [(str ([] : Str)), (str ([] : Str)), (Vi .i64 (0 : Int)), (str ([] : Str)), (Vs none 0 0)] 24] rfl (Nat.le_of_ble_eq_true rfl) (by kernel_rfl) (by kernel_rfl) rfl (by kernel_rfl) rfl fun j8 d2 => wp 1 (nq (ct (st ?_)))))
  obtain rfl := oi hr
  refine ajz _ [(Value.agg #[(str ([] : Str)), (str ([] : Str)), (Vi .i64 (0 : Int)), (str ([] : Str)), (Vs none 0 0)]), (bt (5 : UInt8))] (Value.tuple #[(Value.agg #[(str ([] : Str)), (str ([] : Str)), (Vi .i64 (0 : Int)), (str ([] : Str)), (Vs none 0 0)]), (bt (5 : UInt8))]) rfl rfl (aaf (aer d2 0 b1 24 [(str ([] : Str)), (str ([] : Str)), (Vi .i64 (0 : Int)), (str ([] : Str)), (Vs none 0 0)] rfl (by kernel_rfl) (by kernel_rfl) (by kernel_rfl)) (aaf (acu (by kernel_rfl)) aeb)) rfl ?_
  exact ⟨none, none, 0, (by first | rfl | (simp; done) | (simp; omega)), (Hp.nilrw d2 aaa 46 3 none).kp⟩
  refine ck (qn (sr (wp 2 (gi hr fun g2 hr => amd y4 .i64 .i64 (8 : Int) f6 Tryz.underlying9 (by kernel_rfl) (by kernel_rfl) (by kernel_rfl) g2 (bi hr fun a1 g3 hr => wc ent52 c5 (aeo g3 (hG.hp0 c5)) fun j9 g4 => wp 1 ?_)))))
  refine adl g4 [(str ([] : Str)), (str ([] : Str)), (Vi .i64 (0 : Int)), (str ([] : Str)), (Vs none 0 0)] 24 (fun b => (Vp (some ⟨b, 0, none⟩))) rfl rfl (by kernel_rfl) fun a7 k0 g5 => aff g5 0 a7 0 [(str ([] : Str)), (str ([] : Str)), (Vi .i64 (0 : Int)), (str ([] : Str)), (Vs none 0 0)] [(str a1), (str ([] : Str)), (Vi .i64 (0 : Int)), (str ([] : Str)), (Vs none 0 0)] 24 [blk a7 [(str a1), (str ([] : Str)), (Vi .i64 (0 : Int)), (str ([] : Str)), (Vs none 0 0)] 24, blk b1 [(str ([] : Str)), (str ([] : Str)), (Vi .i64 (0 : Int)), (str ([] : Str)), (Vs none 0 0)] 24] rfl (Nat.le_of_ble_eq_true rfl) (by kernel_rfl) (by kernel_rfl) rfl (by kernel_rfl) rfl fun g6 d3 => nq (sr (wp 2 (gi hr fun g7 hr => ahu y4 .i64 a9 Tryz.underlying9 (by kernel_rfl) (by kernel_rfl) g7 (wp 2 ?_))))
  refine nq (bi hr fun c6 b0 hr => agq d3 [2, 3, 6, 7, 8] [(7, (str c6.1)), (8, (str c6.2))] ?_ ?_)
  refine sr (wp 1 (gi b0 fun g8 b0 => aad 56 #[] [(str (List.drop (Int.toNat a9) y4)), (str ([59, 32, 9] : Str))] _ ent56 (by kernel_rfl) (by kernel_rfl) (sh_IndexAny (List.drop (Int.toNat a9) y4) ([59, 32, 9] : Str) g6 g8) ?_))
  rintro _ k1 ⟨rfl, d4⟩
  have d5 := d3.call d4; clear d4
  refine wp 1 (nq (sr (wp 2 (nq (cd b0 (fun g9 b0 => ?_) (fun g9 b0 => ?_))))))
  refine gi b0 fun h0 b0 => gi b0 fun h1 b0 => cdr 7 d5 (aal acf) fun k2 h2 => rp 5 [0, 1] (rt 2 (str (List.take (Int.toNat (Lib.indexAny (List.drop (Int.toNat a9) y4) ([59, 32, 9] : Str))) (List.drop (Int.toNat a9) y4))) rfl rfl (aai rfl (by intro w hS_; exact (x_slice_to (List.drop (Int.toNat a9) y4) .i64 (Lib.indexAny (List.drop (Int.toNat a9) y4) ([59, 32, 9] : Str)) Tryz.underlying9 (by kernel_rfl) (by kernel_rfl) h0))) (rp 2 [3, 4] (rt 5 (str (List.drop (Int.toNat (Lib.indexAny (List.drop (Int.toNat a9) y4) ([59, 32, 9] : Str))) (List.drop (Int.toNat a9) y4))) rfl rfl (aai rfl (by intro w hS_; exact (amo (List.drop (Int.toNat a9) y4) .i64 (Lib.indexAny (List.drop (Int.toNat a9) y4) ([59, 32, 9] : Str)) Tryz.underlying9 (by kernel_rfl) (by kernel_rfl) h1))) (rp 0 [6] (acw (by kernel_rfl) (wp 1 ?_))))))
  refine wl (ql ?_)
  obtain rfl := oi b0
  exact je (Hp.front (Hp.front h2 1 _ rfl) 1 _ rfl).kp
  refine ck (ql ?_)
  obtain rfl := oi b0
  exact je (Hp.front (Hp.front d5 1 _ rfl) 1 _ rfl).kp
  intro k3 G d6
  refine sr (wp 1 (bi hr fun k4 h3 hr => wc ent57 d6 (K_L_header_cutPort h3 (hG.hp0 d6)) fun k5 d7 => wp 7 (nq (sr ?_))))
  refine wp 1 (bi hr fun a2 h4 hr => wc ent26 d7 (afw h4 (hG.hp0 d7)) fun k6 d8 => wp 5 (nq (cs (sr (wp 2 ?_)))))
  refine nq (cb hr (fun h5 hr => ?_) (fun h5 hr => ?_))
  refine sr (wp 1 (aff d8 1 b1 0 [(str ([] : Str)), (str ([] : Str)), (Vi .i64 (0 : Int)), (str ([] : Str)), (Vs none 0 0)] [(str ([] : Str)), (str ([] : Str)), (Vi .i64 (0 : Int)), (str ([] : Str)), (Vs none 0 0)] 24 [blk a7 [(str a1), (str ([] : Str)), (Vi .i64 (0 : Int)), (str ([] : Str)), (Vs none 0 0)] 24, blk b1 [(str ([] : Str)), (str ([] : Str)), (Vi .i64 (0 : Int)), (str ([] : Str)), (Vs none 0 0)] 24] rfl (Nat.le_of_ble_eq_true rfl) (by kernel_rfl) (by kernel_rfl) rfl (by kernel_rfl) rfl fun k7 d9 => wp 1 (nq (ct (st ?_)))))
  obtain rfl := oi hr
  refine ajz _ [(Value.agg #[(str ([] : Str)), (str ([] : Str)), (Vi .i64 (0 : Int)), (str ([] : Str)), (Vs none 0 0)]), (bt (5 : UInt8))] (Value.tuple #[(Value.agg #[(str ([] : Str)), (str ([] : Str)), (Vi .i64 (0 : Int)), (str ([] : Str)), (Vs none 0 0)]), (bt (5 : UInt8))]) rfl rfl (aaf (aer d9 1 b1 24 [(str ([] : Str)), (str ([] : Str)), (Vi .i64 (0 : Int)), (str ([] : Str)), (Vs none 0 0)] rfl (by kernel_rfl) (by kernel_rfl) (by kernel_rfl)) (aaf (acu (by kernel_rfl)) aeb)) rfl ?_
  exact ⟨none, none, 0, (by first | rfl | (simp; done) | (simp; omega)), (Hp.nilrw d9 aaa 46 3 none).kp⟩
  refine ck (qn (sr (wp 2 (aeu d8 0 a7 1 [(str a1), (str ([] : Str)), (Vi .i64 (0 : Int)), (str ([] : Str)), (Vs none 0 0)] 24 (str a2.1) [blk a7 [(str a1), (str a2.1), (Vi .i64 (0 : Int)), (str ([] : Str)), (Vs none 0 0)] 24, blk b1 [(str ([] : Str)), (str ([] : Str)), (Vi .i64 (0 : Int)), (str ([] : Str)), (Vs none 0 0)] 24] rfl (Nat.lt_of_lt_of_le (Nat.lt_succ_self _) (Nat.le_of_ble_eq_true rfl)) (by kernel_rfl) (by kernel_rfl) rfl (by kernel_rfl) rfl fun k8 c7 => nq (bi hr fun h6 a8 hr => cut (σ := Int) [2, 3, 6, 8] (fun a4 => []) (fun a4 w' => Hp w [] [blk a7 [(str a1), (str a2.1), (Vi .i64 a4), (str ([] : Str)), (Vs none 0 0)] 24, blk b1 [(str ([] : Str)), (str ([] : Str)), (Vi .i64 (0 : Int)), (str ([] : Str)), (Vs none 0 0)] 24] w' ∧ .inl a4 = h6) ?_ ?_)))))
  refine sr (wp 1 (nq (cb a8 (fun h7 a8 => ?_) (fun h7 a8 => ?_))))
  refine sr (wp 1 (bi a8 fun c0 h8 a8 => wc ent58 c7 (ajw h8 (hG.hp0 c7)) fun k9 b8 => wp 5 (nq (bi a8 fun c1 b5 a8 => agq b8 [2, 3, 6, 8, 15, 16] [(16, (bt c1))] ?_ ?_))))
  refine bi b5 fun h9 b4 b5 => agq b8 [2, 3, 6, 8, 15, 16, 94] [(94, (Vb h9))] ?_ ?_
  refine cr (wp 1 (ack c0.2 (0 : UInt8) (by kernel_rfl) (by kernel_rfl) (wd b4 (fun i0 b4 => ?_) (fun i0 b4 => ?_))))
  refine wp 2 (gy 87 (wd b4 (fun i1 b4 => ?_) (fun i1 b4 => ?_)))
  refine wp 4 (wl (ql ?_))
  obtain rfl := oi b4
  exact je (Hp.front (Hp.front b8 1 _ rfl) 1 _ rfl).kp
  refine wp 4 (wl (ql ?_))
  obtain rfl := oi b4
  exact je (Hp.front (Hp.front b8 1 _ rfl) 1 _ rfl).kp
  refine wp 7 (wl (ql ?_))
  obtain rfl := oi b4
  exact je (Hp.front (Hp.front b8 1 _ rfl) 1 _ rfl).kp
  intro l0 G e0
  refine cb b5 (fun i2 b5 => ?_) (fun i2 b5 => ?_)
  refine cr (wp 1 (wl (ql ?_)))
  obtain rfl := oi b5
  exact je (Hp.front (Hp.front e0 1 _ rfl) 1 _ rfl).kp
  refine ck (ql ?_)
  obtain rfl := oi b5
  exact je (Hp.front (Hp.front e0 1 _ rfl) 1 _ rfl).kp
  intro l1 G e1
  refine cs (sr (wp 1 (aec c1 (0 : UInt8) (by kernel_rfl) (by kernel_rfl) (nq (cn a8 (fun i3 a8 => ?_) (fun i3 a8 => ?_))))))
  refine sr (wp 2 (aff e1 1 b1 0 [(str ([] : Str)), (str ([] : Str)), (Vi .i64 (0 : Int)), (str ([] : Str)), (Vs none 0 0)] [(str ([] : Str)), (str ([] : Str)), (Vi .i64 (0 : Int)), (str ([] : Str)), (Vs none 0 0)] 24 [blk a7 [(str a1), (str a2.1), (Vi .i64 (0 : Int)), (str ([] : Str)), (Vs none 0 0)] 24, blk b1 [(str ([] : Str)), (str ([] : Str)), (Vi .i64 (0 : Int)), (str ([] : Str)), (Vs none 0 0)] 24] rfl (Nat.le_of_ble_eq_true rfl) (by kernel_rfl) (by kernel_rfl) rfl (by kernel_rfl) rfl fun l2 e2 => wp 1 (nq (ct (st (acp ?_))))))
  obtain rfl := oi a8
  obtain rfl := oi hr
  refine ajz _ [(Value.agg #[(str ([] : Str)), (str ([] : Str)), (Vi .i64 (0 : Int)), (str ([] : Str)), (Vs none 0 0)]), (bt c1)] (Value.tuple #[(Value.agg #[(str ([] : Str)), (str ([] : Str)), (Vi .i64 (0 : Int)), (str ([] : Str)), (Vs none 0 0)]), (bt c1)]) rfl rfl (aaf (aer e2 1 b1 24 [(str ([] : Str)), (str ([] : Str)), (Vi .i64 (0 : Int)), (str ([] : Str)), (Vs none 0 0)] rfl (by kernel_rfl) (by kernel_rfl) (by kernel_rfl)) (aaf (acu (by kernel_rfl)) aeb)) rfl ?_
  exact ⟨none, none, 0, (by first | rfl | (simp; done) | (simp; omega)), (Hp.nilrw e2 aaa 46 3 none).kp⟩
  refine ck (qn (cr (wp 2 (aeu e1 0 a7 2 [(str a1), (str a2.1), (Vi .i64 (0 : Int)), (str ([] : Str)), (Vs none 0 0)] 24 (Vi .i64 c0.1) [blk a7 [(str a1), (str a2.1), (Vi .i64 c0.1), (str ([] : Str)), (Vs none 0 0)] 24, blk b1 [(str ([] : Str)), (str ([] : Str)), (Vi .i64 (0 : Int)), (str ([] : Str)), (Vs none 0 0)] 24] rfl (Nat.lt_of_lt_of_le (Nat.lt_succ_self _) (Nat.le_of_ble_eq_true rfl)) (by kernel_rfl) (by kernel_rfl) rfl (by kernel_rfl) rfl fun l3 i4 => wl (ql ?_)))))
  obtain rfl := oi a8
  exact ⟨c0.1, _, rfl, by kernel_rfl, (Hp.front (Hp.front i4 1 _ rfl) 1 _ rfl).kp, rfl⟩
  refine ck (ql ?_)
  obtain rfl := oi a8
  exact ⟨(0 : Int), _, rfl, by kernel_rfl, (Hp.front (Hp.front c7 1 _ rfl) 1 _ rfl).kp, rfl⟩
  rintro a4 l4 G ⟨e3, rfl⟩
  refine sr (wp 1 (bi hr fun a3 i5 hr => aad 59 #[] [(str c6.2)] _ ent59 (by kernel_rfl) (by kernel_rfl) (akr i5 (hG.hp0 e3)) ?_))
  rintro _ i6 ⟨b6, a5, a6, rfl, e4⟩
  have e5 : Hp w [] [rwt aaa 46 3 b6 a5 a6 a3.1, blk a7 [(str a1), (str a2.1), (Vi .i64 a4), (str ([] : Str)), (Vs none 0 0)] 24, blk b1 [(str ([] : Str)), (str ([] : Str)), (Vi .i64 (0 : Int)), (str ([] : Str)), (Vs none 0 0)] 24] i6 := Hp.callK (L1 := []) (L2 := [blk a7 [(str a1), (str a2.1), (Vi .i64 a4), (str ([] : Str)), (Vs none 0 0)] 24, blk b1 [(str ([] : Str)), (str ([] : Str)), (Vi .i64 (0 : Int)), (str ([] : Str)), (Vs none 0 0)] 24]) e3 e4; clear e4
  refine wp 7 (nq (cs (sr (wp 1 (aec a3.2.2 (0 : UInt8) (by kernel_rfl) (by kernel_rfl) (nq (cn hr (fun i7 hr => ?_) (fun i7 hr => ?_))))))))
  refine sr (wp 2 (aff e5 2 b1 0 [(str ([] : Str)), (str ([] : Str)), (Vi .i64 (0 : Int)), (str ([] : Str)), (Vs none 0 0)] [(str ([] : Str)), (str ([] : Str)), (Vi .i64 (0 : Int)), (str ([] : Str)), (Vs none 0 0)] 24 [rwt aaa 46 3 b6 a5 a6 a3.1, blk a7 [(str a1), (str a2.1), (Vi .i64 a4), (str ([] : Str)), (Vs none 0 0)] 24, blk b1 [(str ([] : Str)), (str ([] : Str)), (Vi .i64 (0 : Int)), (str ([] : Str)), (Vs none 0 0)] 24] rfl (Nat.le_of_ble_eq_true rfl) (by kernel_rfl) (by kernel_rfl) rfl (by kernel_rfl) rfl fun l5 e6 => wp 1 (nq (ct (st ?_)))))
  obtain rfl := oi hr
  refine ajz _ [(Value.agg #[(str ([] : Str)), (str ([] : Str)), (Vi .i64 (0 : Int)), (str ([] : Str)), (Vs none 0 0)]), (bt a3.2.2)] (Value.tuple #[(Value.agg #[(str ([] : Str)), (str ([] : Str)), (Vi .i64 (0 : Int)), (str ([] : Str)), (Vs none 0 0)]), (bt a3.2.2)]) rfl rfl (aaf (aer e6 2 b1 24 [(str ([] : Str)), (str ([] : Str)), (Vi .i64 (0 : Int)), (str ([] : Str)), (Vs none 0 0)] rfl (by kernel_rfl) (by kernel_rfl) (by kernel_rfl)) (aaf (acu (by kernel_rfl)) aeb)) rfl ?_
  exact ⟨none, none, 0, (by first | rfl | (simp; done) | (simp; omega)), (Hp.nilrw e6 aaa 46 3 none).kp⟩
  refine ck (qn (sr (wp 2 (aeu e5 1 a7 4 [(str a1), (str a2.1), (Vi .i64 a4), (str ([] : Str)), (Vs none 0 0)] 24 (Vs a5 a3.1.length a6) [rwt aaa 46 3 b6 a5 a6 a3.1, blk a7 [(str a1), (str a2.1), (Vi .i64 a4), (str ([] : Str)), (Vs a5 a3.1.length a6)] 24, blk b1 [(str ([] : Str)), (str ([] : Str)), (Vi .i64 (0 : Int)), (str ([] : Str)), (Vs none 0 0)] 24] rfl (Nat.lt_of_lt_of_le (Nat.lt_succ_self _) (Nat.le_of_ble_eq_true rfl)) (by kernel_rfl) (by kernel_rfl) rfl (by kernel_rfl) rfl fun l6 c2 => nq (sr ?_)))))
  refine wp 1 (bi hr fun b2 i9 hr => wc ent28 c2 (K_L_address_Get a5 a3.1.length a6 i9 (hG.hp0 c2) rfl (c2.rdrw 0 rfl) (c2.rwcap 0 rfl)) fun l7 j0 => wp 4 (aeu j0 1 a7 3 [(str a1), (str a2.1), (Vi .i64 a4), (str ([] : Str)), (Vs a5 a3.1.length a6)] 24 (str b2.1) [rwt aaa 46 3 b6 a5 a6 a3.1, blk a7 [(str a1), (str a2.1), (Vi .i64 a4), (str b2.1), (Vs a5 a3.1.length a6)] 24, blk b1 [(str ([] : Str)), (str ([] : Str)), (Vi .i64 (0 : Int)), (str ([] : Str)), (Vs none 0 0)] 24] rfl (Nat.lt_of_lt_of_le (Nat.lt_succ_self _) (Nat.le_of_ble_eq_true rfl)) (by kernel_rfl) (by kernel_rfl) rfl (by kernel_rfl) rfl fun l8 e7 => nq (sr (akx e7 1 a7 0 5 [(str a1), (str a2.1), (Vi .i64 a4), (str b2.1), (Vs a5 a3.1.length a6)] [(str a1), (str a2.1), (Vi .i64 a4), (str b2.1), (Vs a5 a3.1.length a6)] 24 rfl rfl rfl (by kernel_rfl) (by kernel_rfl) (by kernel_rfl) ?_))))
  refine aff e7 2 b1 0 [(str ([] : Str)), (str ([] : Str)), (Vi .i64 (0 : Int)), (str ([] : Str)), (Vs none 0 0)] [(str a1), (str a2.1), (Vi .i64 a4), (str b2.1), (Vs a5 a3.1.length a6)] 24 [rwt aaa 46 3 b6 a5 a6 a3.1, blk a7 [(str a1), (str a2.1), (Vi .i64 a4), (str b2.1), (Vs a5 a3.1.length a6)] 24, blk b1 [(str a1), (str a2.1), (Vi .i64 a4), (str b2.1), (Vs a5 a3.1.length a6)] 24] rfl (Nat.le_of_ble_eq_true rfl) (by kernel_rfl) (by kernel_rfl) rfl (by kernel_rfl) rfl fun l9 e8 => wp 1 (nq (ct ?_))
  obtain rfl := oi hr
  refine ajz _ [(Value.agg #[(str a1), (str a2.1), (Vi .i64 a4), (str b2.1), (Vs a5 a3.1.length a6)]), (bt (0 : UInt8))] (Value.tuple #[(Value.agg #[(str a1), (str a2.1), (Vi .i64 a4), (str b2.1), (Vs a5 a3.1.length a6)]), (bt (0 : UInt8))]) rfl rfl (aaf (aer e8 2 b1 24 [(str a1), (str a2.1), (Vi .i64 a4), (str b2.1), (Vs a5 a3.1.length a6)] rfl (by kernel_rfl) (by kernel_rfl) (by kernel_rfl)) (aaf (acu (by kernel_rfl)) aeb)) rfl ?_
  exact ⟨b6, a5, a6, (by first | rfl | (simp; done) | (simp; omega)), e8.kp⟩
end Go.Proofs
set_option linter.unusedVariables false
set_option linter.unusedSimpArgs false
set_option maxRecDepth 20000
set_option maxHeartbeats 1000000
namespace Go.Proofs
open Go.Wk Go.Px
open Go.Value renaming slice → Vs, int → Vi, bool → Vb, pointer → Vp
theorem ent130 : Go.Wk.Enters Tryz.prog 130 := ⟨Tryz.f130, _, Tryz.func130, rfl, by kernel_rfl⟩
theorem ent186 : Go.Wk.Enters Tryz.prog 186 := ⟨Tryz.f186, _, Tryz.func186, rfl, by kernel_rfl⟩
theorem ent218 : Go.Wk.Enters Tryz.prog 218 := ⟨Tryz.f218, _, Tryz.func218, rfl, by kernel_rfl⟩
theorem anw {fu : Nat} {s_0 : List (Str × Str × Bool)} (a0 : Option Addr) (a2 : Nat) (a1 : Nat) {w : World} {r : List (Str × Str × Bool)} (hr : aix fu s_0 = some r) (hG : Gl w) (a3 : a2 = s_0.length) (a5 : Rd w a0 (List.flatMap aaa s_0)) (a6 : a2 ≤ a1) : CR Tryz.prog 129 [(Vs a0 a2 a1)] w fun v w' => ∃ (b0 : Nat), v = (Value.func (.func 186) #[] #[(Vp (some ⟨b0, 0, none⟩))]) ∧ Hp w [] [blk b0 [(Vs a0 s_0.length a1)] 22] w' := by
  subst a3
  have hH : Hp w [] [] w := Hp.refl w
  refine enter (k := 4) Tryz.func129 rfl rfl (Nat.le_of_ble_eq_true rfl) ?_
  unfold aix at hr
  refine sr (adl hH [(Vs a0 s_0.length a1)] 22 (fun b => (Vp (some ⟨b, 0, none⟩))) rfl rfl (by kernel_rfl) fun b1 w2 a4 => wp 1 (nq (sr (wp 2 (wl ?_)))))
  refine qn (ct ?_)
  obtain rfl := oi hr
  refine ana (Value.func (.func 186) #[] #[(Vp (some ⟨b1, 0, none⟩))]) rfl (by kernel_rfl) ?_
  exact ⟨b1, (by first | rfl | (simp; done) | (simp; omega)), a4.kp⟩
theorem aew {fu : Nat} {a3 : List (Str × Str × Bool)} {a1 : List (Str × Str × Bool)} (a4 : Nat) (a8 : Loop) (a9 : Nat) (b6 : Option Nat) (a5 : Option Addr) (a6 : Nat) (b1 : Nat) (a7 : Option Addr) (d2 : Nat) (b0 : Nat) {w : World} {r : ((List (Str × Str × Bool)) × Nat)} (hr : abs fu a3 a1 = some r) (hG : Gl w) (e0 : d2 = a1.length) (d3 : Rd w a7 (List.flatMap aaa a1)) (f4 : d2 ≤ b0) (hM : Hp w (aaj [afc a4 0 a8, blk a9 [(Vs a5 a3.length a6)] 22, blk b1 [(Vs a7 a1.length b0)] 22, rwt aaa 46 3 b6 a5 a6 a3]) [afc a4 0 a8, blk a9 [(Vs a5 a3.length a6)] 22, blk b1 [(Vs a7 a1.length b0)] 22, rwt aaa 46 3 b6 a5 a6 a3] w) (hS : ∀ b ∈ aaj [afc a4 0 a8, blk a9 [(Vs a5 a3.length a6)] 22, blk b1 [(Vs a7 a1.length b0)] 22, rwt aaa 46 3 b6 a5 a6 a3], 9 ≤ b) (d4 : List.flatMap aaa a1 ≠ [] → ∀ p, a7 = some p → p.block ∉ aaj [afc a4 0 a8, blk a9 [(Vs a5 a3.length a6)] 22, blk b1 [(Vs a7 a1.length b0)] 22, rwt aaa 46 3 b6 a5 a6 a3]) (e1 : ∀  (c4 : (Str × Str × Bool)) (c1 : List (Str × Str × Bool)) (d5 : Option Nat) (c5 : Option Addr) (c6 : Nat) (w_ : World), Hp w (aaj [afc a4 0 a8, blk a9 [(Vs a5 a3.length a6)] 22, blk b1 [(Vs a7 a1.length b0)] 22, rwt aaa 46 3 b6 a5 a6 a3]) [afc a4 0 a8, blk a9 [(Vs c5 c1.length c6)] 22, rwt aaa 46 3 d5 c5 c6 c1] w_ → ∀ (yr : (Nat × (List (Str × Str × Bool)))), acy fu c4 c1 = some yr → YR Tryz.prog a4 [(Value.agg #[(str c4.1), (str c4.2.1), (Vb c4.2.2)])] w_ fun v e2 => ∃ (e3 : Option Nat), ∃ (d6 : Option Addr), ∃ (rcap0 : Nat), v = Vb (decide (yr.1 = 0)) ∧ Hp w_ (aaj [afc a4 0 a8, blk a9 [(Vs c5 c1.length c6)] 22, rwt aaa 46 3 d5 c5 c6 c1]) [afc a4 yr.1 a8, blk a9 [(Vs d6 yr.2.length rcap0)] 22, rwt aaa 46 3 e3 d6 rcap0 yr.2] e2) : CR Tryz.prog 186 [(Value.func (.yield a4) #[] #[]), (Vp (some ⟨b1, 0, none⟩))] w fun v w' => ∃ (o0 : Option Nat), ∃ (a0 : Option Addr), ∃ (cap0 : Nat), v = (Value.tuple #[]) ∧ Hp w (aaj [afc a4 0 a8, blk a9 [(Vs a5 a3.length a6)] 22, blk b1 [(Vs a7 a1.length b0)] 22, rwt aaa 46 3 b6 a5 a6 a3]) [blk a9 [(Vs a0 r.1.length cap0)] 22, blk b1 [(Vs a7 a1.length b0)] 22, rwt aaa 46 3 o0 a0 cap0 r.1, afc a4 r.2 a8] w' := by
  subst e0
  have hH : Hp w (aaj [afc a4 0 a8, blk a9 [(Vs a5 a3.length a6)] 22, blk b1 [(Vs a7 a1.length b0)] 22, rwt aaa 46 3 b6 a5 a6 a3]) [afc a4 0 a8, blk a9 [(Vs a5 a3.length a6)] 22, blk b1 [(Vs a7 a1.length b0)] 22, rwt aaa 46 3 b6 a5 a6 a3] w := hM
  refine enterF (k := 16) Tryz.func186 rfl rfl (Nat.le_of_ble_eq_true rfl) ?_
  unfold abs at hr
  refine sr (aav hH 2 b1 0 [(Vs a7 a1.length b0)] 22 (Vs a7 a1.length b0) rfl rfl (by kernel_rfl) (by kernel_rfl) (wp 2 (nq (ce (lpG (σ := Nat × Int × (List (Str × Str × Bool)) × (Option Nat) × (Option Addr) × Nat) [0, 5, 6, 7] (fun ⟨c0, a2, b2, b7, b3, b4⟩ => [(7, (Vi .i64 a2))]) (fun ⟨c0, a2, b2, b7, b3, b4⟩ w' => Hp w (aaj [afc a4 0 a8, blk a9 [(Vs a5 a3.length a6)] 22, blk b1 [(Vs a7 a1.length b0)] 22, rwt aaa 46 3 b6 a5 a6 a3]) [afc a4 0 a8, blk a9 [(Vs b3 b2.length b4)] 22, blk b1 [(Vs a7 a1.length b0)] 22, rwt aaa 46 3 b7 b3 b4 b2] w' ∧ aam fu a1 c0 a2 b2 = some r) (fun ⟨c0, a2, b2, b7, b3, b4⟩ => c0) (fu, (0 : Int), a3, b6, a5, a6) (by exact ⟨(Hp.front (Hp.front (Hp.front (Hp.front hH 3 _ rfl) 3 _ rfl) 3 _ rfl) 3 _ rfl).kp, hr⟩) ?_)))))
  rintro ⟨_ | c0, a2, b2, b7, b3, b4⟩ f5 G ⟨c7, b5⟩
  · exact absurd (show none = some _ from b5) (by simp)
  rw [aam.eq_2] at b5
  refine sr (wp 1 (nq (cs (cd b5 (fun e4 b5 => ?_) (fun e4 b5 => ?_)))))
  refine ck (qn (cs (ce (sr (gi b5 fun e5 b5 => aht a7 a1.length b0 46 3 .i64 a2 Tryz.underlying22 (by kernel_rfl) (by kernel_rfl) (by kernel_rfl) a1 rfl e5 (d3.hpN c7 d4) aab (by decide) (gi b5 fun e6 b5 => ahm a7 aaa a1 3 a2 aab (d3.hpN c7 d4) [(str ((el a1 a2).1)), (str ((el a1 a2).2.1)), (Vb ((el a1 a2).2.2))] e6 (by kernel_rfl) (by kernel_rfl) (by kernel_rfl) (by kernel_rfl) (by decide) ?_))))))
  refine adl c7 [(str ([] : Str)), (str ([] : Str)), (Vb false)] 46 (fun b => (Vp (some ⟨b, 0, none⟩))) rfl rfl (by kernel_rfl) fun b8 f6 e7 => aff e7 0 b8 0 [(str ([] : Str)), (str ([] : Str)), (Vb false)] [(str ((el a1 a2).1)), (str ((el a1 a2).2.1)), (Vb ((el a1 a2).2.2))] 46 [blk b8 [(str ((el a1 a2).1)), (str ((el a1 a2).2.1)), (Vb ((el a1 a2).2.2))] 46, afc a4 0 a8, blk a9 [(Vs b3 b2.length b4)] 22, blk b1 [(Vs a7 a1.length b0)] 22, rwt aaa 46 3 b7 b3 b4 b2] rfl (Nat.le_of_ble_eq_true rfl) (by kernel_rfl) (by kernel_rfl) rfl (by kernel_rfl) rfl fun c2 d7 => nq (sr (wp 1 (akx d7 0 b8 0 3 [(str ((el a1 a2).1)), (str ((el a1 a2).2.1)), (Vb ((el a1 a2).2.2))] [(str ((el a1 a2).1)), (str ((el a1 a2).2.1)), (Vb ((el a1 a2).2.2))] 46 rfl rfl rfl (by kernel_rfl) (by kernel_rfl) (by kernel_rfl) (bi b5 fun b9 e8 b5 => ?_))))
  have e9 : Hp w (aaj [afc a4 0 a8, blk a9 [(Vs a5 a3.length a6)] 22, blk b1 [(Vs a7 a1.length b0)] 22, rwt aaa 46 3 b6 a5 a6 a3]) [rwt aaa 46 3 b7 b3 b4 b2, blk b8 [(str ((el a1 a2).1)), (str ((el a1 a2).2.1)), (Vb ((el a1 a2).2.2))] 46, afc a4 0 a8, blk a9 [(Vs b3 b2.length b4)] 22, blk b1 [(Vs a7 a1.length b0)] 22] c2 := d7.front 4 _ rfl
  have f0 : Hp w (aaj [afc a4 0 a8, blk a9 [(Vs a5 a3.length a6)] 22, blk b1 [(Vs a7 a1.length b0)] 22, rwt aaa 46 3 b6 a5 a6 a3]) [blk a9 [(Vs b3 b2.length b4)] 22, rwt aaa 46 3 b7 b3 b4 b2, blk b8 [(str ((el a1 a2).1)), (str ((el a1 a2).2.1)), (Vb ((el a1 a2).2.2))] 46, afc a4 0 a8, blk b1 [(Vs a7 a1.length b0)] 22] c2 := e9.front 3 _ rfl
  have d8 : Hp w (aaj [afc a4 0 a8, blk a9 [(Vs a5 a3.length a6)] 22, blk b1 [(Vs a7 a1.length b0)] 22, rwt aaa 46 3 b6 a5 a6 a3]) [afc a4 0 a8, blk a9 [(Vs b3 b2.length b4)] 22, rwt aaa 46 3 b7 b3 b4 b2, blk b8 [(str ((el a1 a2).1)), (str ((el a1 a2).2.1)), (Vb ((el a1 a2).2.2))] 46, blk b1 [(Vs a7 a1.length b0)] 22] c2 := f0.front 3 _ rfl
  have f1 : Hp w (aaj [afc a4 0 a8, blk a9 [(Vs a5 a3.length a6)] 22, blk b1 [(Vs a7 a1.length b0)] 22, rwt aaa 46 3 b6 a5 a6 a3]) [afc a4 0 a8, blk a9 [(Vs b3 b2.length b4)] 22, rwt aaa 46 3 b7 b3 b4 b2] c2 := Hp.keep (L1 := [afc a4 0 a8, blk a9 [(Vs b3 b2.length b4)] 22, rwt aaa 46 3 b7 b3 b4 b2]) (L2 := [blk b8 [(str ((el a1 a2).1)), (str ((el a1 a2).2.1)), (Vb ((el a1 a2).2.2))] 46, blk b1 [(Vs a7 a1.length b0)] 22]) d8
  refine w_yield a4 [(Value.agg #[(str ((el a1 a2).1)), (str ((el a1 a2).2.1)), (Vb ((el a1 a2).2.2))])] _ (by kernel_rfl) (by kernel_rfl) (e1 ((el a1 a2).1, (el a1 a2).2.1, ((el a1 a2).2.2)) b2 b7 b3 b4 c2 f1 b9 e8) ?_
  rintro _ f2 ⟨d0, c8, c9, rfl, d9⟩
  have d1 : Hp w (aaj [afc a4 0 a8, blk a9 [(Vs a5 a3.length a6)] 22, blk b1 [(Vs a7 a1.length b0)] 22, rwt aaa 46 3 b6 a5 a6 a3]) [afc a4 b9.1 a8, blk a9 [(Vs c8 b9.2.length c9)] 22, rwt aaa 46 3 d0 c8 c9 b9.2, blk b8 [(str ((el a1 a2).1)), (str ((el a1 a2).2.1)), (Vb ((el a1 a2).2.2))] 46, blk b1 [(Vs a7 a1.length b0)] 22] f2 := Hp.callK (L1 := [afc a4 0 a8, blk a9 [(Vs b3 b2.length b4)] 22, rwt aaa 46 3 b7 b3 b4 b2]) (L2 := [blk b8 [(str ((el a1 a2).1)), (str ((el a1 a2).2.1)), (Vb ((el a1 a2).2.2))] 46, blk b1 [(Vs a7 a1.length b0)] 22]) d8 d9; clear d9
  by_cases c3 : b9.1 = 0
  replace b5 := ift c3 b5
  rw [c3] at d1
  rw [show decide (b9.1 = 0) = true from (decide_eq_true c3)]
  refine wp 1 (nq (c_false (by kernel_rfl) (ck (bn (qn (cr (gi b5 fun f3 b5 => aac a2 (1 : Int) (by kernel_rfl) (by kernel_rfl) f3 ?_)))))))
  refine wp 1 (wl (ql ?_))
  exact ⟨(c0, a2 + (1 : Int), b9.2, d0, c8, c9), _, rfl, by kernel_rfl, ⟨(Hp.front (Hp.front (Hp.front (Hp.front d1 2 _ rfl) 4 _ rfl) 3 _ rfl) 3 _ rfl).kp, b5⟩, Nat.lt_succ_self _⟩
  replace b5 := ifn c3 b5
  rw [show decide (b9.1 = 0) = false from (decide_eq_false c3)]
  refine wp 1 (nq (c_true (by kernel_rfl) (ct (bt_ (st (acp (bt_ ?_)))))))
  obtain rfl := oi b5
  refine r_none  rfl  ?_
  exact ⟨d0, c8, c9, (by first | rfl | (simp; done) | (simp; omega)), (Hp.front (Hp.front (Hp.front d1 2 _ rfl) 4 _ rfl) 3 _ rfl).kp⟩
  refine ach (acg (acq (aci ?_)))
  obtain rfl := oi b5
  refine ahn  rfl  ?_
  exact ⟨b7, b3, b4, (by first | rfl | (simp; done) | (simp; omega)), (Hp.front (Hp.front (Hp.front c7 3 _ rfl) 3 _ rfl) 3 _ rfl).kp⟩
theorem ajl {fu : Nat} {s_0 : List (Str × Str × Bool)} {a4 : List (Str × Str × Bool)} (a9 : Option Nat) (a2 : Option Addr) (a3 : Nat) (a5 : Nat) (a6 : Option Addr) (d2 : Nat) (a7 : Nat) {w : World} {r : List (Str × Str × Bool)} (hr : aem fu s_0 a4 = some r) (hG : Gl w) (e1 : d2 = a4.length) (d3 : Rd w a6 (List.flatMap aaa a4)) (e2 : d2 ≤ a7) (hM : Hp w (aaj [blk a5 [(Vs a6 a4.length a7)] 22, rwt aaa 46 3 a9 a2 a3 s_0]) [blk a5 [(Vs a6 a4.length a7)] 22, rwt aaa 46 3 a9 a2 a3 s_0] w) (hS : ∀ b ∈ aaj [blk a5 [(Vs a6 a4.length a7)] 22, rwt aaa 46 3 a9 a2 a3 s_0], 9 ≤ b) (d4 : List.flatMap aaa a4 ≠ [] → ∀ p, a6 = some p → p.block ∉ aaj [blk a5 [(Vs a6 a4.length a7)] 22, rwt aaa 46 3 a9 a2 a3 s_0]) : CR Tryz.prog 218 [(Vs a2 s_0.length a3), (Value.func (.func 186) #[] #[(Vp (some ⟨a5, 0, none⟩))])] w fun v w' => ∃ (o0 : Option Nat), ∃ (a0 : Option Addr), ∃ (cap0 : Nat), v = (Vs a0 r.length cap0) ∧ Hp w (aaj [blk a5 [(Vs a6 a4.length a7)] 22, rwt aaa 46 3 a9 a2 a3 s_0]) [blk a5 [(Vs a6 a4.length a7)] 22, rwt aaa 46 3 o0 a0 cap0 r] w' := by
  subst e1
  have hH : Hp w (aaj [blk a5 [(Vs a6 a4.length a7)] 22, rwt aaa 46 3 a9 a2 a3 s_0]) [blk a5 [(Vs a6 a4.length a7)] 22, rwt aaa 46 3 a9 a2 a3 s_0] w := hM
  refine enterM (k := 13) Tryz.func218 rfl rfl (Nat.le_of_ble_eq_true rfl) ?_
  unfold aem at hr
  refine sr (adl hH [(Vs a2 s_0.length a3)] 22 (fun b => (Vp (some ⟨b, 0, none⟩))) rfl rfl (by kernel_rfl) fun b1 w2 e3 => wp 1 (nq (cs (sr (wp 1 ?_)))))
  refine nq (ce (c_rangeFunc e3 186 [(Vp (some ⟨a5, 0, none⟩))] (by kernel_rfl) ent186 fun b5 l4 b0 c0 e4 e5 e6 e7 e8 => bi hr fun b4 e9 hr => ?_))
  have f0 : Hp w (aaj [blk a5 [(Vs a6 a4.length a7)] 22, rwt aaa 46 3 a9 a2 a3 s_0]) [rwt aaa 46 3 a9 a2 a3 s_0, afc l4 0 b0, dfr b5, blk b1 [(Vs a2 s_0.length a3)] 22, blk a5 [(Vs a6 a4.length a7)] 22] c0 := e8.front 4 _ rfl
  have f1 : Hp w (aaj [blk a5 [(Vs a6 a4.length a7)] 22, rwt aaa 46 3 a9 a2 a3 s_0]) [blk a5 [(Vs a6 a4.length a7)] 22, rwt aaa 46 3 a9 a2 a3 s_0, afc l4 0 b0, dfr b5, blk b1 [(Vs a2 s_0.length a3)] 22] c0 := f0.front 4 _ rfl
  have f2 : Hp w (aaj [blk a5 [(Vs a6 a4.length a7)] 22, rwt aaa 46 3 a9 a2 a3 s_0]) [blk b1 [(Vs a2 s_0.length a3)] 22, blk a5 [(Vs a6 a4.length a7)] 22, rwt aaa 46 3 a9 a2 a3 s_0, afc l4 0 b0, dfr b5] c0 := f1.front 4 _ rfl
  have b9 : Hp w (aaj [blk a5 [(Vs a6 a4.length a7)] 22, rwt aaa 46 3 a9 a2 a3 s_0]) [afc l4 0 b0, blk b1 [(Vs a2 s_0.length a3)] 22, blk a5 [(Vs a6 a4.length a7)] 22, rwt aaa 46 3 a9 a2 a3 s_0, dfr b5] c0 := f2.front 3 _ rfl
  have HY6 : ∀  (a1 : (Str × Str × Bool)) (a8 : List (Str × Str × Bool)) (b8 : Option Nat) (b2 : Option Addr) (b3 : Nat) (w_ : World), Hp c0 (aaj [afc l4 0 b0, blk b1 [(Vs a2 s_0.length a3)] 22, blk a5 [(Vs a6 a4.length a7)] 22, rwt aaa 46 3 a9 a2 a3 s_0]) [afc l4 0 b0, blk b1 [(Vs b2 a8.length b3)] 22, rwt aaa 46 3 b8 b2 b3 a8] w_ → ∀ (yr : (Nat × (List (Str × Str × Bool)))), acy fu a1 a8 = some yr → YR Tryz.prog l4 [(Value.agg #[(str a1.1), (str a1.2.1), (Vb a1.2.2)])] w_ fun v f3 => ∃ (f4 : Option Nat), ∃ (d5 : Option Addr), ∃ (rcap0 : Nat), v = Vb (decide (yr.1 = 0)) ∧ Hp w_ (aaj [afc l4 0 b0, blk b1 [(Vs b2 a8.length b3)] 22, rwt aaa 46 3 b8 b2 b3 a8]) [afc l4 yr.1 b0, blk b1 [(Vs d5 yr.2.length rcap0)] 22, rwt aaa 46 3 f4 d5 rcap0 yr.2] f3 := by
    intro a1 a8 b8 b2 b3 c7 c4 yr hyr
    have hH0_ := Hp.callK (L1 := [afc l4 0 b0, blk b1 [(Vs a2 s_0.length a3)] 22, blk a5 [(Vs a6 a4.length a7)] 22, rwt aaa 46 3 a9 a2 a3 s_0]) (L2 := [dfr b5]) b9 c4
    have hG0_ := hG; replace hG := hG.hp hH0_ hS
    have hS_ := Hp.highs hH0_ hG0_ hS 3 rfl
    unfold acy at hyr
    refine yr_intro (Hp.hand (L1 := [afc l4 0 b0, blk b1 [(Vs b2 a8.length b3)] 22, rwt aaa 46 3 b8 b2 b3 a8]) (L2 := []) (by simpa using c4)) 0 rfl e4 e5 e6 e7 rfl ?_
    have hH : Hp c7 (aaj [afc l4 0 b0, blk b1 [(Vs b2 a8.length b3)] 22, rwt aaa 46 3 b8 b2 b3 a8]) [afc l4 0 b0, blk b1 [(Vs b2 a8.length b3)] 22, rwt aaa 46 3 b8 b2 b3 a8] c7 := Hp.hand (L1 := [afc l4 0 b0, blk b1 [(Vs b2 a8.length b3)] 22, rwt aaa 46 3 b8 b2 b3 a8]) (L2 := []) (by simpa using c4)
    clear hH0_ c4
    refine cr (adl hH [(str ([] : Str)), (str ([] : Str)), (Vb false)] 46 (fun b => (Vp (some ⟨b, 0, none⟩))) rfl rfl (by kernel_rfl) fun c1 g4 f5 => aff f5 0 c1 0 [(str ([] : Str)), (str ([] : Str)), (Vb false)] [(str a1.1), (str a1.2.1), (Vb a1.2.2)] 46 [blk c1 [(str a1.1), (str a1.2.1), (Vb a1.2.2)] 46, afc l4 0 b0, blk b1 [(Vs b2 a8.length b3)] 22, rwt aaa 46 3 b8 b2 b3 a8] rfl (Nat.le_of_ble_eq_true rfl) (by kernel_rfl) (by kernel_rfl) rfl (by kernel_rfl) rfl fun g5 f6 => wl (asg_next f6 1 rfl fun g6 c8 => ce (cr (aav c8 2 b1 0 [(Vs b2 a8.length b3)] 22 (Vs b2 a8.length b3) rfl rfl (by kernel_rfl) (by kernel_rfl) (akx c8 0 c1 0 3 [(str a1.1), (str a1.2.1), (Vb a1.2.2)] [(str a1.1), (str a1.2.1), (Vb a1.2.2)] 46 rfl rfl rfl (by kernel_rfl) (by kernel_rfl) (by kernel_rfl) (adl c8 [(str a1.1), (str a1.2.1), (Vb a1.2.2)] 46 (fun b => (Vs (some ⟨b, 0, none⟩) 1 1)) rfl rfl (by kernel_rfl) fun c5 g7 d6 => ?_))))))
    refine gi hyr fun f7 hyr => adw d6 4 b8 b2 (some ⟨c5, 0, none⟩) b3 1 46 3 40 a8 ([a1] : List (Str × Str × Bool)) aab rfl Tryz.underlying22 (by unfold TI; kernel_rfl) (by decide) (by decide) (by kernel_rfl) (Eq.trans (b := (Vs (some ⟨c5, 0, none⟩) 1 1)) (by kernel_rfl) (aae (by first | rfl | (simp; done) | omega | (simp; omega) | (rw [List.length_take]; omega)))) (d6.rdblk 0 rfl) f7 fun c9 c2 c3 f8 d0 => ?_
    replace d0 : Hp c7 (aaj [afc l4 0 b0, blk b1 [(Vs b2 a8.length b3)] 22, rwt aaa 46 3 b8 b2 b3 a8]) [blk c5 [(str a1.1), (str a1.2.1), (Vb a1.2.2)] 46, blk c1 [(str a1.1), (str a1.2.1), (Vb a1.2.2)] 46, lbusy l4 b0, blk b1 [(Vs b2 a8.length b3)] 22, rwt aaa 46 3 c9 c2 c3 (a8 ++ ([a1] : List (Str × Str × Bool)))] f8 := d0
    refine aeu d0 3 b1 0 [(Vs b2 a8.length b3)] 22 (Vs c2 ((a8 ++ ([a1] : List (Str × Str × Bool))).length) c3) [blk c5 [(str a1.1), (str a1.2.1), (Vb a1.2.2)] 46, blk c1 [(str a1.1), (str a1.2.1), (Vb a1.2.2)] 46, lbusy l4 b0, blk b1 [(Vs c2 ((a8 ++ ([a1] : List (Str × Str × Bool))).length) c3)] 22, rwt aaa 46 3 c9 c2 c3 (a8 ++ ([a1] : List (Str × Str × Bool)))] rfl (Nat.lt_of_lt_of_le (Nat.lt_succ_self _) (Nat.le_of_ble_eq_true rfl)) (by kernel_rfl) (by kernel_rfl) rfl (by kernel_rfl) rfl fun g8 f9 => wl (bn ?_)
    obtain rfl := oi hyr
    refine rnd_normal f9 2 rfl fun g9 g0 => ?_
    exact ⟨c9, c2, c3, (by first | rfl | (simp; done) | (simp; omega)), (Hp.front (Hp.front (Hp.front g0 4 _ rfl) 4 _ rfl) 4 _ rfl).kp⟩
  refine CR.mono (aew l4 b0 b1 a9 a2 a3 a5 a6 a4.length a7 e9 (hG.hp b9 hS) rfl (d3.hpN b9 d4) e2 (b9.hand (L1 := [afc l4 0 b0, blk b1 [(Vs a2 s_0.length a3)] 22, blk a5 [(Vs a6 a4.length a7)] 22, rwt aaa 46 3 a9 a2 a3 s_0]) (L2 := [dfr b5])) (b9.highs hG hS 4 rfl) (b9.apartRd 4 d3 d4 rfl) HY6) ?_
  rintro _ d7 ⟨c6, b6, b7, rfl, d8⟩
  have g1 : Hp w (aaj [blk a5 [(Vs a6 a4.length a7)] 22, rwt aaa 46 3 a9 a2 a3 s_0]) [blk b1 [(Vs b6 b4.1.length b7)] 22, blk a5 [(Vs a6 a4.length a7)] 22, rwt aaa 46 3 c6 b6 b7 b4.1, afc l4 b4.2 b0, dfr b5] d7 := Hp.callK (L1 := [afc l4 0 b0, blk b1 [(Vs a2 s_0.length a3)] 22, blk a5 [(Vs a6 a4.length a7)] 22, rwt aaa 46 3 a9 a2 a3 s_0]) (L2 := [dfr b5]) b9 d8; clear d8
  have g2 : Hp w (aaj [blk a5 [(Vs a6 a4.length a7)] 22, rwt aaa 46 3 a9 a2 a3 s_0]) [afc l4 b4.2 b0, blk b1 [(Vs b6 b4.1.length b7)] 22, blk a5 [(Vs a6 a4.length a7)] 22, rwt aaa 46 3 c6 b6 b7 b4.1, dfr b5] d7 := g1.front 3 _ rfl
  refine ⟨b4.2, [blk b1 [(Vs b6 b4.1.length b7)] 22, blk a5 [(Vs a6 a4.length a7)] 22, rwt aaa 46 3 c6 b6 b7 b4.1, dfr b5], g2, ?_⟩
  intro h0 d9
  by_cases d1 : b4.2 = 0
  replace hr := ift d1 hr
  refine rg0 d1 (bn (qn (sr (aav d9 0 b1 0 [(Vs b6 b4.1.length b7)] 22 (Vs b6 b4.1.length b7) rfl rfl (by kernel_rfl) (by kernel_rfl) (wp 1 (nq (ct ?_)))))))
  obtain rfl := oi hr
  refine m_fin1 d9 3 b5 rfl _ [(Vs b6 b4.1.length b7)] (Vs b6 b4.1.length b7) rfl rfl (fun g3 e0 => (aaf (acu (by kernel_rfl)) aeb)) rfl fun g3 e0 => ?_
  exact ⟨c6, b6, b7, (by first | rfl | (simp; done) | (simp; omega)), (Hp.front (Hp.front e0 2 _ rfl) 2 _ rfl).kp⟩
  replace hr := ifn d1 hr
  exact absurd hr (by simp)
theorem ajt {fu : Nat} {a1 : List (Str × Str × Bool)} (a2 : Nat) (a3 : Option Addr) (a9 : Nat) (a4 : Nat) {w : World} {r : List (Str × Str × Bool)} (hr : aev fu a1 = some r) (hG : Gl w) (b3 : a9 = a1.length) (b0 : Rd w a3 (List.flatMap aaa a1)) (b4 : a9 ≤ a4) (hM : Hp w (aaj [blk a2 [(Vs a3 a1.length a4)] 22]) [blk a2 [(Vs a3 a1.length a4)] 22] w) (hS : ∀ b ∈ aaj [blk a2 [(Vs a3 a1.length a4)] 22], 9 ≤ b) (b1 : List.flatMap aaa a1 ≠ [] → ∀ p, a3 = some p → p.block ∉ aaj [blk a2 [(Vs a3 a1.length a4)] 22]) : CR Tryz.prog 185 [(Value.func (.func 186) #[] #[(Vp (some ⟨a2, 0, none⟩))])] w fun v w' => ∃ (o0 : Option Nat), ∃ (a0 : Option Addr), ∃ (cap0 : Nat), v = (Vs a0 r.length cap0) ∧ Hp w (aaj [blk a2 [(Vs a3 a1.length a4)] 22]) [blk a2 [(Vs a3 a1.length a4)] 22, rwt aaa 46 3 o0 a0 cap0 r] w' := by
  subst b3
  have hH : Hp w (aaj [blk a2 [(Vs a3 a1.length a4)] 22]) [blk a2 [(Vs a3 a1.length a4)] 22] w := hM
  refine enter (k := 5) Tryz.func185 rfl rfl (Nat.le_of_ble_eq_true rfl) ?_
  unfold aev at hr
  refine sr (wp 1 (nq (sr (wp 1 ?_))))
  have a6 := hH.nilrw aaa 46 3 none
  replace a6 : Hp w (aaj [blk a2 [(Vs a3 a1.length a4)] 22]) [rwt aaa 46 3 none none 0 ([] : List (Str × Str × Bool)), blk a2 [(Vs a3 a1.length a4)] 22] w := a6
  refine bi hr fun y1 b5 hr => ?_
  have a5 : Hp w (aaj [blk a2 [(Vs a3 a1.length a4)] 22]) [blk a2 [(Vs a3 a1.length a4)] 22, rwt aaa 46 3 none none 0 ([] : List (Str × Str × Bool))] w := a6.front 1 _ rfl
  refine aad 218 #[] [(Vs none 0 0), (Value.func (.func 186) #[] #[(Vp (some ⟨a2, 0, none⟩))])] _ ent218 (by kernel_rfl) (by kernel_rfl) (ajl (s_0 := ([] : List (Str × Str × Bool))) none none 0 a2 a3 a1.length a4 b5 (hG.hp a5 hS) rfl (b0.hpN a5 b1) b4 (a5.hand (L1 := [blk a2 [(Vs a3 a1.length a4)] 22, rwt aaa 46 3 none none 0 ([] : List (Str × Str × Bool))]) (L2 := [])) (a5.highs hG hS 2 rfl) (a5.apartRd 2 b0 b1 rfl)) ?_
  rintro _ w3 ⟨o9, a7, a8, rfl, b2⟩
  have b6 : Hp w (aaj [blk a2 [(Vs a3 a1.length a4)] 22]) [blk a2 [(Vs a3 a1.length a4)] 22, rwt aaa 46 3 o9 a7 a8 y1] w3 := Hp.callK (L1 := [blk a2 [(Vs a3 a1.length a4)] 22, rwt aaa 46 3 none none 0 ([] : List (Str × Str × Bool))]) (L2 := []) a5 b2; clear b2
  refine wp 1 (nq (ct ?_))
  obtain rfl := oi hr
  refine ana (Vs a7 y1.length a8) rfl (by kernel_rfl) ?_
  exact ⟨o9, a7, a8, (by first | rfl | (simp; done) | (simp; omega)), (Hp.front (Hp.front b6 1 _ rfl) 1 _ rfl).kp⟩
theorem aig {fu : Nat} {a0 : (Str × Str × Bool)} {a1 : (Str × Str × Bool)} {w : World} {r : Int} (hr : agh fu a0 a1 = some r) (hG : Gl w) : CR Tryz.prog 130 [(Value.agg #[(str a0.1), (str a0.2.1), (Vb a0.2.2)]), (Value.agg #[(str a1.1), (str a1.2.1), (Vb a1.2.2)])] w fun v w' => v = (Vi .i64 r) ∧ Hp w [] [] w' := by
  have hH : Hp w [] [] w := Hp.refl w
  refine enter (k := 10) Tryz.func130 rfl rfl (Nat.le_of_ble_eq_true rfl) ?_
  unfold agh at hr
  refine sr (adl hH [(str a0.1), (str a0.2.1), (Vb a0.2.2)] 46 (fun b => (Vp (some ⟨b, 0, none⟩))) rfl rfl (by kernel_rfl) fun b1 w2 a3 => adl a3 [(str a1.1), (str a1.2.1), (Vb a1.2.2)] 46 (fun b => (Vp (some ⟨b, 0, none⟩))) rfl rfl (by kernel_rfl) fun b4 w5 a2 => wp 1 (nq (sr (wp 1 ?_))))
  refine aav a2 1 b1 0 [(str a0.1), (str a0.2.1), (Vb a0.2.2)] 46 (str a0.1) rfl rfl (by kernel_rfl) (by kernel_rfl) (wp 1 (aav a2 0 b4 0 [(str a1.1), (str a1.2.1), (Vb a1.2.2)] 46 (str a1.1) rfl rfl (by kernel_rfl) (by kernel_rfl) (bi hr fun y7 a4 hr => wc ent131 a2 (akv a4 (hG.hp0 a2)) fun w9 a5 => wp 1 (nq (ct ?_)))))
  obtain rfl := oi hr
  exact rv a5.kp
theorem ady {fu : Nat} {a6 : List (Str × Str × Bool)} {b0 : Int} {c0 : Int} (a5 : Option Nat) (a2 : Option Addr) (a3 : Nat) {w : World} {r : List (Str × Str × Bool)} (hr : abr fu a6 b0 c0 = some r) (hG : Gl w) (hM : Hp w (aaj [rwt aaa 46 3 a5 a2 a3 a6]) [rwt aaa 46 3 a5 a2 a3 a6] w) (hS : ∀ b ∈ aaj [rwt aaa 46 3 a5 a2 a3 a6], 9 ≤ b) : CR Tryz.prog 241 [(Vs a2 a6.length a3), (Vi .i64 b0), (Vi .i64 c0), (Value.func (.func 130) #[] #[])] w fun v w' => v = (Value.tuple #[]) ∧ r.length = a6.length ∧ Hp w (aaj [rwt aaa 46 3 a5 a2 a3 a6]) [rwt aaa 46 3 a5 a2 a3 r] w' := by
  have hH : Hp w (aaj [rwt aaa 46 3 a5 a2 a3 a6]) [rwt aaa 46 3 a5 a2 a3 a6] w := hM
  refine enter (k := 53) Tryz.func241 rfl rfl (Nat.le_of_ble_eq_true rfl) ?_
  unfold abr at hr
  refine sr (wp 1 (gi hr fun g1 hr => aac b0 (1 : Int) (by kernel_rfl) (by kernel_rfl) g1 (wp 1 (nq (ce (lpG (σ := Nat × (List (Str × Str × Bool)) × Int) [0, 1, 2, 3, 8] (fun ⟨b5, a9, b2⟩ => [(0, (Vs a2 a9.length a3)), (8, (Vi .i64 b2))]) (fun ⟨b5, a9, b2⟩ w' => Hp w (aaj [rwt aaa 46 3 a5 a2 a3 a6]) [rwt aaa 46 3 a5 a2 a3 a9] w' ∧ a9.length = a6.length ∧ abj fu b0 c0 b5 a9 b2 = some r) (fun ⟨b5, a9, b2⟩ => b5) (fu, a6, b0 + (1 : Int)) (by exact ⟨hH.kp, (by (try simp only [List.length_set]) <;> first | rfl | omega), hr⟩) ?_))))))
  rintro ⟨_ | b5, a9, b2⟩ g0 G ⟨c6, g2, a8⟩
  · exact absurd (show none = some _ from a8) (by simp)
  rw [abj.eq_2] at a8
  refine cs (sr (wp 3 (nq (cd a8 (fun d4 a8 => ?_) (fun d4 a8 => ?_)))))
  refine ck (qn (bi a8 fun c7 d5 a8 => cut (σ := (List (Str × Str × Bool))) [0, 1, 2, 3, 8] (fun b3 => [(0, (Vs a2 b3.length a3))]) (fun b3 w' => Hp w (aaj [rwt aaa 46 3 a5 a2 a3 a6]) [rwt aaa 46 3 a5 a2 a3 b3] w' ∧ b3.length = a9.length ∧ b3 = c7) ?_ ?_))
  refine ce (sr (wp 2 (nq (ce (lpG (σ := Nat × (List (Str × Str × Bool)) × Int) [0, 1, 2, 3, 8, 9] (fun ⟨b4, a1, a0⟩ => [(0, (Vs a2 a1.length a3)), (9, (Vi .i64 a0))]) (fun ⟨b4, a1, a0⟩ w' => Hp w (aaj [rwt aaa 46 3 a5 a2 a3 a6]) [rwt aaa 46 3 a5 a2 a3 a1] w' ∧ a1.length = a9.length ∧ abi fu b0 b4 a1 a0 = some c7) (fun ⟨b4, a1, a0⟩ => b4) (fu, a9, b2) (by exact ⟨c6.kp, (by (try simp only [List.length_set]) <;> first | rfl | omega), d5⟩) ?_)))))
  rintro ⟨_ | b4, a1, a0⟩ g3 G ⟨c1, g4, a4⟩
  · exact absurd (show none = some _ from a4) (by simp)
  rw [abi.eq_2] at a4
  refine cs (bi a4 fun d6 a7 a4 => agq c1 [0, 1, 2, 3, 8, 9, 34] [(34, (Vb d6))] ?_ ?_)
  by_cases b9 : b0 < a0
  replace a7 := ift b9 a7
  refine gi a7 fun d7 a7 => gi a7 fun d8 a7 => gi a7 fun d9 a7 => gi a7 fun e0 a7 => gi a7 fun e1 a7 => adm 14 (fun j_ w_ w_' => abv [8, 14, 15, 16] (fun w' => Rd w' a2 (List.flatMap aaa a1)) j_ w_ w_' ∧ abv [14, 15, 16] (fun w' => Rd w' a2 (List.flatMap aaa a1)) j_ w_ w_' ∧ abv [13, 14, 15, 16] (fun w' => Rd w' a2 (List.flatMap aaa a1)) j_ w_ w_' ∧ True) [false, false, false, false, false, false, false, false, false, false, false, false, false, false, false, false, false] (fun _ _ => ⟨abv.same, abv.same, abv.same, trivial⟩) (by kernel_rfl) (by kernel_rfl) c1 rfl (aal (adb (aal (aah (aah (aal (aal (aah acf)))))))) fun g5 b6 => rp 11 [0, 1, 2] (rt 3 (Vb true) rfl rfl (aai rfl (by intro w hS_; exact Eq.trans (b := Result.ok (Next.value (.bool (decide (b0 < a0)))) w) (by kernel_rfl) (congrArg (fun b => Result.ok (Next.value (.bool b)) w) (decide_eq_true b9)))) (rp 7 [4, 5, 6] (aag [true, true, true, true, true, true, true, true, false, false, false, false, false, false, false, false, false] 7 25 (Vp (some (ea a2 (a0.toNat * 3)))) [8, 14, 15, 16] (fun _ _ _ h => h.1) _ rfl rfl (by kernel_rfl) (by kernel_rfl) (by kernel_rfl) (by kernel_rfl) (by kernel_rfl) rfl (akb 21 (by kernel_rfl) (by kernel_rfl) (by kernel_rfl) (by intro w hS_; exact (amu a2 a1.length a3 46 3 .i64 a0 Tryz.underlying22 (by kernel_rfl) (by kernel_rfl) (by kernel_rfl) a1 rfl d7 hS_ aab (by decide)))) (by exact (b6.rdrw 0 rfl)) ?_)))
  refine aag [true, true, true, true, true, true, true, true, true, false, false, false, false, false, false, false, false] 8 26 (Value.agg #[(str ((el a1 a0).1)), (str ((el a1 a0).2.1)), (Vb ((el a1 a0).2.2))]) [14, 15, 16] (fun _ _ _ h => h.2.1) _ rfl rfl (by kernel_rfl) (by kernel_rfl) (by kernel_rfl) (by kernel_rfl) (by kernel_rfl) rfl (akb 21 (by kernel_rfl) (by kernel_rfl) (by kernel_rfl) (by intro w hS_; exact (x_ldE a2 aaa a1 3 a0 aab hS_ [(str ((el a1 a0).1)), (str ((el a1 a0).2.1)), (Vb ((el a1 a0).2.2))] d8 (by kernel_rfl) (by kernel_rfl) (by kernel_rfl) (by kernel_rfl) (by decide)))) (by exact (b6.rdrw 0 rfl)) (rp 3 [9, 10] (rt 11 (Vi .i64 (a0 - (1 : Int))) rfl rfl (akb 21 (by kernel_rfl) (by kernel_rfl) (by kernel_rfl) (by intro w hS_; exact (akf a0 (1 : Int) (by kernel_rfl) (by kernel_rfl) d9))) (aag [true, true, true, true, true, true, true, true, true, true, true, true, true, false, false, false, false] 12 30 (Vp (some (ea a2 ((a0 - (1 : Int)).toNat * 3)))) [13, 14, 15, 16] (fun _ _ _ h => h.2.2.1) _ rfl rfl (by kernel_rfl) (by kernel_rfl) (by kernel_rfl) (by kernel_rfl) (by kernel_rfl) rfl (akb 21 (by kernel_rfl) (by kernel_rfl) (by kernel_rfl) (by intro w hS_; exact (amu a2 a1.length a3 46 3 .i64 (a0 - (1 : Int)) Tryz.underlying22 (by kernel_rfl) (by kernel_rfl) (by kernel_rfl) a1 rfl e0 hS_ aab (by decide)))) (by exact (b6.rdrw 0 rfl)) (aag [true, true, true, true, true, true, true, true, true, true, true, true, true, true, false, false, false] 13 31 (Value.agg #[(str ((el a1 (a0 - (1 : Int))).1)), (str ((el a1 (a0 - (1 : Int))).2.1)), (Vb ((el a1 (a0 - (1 : Int))).2.2))]) [14, 15, 16] (fun _ _ _ h => h.2.1) _ rfl rfl (by kernel_rfl) (by kernel_rfl) (by kernel_rfl) (by kernel_rfl) (by kernel_rfl) rfl (akb 21 (by kernel_rfl) (by kernel_rfl) (by kernel_rfl) (by intro w hS_; exact (x_ldE a2 aaa a1 3 (a0 - (1 : Int)) aab hS_ [(str ((el a1 (a0 - (1 : Int))).1)), (str ((el a1 (a0 - (1 : Int))).2.1)), (Vb ((el a1 (a0 - (1 : Int))).2.2))] e1 (by kernel_rfl) (by kernel_rfl) (by kernel_rfl) (by kernel_rfl) (by decide)))) (by exact (b6.rdrw 0 rfl)) (acw (by kernel_rfl) (gy 21 (bi a7 fun g6 e2 a7 => wc ent130 b6 (aig e2 (hG.hp b6 hS)) fun g7 e3 => wp 2 ?_)))))))
  refine wl (ql ?_)
  obtain rfl := oi a7
  exact je e3.kp
  replace a7 := ifn b9 a7
  refine adm 14 (fun j_ w_ w_' => abv [8, 14, 15, 16] (fun w' => Rd w' a2 (List.flatMap aaa a1)) j_ w_ w_' ∧ abv [14, 15, 16] (fun w' => Rd w' a2 (List.flatMap aaa a1)) j_ w_ w_' ∧ abv [13, 14, 15, 16] (fun w' => Rd w' a2 (List.flatMap aaa a1)) j_ w_ w_' ∧ True) [false, false, false, false, false, false, false, false, false, false, false, false, false, false, false, false, false] (fun _ _ => ⟨abv.same, abv.same, abv.same, trivial⟩) (by kernel_rfl) (by kernel_rfl) c1 rfl (aal (adb (aal (aah (aah (aal (aal (aah acf)))))))) fun g8 e4 => rp 11 [0, 1, 2] (rt 3 (Vb false) rfl rfl (aai rfl (by intro w hS_; exact Eq.trans (b := Result.ok (Next.value (.bool (decide (b0 < a0)))) w) (by kernel_rfl) (congrArg (fun b => Result.ok (Next.value (.bool b)) w) (decide_eq_false b9)))) (rp 0 [4, 5, 6, 7, 8, 9, 10, 11, 12, 13] (acw (by kernel_rfl) (wp 3 (wl (ql ?_))))))
  obtain rfl := oi a7
  exact je e4.kp
  intro g9 G b8
  refine cb a4 (fun e5 a4 => ?_) (fun e5 a4 => ?_)
  refine ck (qn (cs (ce (gi a4 fun e6 a4 => gi a4 fun e7 a4 => gi a4 fun c8 a4 => ?_))))
  have e8 := aet (b8.rdrw 0 rfl) aab (by decide) c8
  refine gi a4 fun c9 a4 => gi a4 fun d0 a4 => ?_
  have e9 := aet (b8.rdrw 0 rfl) aab (by decide) d0
  refine gi a4 fun d1 a4 => gi a4 fun c2 a4 => ?_
  have d2 := aet (b8.rdrw 0 rfl) aab (by decide) c2
  refine gi a4 fun d3 a4 => cdr 16 b8 (aah (adb (aal (aah (aah (aal (aal (aah acf)))))))) fun h0 b7 => rp 12 [0, 1, 2, 3] (rt 4 (Vi .i64 (a0 - (1 : Int))) rfl rfl (aai rfl (by intro w hS_; exact (akf a0 (1 : Int) (by kernel_rfl) (by kernel_rfl) e6))) (rp 9 [5, 6] (rt 7 (Vi .i64 (a0 - (1 : Int))) rfl rfl (aai rfl (by intro w hS_; exact (akf a0 (1 : Int) (by kernel_rfl) (by kernel_rfl) e7))) (rt 8 (Vp (some (ea a2 ((a0 - (1 : Int)).toNat * 3)))) rfl rfl (aai rfl (by intro w hS_; exact (ajn a2 a1.length a3 46 3 .i64 (a0 - (1 : Int)) Tryz.underlying22 (by kernel_rfl) (by kernel_rfl) (by kernel_rfl) (ael (l := a1) rfl c8) e8))) (rp 5 [10, 11] (rt 12 (Vp (some (ea a2 (a0.toNat * 3)))) rfl rfl (aai rfl (by intro w hS_; exact (ajn a2 a1.length a3 46 3 .i64 a0 Tryz.underlying22 (by kernel_rfl) (by kernel_rfl) (by kernel_rfl) (ael (l := a1) rfl d0) e9))) (r_one2 [true, true, true, true, true, true, true, true, true, true, true, true, true, false, false, false, false, false] [true, true, true, true, true, true, true, true, true, false, true, true, true, true, false, false, false, false] 9 13 _ _ rfl rfl (by kernel_rfl) (by kernel_rfl) (by kernel_rfl) rfl rfl ?_ ?_)))))))
  refine ahm a2 aaa a1 3 (a0 - (1 : Int)) aab (b7.rdrw 0 rfl) [(str ((el a1 (a0 - (1 : Int))).1)), (str ((el a1 (a0 - (1 : Int))).2.1)), (Vb ((el a1 (a0 - (1 : Int))).2.2))] c9 (by kernel_rfl) (by kernel_rfl) (by kernel_rfl) (by kernel_rfl) (by decide) (wl (abk (by exact trivial) (ro 13 rfl (ahm a2 aaa a1 3 a0 aab (b7.rdrw 0 rfl) [(str ((el a1 a0).1)), (str ((el a1 a0).2.1)), (Vb ((el a1 a0).2.2))] d1 (by kernel_rfl) (by kernel_rfl) (by kernel_rfl) (by kernel_rfl) (by decide) (wl (abk (by exact trivial) (rt 14 (Vp (some (ea a2 (a0.toNat * 3)))) rfl rfl (aai rfl (by intro w hS_; exact (ajn a2 a1.length a3 46 3 .i64 a0 Tryz.underlying22 (by kernel_rfl) (by kernel_rfl) (by kernel_rfl) (ael (l := a1) rfl c2) d2))) (ro 15 rfl (ajr b7 0 a5 a2 a3 46 3 a0 a1 ((el a1 (a0 - (1 : Int))).1, (el a1 (a0 - (1 : Int))).2.1, ((el a1 (a0 - (1 : Int))).2.2)) rfl aab [(str ((el a1 (a0 - (1 : Int))).1)), (str ((el a1 (a0 - (1 : Int))).2.1)), (Vb ((el a1 (a0 - (1 : Int))).2.2))] d3 (by kernel_rfl) (by kernel_rfl) (by kernel_rfl) (by decide) (by kernel_rfl) fun c3 b1 => ?_)))))))))
  replace b1 : Hp w (aaj [rwt aaa 46 3 a5 a2 a3 a6]) [rwt aaa 46 3 a5 a2 a3 (List.set a1 (Int.toNat a0) ((el a1 (a0 - (1 : Int))).1, (el a1 (a0 - (1 : Int))).2.1, ((el a1 (a0 - (1 : Int))).2.2)))] c3 := b1
  refine wl (abk (by exact trivial) (acw (by kernel_rfl) (gi a4 fun f0 a4 => aht a2 a1.length a3 46 3 .i64 (a0 - (1 : Int)) Tryz.underlying22 (by kernel_rfl) (by kernel_rfl) (by kernel_rfl) (List.set a1 (Int.toNat a0) ((el a1 (a0 - (1 : Int))).1, (el a1 (a0 - (1 : Int))).2.1, ((el a1 (a0 - (1 : Int))).2.2))) (by first | rfl | (simp; done) | omega | (simp; omega) | (rw [List.length_take]; omega)) f0 (b1.rdrw 0 rfl) aab (by decide) (gi a4 fun f1 a4 => ajr b1 0 a5 a2 a3 46 3 (a0 - (1 : Int)) (List.set a1 (Int.toNat a0) ((el a1 (a0 - (1 : Int))).1, (el a1 (a0 - (1 : Int))).2.1, ((el a1 (a0 - (1 : Int))).2.2))) ((el a1 a0).1, (el a1 a0).2.1, ((el a1 a0).2.2)) rfl aab [(str ((el a1 a0).1)), (str ((el a1 a0).2.1)), (Vb ((el a1 a0).2.2))] f1 (by kernel_rfl) (by kernel_rfl) (by kernel_rfl) (by decide) (by kernel_rfl) fun f2 c4 => ?_))))
  replace c4 : Hp w (aaj [rwt aaa 46 3 a5 a2 a3 a6]) [rwt aaa 46 3 a5 a2 a3 (List.set (List.set a1 (Int.toNat a0) ((el a1 (a0 - (1 : Int))).1, (el a1 (a0 - (1 : Int))).2.1, ((el a1 (a0 - (1 : Int))).2.2))) (Int.toNat (a0 - (1 : Int))) ((el a1 a0).1, (el a1 a0).2.1, ((el a1 a0).2.2)))] f2 := c4
  refine wl (bn (qn (cr (wp 1 (gi a4 fun f3 a4 => adp a0 (1 : Int) (by kernel_rfl) (by kernel_rfl) f3 (wp 1 (wl (ql ?_))))))))
  exact ⟨(b4, List.set (List.set a1 (Int.toNat a0) ((el a1 (a0 - (1 : Int))).1, (el a1 (a0 - (1 : Int))).2.1, ((el a1 (a0 - (1 : Int))).2.2))) (Int.toNat (a0 - (1 : Int))) ((el a1 a0).1, (el a1 a0).2.1, ((el a1 a0).2.2)), a0 - (1 : Int)), _, rfl, (mc (Eq.trans (b := (Vs a2 a1.length a3)) (by kernel_rfl) (aae (by (try simp only [List.length_set]) <;> first | rfl | omega | simp))) (mc (by kernel_rfl) (mc (by kernel_rfl) (mc (by kernel_rfl) (mc (by kernel_rfl) (mc (by kernel_rfl) rfl)))))), ⟨c4.kp, (by (try simp only [List.length_set]) <;> first | rfl | omega), a4⟩, Nat.lt_succ_self _⟩
  refine ahm a2 aaa a1 3 a0 aab (b7.rdrw 0 rfl) [(str ((el a1 a0).1)), (str ((el a1 a0).2.1)), (Vb ((el a1 a0).2.2))] d1 (by kernel_rfl) (by kernel_rfl) (by kernel_rfl) (by kernel_rfl) (by decide) (wl (abk (by exact trivial) (ro 9 rfl (ahm a2 aaa a1 3 (a0 - (1 : Int)) aab (b7.rdrw 0 rfl) [(str ((el a1 (a0 - (1 : Int))).1)), (str ((el a1 (a0 - (1 : Int))).2.1)), (Vb ((el a1 (a0 - (1 : Int))).2.2))] c9 (by kernel_rfl) (by kernel_rfl) (by kernel_rfl) (by kernel_rfl) (by decide) (wl (abk (by exact trivial) (rt 14 (Vp (some (ea a2 (a0.toNat * 3)))) rfl rfl (aai rfl (by intro w hS_; exact (ajn a2 a1.length a3 46 3 .i64 a0 Tryz.underlying22 (by kernel_rfl) (by kernel_rfl) (by kernel_rfl) (ael (l := a1) rfl c2) d2))) (ro 15 rfl (ajr b7 0 a5 a2 a3 46 3 a0 a1 ((el a1 (a0 - (1 : Int))).1, (el a1 (a0 - (1 : Int))).2.1, ((el a1 (a0 - (1 : Int))).2.2)) rfl aab [(str ((el a1 (a0 - (1 : Int))).1)), (str ((el a1 (a0 - (1 : Int))).2.1)), (Vb ((el a1 (a0 - (1 : Int))).2.2))] d3 (by kernel_rfl) (by kernel_rfl) (by kernel_rfl) (by decide) (by kernel_rfl) fun c3 b1 => ?_)))))))))
  replace b1 : Hp w (aaj [rwt aaa 46 3 a5 a2 a3 a6]) [rwt aaa 46 3 a5 a2 a3 (List.set a1 (Int.toNat a0) ((el a1 (a0 - (1 : Int))).1, (el a1 (a0 - (1 : Int))).2.1, ((el a1 (a0 - (1 : Int))).2.2)))] c3 := b1
  refine wl (abk (by exact trivial) (acw (by kernel_rfl) (gi a4 fun f4 a4 => aht a2 a1.length a3 46 3 .i64 (a0 - (1 : Int)) Tryz.underlying22 (by kernel_rfl) (by kernel_rfl) (by kernel_rfl) (List.set a1 (Int.toNat a0) ((el a1 (a0 - (1 : Int))).1, (el a1 (a0 - (1 : Int))).2.1, ((el a1 (a0 - (1 : Int))).2.2))) (by first | rfl | (simp; done) | omega | (simp; omega) | (rw [List.length_take]; omega)) f4 (b1.rdrw 0 rfl) aab (by decide) (gi a4 fun f5 a4 => ajr b1 0 a5 a2 a3 46 3 (a0 - (1 : Int)) (List.set a1 (Int.toNat a0) ((el a1 (a0 - (1 : Int))).1, (el a1 (a0 - (1 : Int))).2.1, ((el a1 (a0 - (1 : Int))).2.2))) ((el a1 a0).1, (el a1 a0).2.1, ((el a1 a0).2.2)) rfl aab [(str ((el a1 a0).1)), (str ((el a1 a0).2.1)), (Vb ((el a1 a0).2.2))] f5 (by kernel_rfl) (by kernel_rfl) (by kernel_rfl) (by decide) (by kernel_rfl) fun f6 c5 => ?_))))
  replace c5 : Hp w (aaj [rwt aaa 46 3 a5 a2 a3 a6]) [rwt aaa 46 3 a5 a2 a3 (List.set (List.set a1 (Int.toNat a0) ((el a1 (a0 - (1 : Int))).1, (el a1 (a0 - (1 : Int))).2.1, ((el a1 (a0 - (1 : Int))).2.2))) (Int.toNat (a0 - (1 : Int))) ((el a1 a0).1, (el a1 a0).2.1, ((el a1 a0).2.2)))] f6 := c5
  refine wl (bn (qn (cr (wp 1 (gi a4 fun f7 a4 => adp a0 (1 : Int) (by kernel_rfl) (by kernel_rfl) f7 (wp 1 (wl (ql ?_))))))))
  exact ⟨(b4, List.set (List.set a1 (Int.toNat a0) ((el a1 (a0 - (1 : Int))).1, (el a1 (a0 - (1 : Int))).2.1, ((el a1 (a0 - (1 : Int))).2.2))) (Int.toNat (a0 - (1 : Int))) ((el a1 a0).1, (el a1 a0).2.1, ((el a1 a0).2.2)), a0 - (1 : Int)), _, rfl, (mc (Eq.trans (b := (Vs a2 a1.length a3)) (by kernel_rfl) (aae (by (try simp only [List.length_set]) <;> first | rfl | omega | simp))) (mc (by kernel_rfl) (mc (by kernel_rfl) (mc (by kernel_rfl) (mc (by kernel_rfl) (mc (by kernel_rfl) rfl)))))), ⟨c5.kp, (by (try simp only [List.length_set]) <;> first | rfl | omega), a4⟩, Nat.lt_succ_self _⟩
  refine ach (acg (acq (aci (bn (ql ?_)))))
  obtain rfl := oi a4
  exact ⟨a1, _, rfl, by kernel_rfl, b8.kp, (by (try simp only [List.length_set]) <;> first | rfl | omega), rfl⟩
  rintro b3 h1 G ⟨f8, h2, rfl⟩
  refine cr (wp 1 (gi a8 fun f9 a8 => aac b2 (1 : Int) (by kernel_rfl) (by kernel_rfl) f9 (wp 1 (wl (ql ?_)))))
  exact ⟨(b5, b3, b2 + (1 : Int)), _, rfl, by kernel_rfl, ⟨f8.kp, (by (try simp only [List.length_set]) <;> first | rfl | omega), a8⟩, Nat.lt_succ_self _⟩
  refine ach (acg (acq (aci ?_)))
  obtain rfl := oi a8
  refine ahn  rfl  ?_
  exact ⟨(by first | rfl | (simp; done) | (simp; omega)), (by (try simp only [List.length_set]) <;> first | rfl | omega), c6.kp⟩
theorem acz {fu : Nat} {a8 : List (Str × Str × Bool)} {a3 : Int} {a2 : Int} {b3 : Int} (a7 : Option Nat) (a5 : Option Addr) (a6 : Nat) {w : World} {r : List (Str × Str × Bool)} (hr : abh fu a8 a3 a2 b3 = some r) (hG : Gl w) (hM : Hp w (aaj [rwt aaa 46 3 a7 a5 a6 a8]) [rwt aaa 46 3 a7 a5 a6 a8] w) (hS : ∀ b ∈ aaj [rwt aaa 46 3 a7 a5 a6 a8], 9 ≤ b) : CR Tryz.prog 270 [(Vs a5 a8.length a6), (Vi .i64 a3), (Vi .i64 a2), (Vi .i64 b3), (Value.func (.func 130) #[] #[])] w fun v w' => v = (Value.tuple #[]) ∧ r.length = a8.length ∧ Hp w (aaj [rwt aaa 46 3 a7 a5 a6 a8]) [rwt aaa 46 3 a7 a5 a6 r] w' := by
  have hH : Hp w (aaj [rwt aaa 46 3 a7 a5 a6 a8]) [rwt aaa 46 3 a7 a5 a6 a8] w := hM
  refine enter (k := 38) Tryz.func270 rfl rfl (Nat.le_of_ble_eq_true rfl) ?_
  unfold abh at hr
  refine sr (wp 1 (nq (ce (lpG (σ := Nat × (List (Str × Str × Bool)) × Int) [0, 1, 2, 3, 10] (fun ⟨b0, a1, a0⟩ => [(0, (Vs a5 a1.length a6)), (10, (Vi .i64 a0))]) (fun ⟨b0, a1, a0⟩ w' => Hp w (aaj [rwt aaa 46 3 a7 a5 a6 a8]) [rwt aaa 46 3 a7 a5 a6 a1] w' ∧ a1.length = a8.length ∧ abq fu a3 a2 b3 b0 a1 a0 = some r) (fun ⟨b0, a1, a0⟩ => b0) (fu, a8, (0 : Int)) (by exact ⟨hH.kp, (by (try simp only [List.length_set]) <;> first | rfl | omega), hr⟩) ?_))))
  rintro ⟨_ | b0, a1, a0⟩ d9 G ⟨b2, e0, a4⟩
  · exact absurd (show none = some _ from a4) (by simp)
  rw [abq.eq_2] at a4
  refine cs (sr (wp 3 (nq (cd a4 (fun c4 a4 => ?_) (fun c4 a4 => ?_)))))
  refine ck (qn (cs (ce (gi a4 fun c5 a4 => gi a4 fun c6 a4 => gi a4 fun c7 a4 => gi a4 fun b8 a4 => ?_))))
  have c8 := aet (b2.rdrw 0 rfl) aab (by decide) b8
  refine gi a4 fun b9 a4 => gi a4 fun c9 a4 => gi a4 fun c0 a4 => ?_
  have d0 := aet (b2.rdrw 0 rfl) aab (by decide) c0
  refine gi a4 fun c1 a4 => gi a4 fun b4 a4 => ?_
  have c2 := aet (b2.rdrw 0 rfl) aab (by decide) b4
  refine gi a4 fun c3 a4 => cdr 22 b2 (aah (adb (aal (aah acf)))) fun e1 b1 => rp 19 [0, 1, 2] (rt 3 (Vi .i64 (a3 + a0)) rfl rfl (aai rfl (by intro w hS_; exact (aiv a3 a0 (by kernel_rfl) (by kernel_rfl) c5))) (rp 15 [4, 5, 6] (rt 7 (Vi .i64 (a2 + a0)) rfl rfl (aai rfl (by intro w hS_; exact (aiv a2 a0 (by kernel_rfl) (by kernel_rfl) c6))) (rp 11 [8, 9, 10] (rt 11 (Vi .i64 (a2 + a0)) rfl rfl (aai rfl (by intro w hS_; exact (aiv a2 a0 (by kernel_rfl) (by kernel_rfl) c7))) (rt 12 (Vp (some (ea a5 ((a2 + a0).toNat * 3)))) rfl rfl (aai rfl (by intro w hS_; exact (ajn a5 a1.length a6 46 3 .i64 (a2 + a0) Tryz.underlying22 (by kernel_rfl) (by kernel_rfl) (by kernel_rfl) (ael (l := a1) rfl b8) c8))) (rp 6 [14, 15, 16] ?_)))))))
  refine rt 17 (Vi .i64 (a3 + a0)) rfl rfl (aai rfl (by intro w hS_; exact (aiv a3 a0 (by kernel_rfl) (by kernel_rfl) c9))) (rt 18 (Vp (some (ea a5 ((a3 + a0).toNat * 3)))) rfl rfl (aai rfl (by intro w hS_; exact (ajn a5 a1.length a6 46 3 .i64 (a3 + a0) Tryz.underlying22 (by kernel_rfl) (by kernel_rfl) (by kernel_rfl) (ael (l := a1) rfl c0) d0))) (r_one2 [true, true, true, true, true, true, true, true, true, true, true, true, true, true, true, true, true, true, true, false, false, false, false, false] [true, true, true, true, true, true, true, true, true, true, true, true, true, false, true, true, true, true, true, true, false, false, false, false] 13 19 _ _ rfl rfl (by kernel_rfl) (by kernel_rfl) (by kernel_rfl) rfl rfl ?_ ?_))
  refine ahm a5 aaa a1 3 (a2 + a0) aab (b1.rdrw 0 rfl) [(str ((el a1 (a2 + a0)).1)), (str ((el a1 (a2 + a0)).2.1)), (Vb ((el a1 (a2 + a0)).2.2))] b9 (by kernel_rfl) (by kernel_rfl) (by kernel_rfl) (by kernel_rfl) (by decide) (wl (abk (by exact trivial) (ro 19 rfl (ahm a5 aaa a1 3 (a3 + a0) aab (b1.rdrw 0 rfl) [(str ((el a1 (a3 + a0)).1)), (str ((el a1 (a3 + a0)).2.1)), (Vb ((el a1 (a3 + a0)).2.2))] c1 (by kernel_rfl) (by kernel_rfl) (by kernel_rfl) (by kernel_rfl) (by decide) (wl (abk (by exact trivial) (rt 20 (Vp (some (ea a5 ((a3 + a0).toNat * 3)))) rfl rfl (aai rfl (by intro w hS_; exact (ajn a5 a1.length a6 46 3 .i64 (a3 + a0) Tryz.underlying22 (by kernel_rfl) (by kernel_rfl) (by kernel_rfl) (ael (l := a1) rfl b4) c2))) (ro 21 rfl (ajr b1 0 a7 a5 a6 46 3 (a3 + a0) a1 ((el a1 (a2 + a0)).1, (el a1 (a2 + a0)).2.1, ((el a1 (a2 + a0)).2.2)) rfl aab [(str ((el a1 (a2 + a0)).1)), (str ((el a1 (a2 + a0)).2.1)), (Vb ((el a1 (a2 + a0)).2.2))] c3 (by kernel_rfl) (by kernel_rfl) (by kernel_rfl) (by decide) (by kernel_rfl) fun b5 a9 => ?_)))))))))
  replace a9 : Hp w (aaj [rwt aaa 46 3 a7 a5 a6 a8]) [rwt aaa 46 3 a7 a5 a6 (List.set a1 (Int.toNat (a3 + a0)) ((el a1 (a2 + a0)).1, (el a1 (a2 + a0)).2.1, ((el a1 (a2 + a0)).2.2)))] b5 := a9
  refine wl (abk (by exact trivial) (acw (by kernel_rfl) (gi a4 fun d1 a4 => aht a5 a1.length a6 46 3 .i64 (a2 + a0) Tryz.underlying22 (by kernel_rfl) (by kernel_rfl) (by kernel_rfl) (List.set a1 (Int.toNat (a3 + a0)) ((el a1 (a2 + a0)).1, (el a1 (a2 + a0)).2.1, ((el a1 (a2 + a0)).2.2))) (by first | rfl | (simp; done) | omega | (simp; omega) | (rw [List.length_take]; omega)) d1 (a9.rdrw 0 rfl) aab (by decide) (gi a4 fun d2 a4 => ajr a9 0 a7 a5 a6 46 3 (a2 + a0) (List.set a1 (Int.toNat (a3 + a0)) ((el a1 (a2 + a0)).1, (el a1 (a2 + a0)).2.1, ((el a1 (a2 + a0)).2.2))) ((el a1 (a3 + a0)).1, (el a1 (a3 + a0)).2.1, ((el a1 (a3 + a0)).2.2)) rfl aab [(str ((el a1 (a3 + a0)).1)), (str ((el a1 (a3 + a0)).2.1)), (Vb ((el a1 (a3 + a0)).2.2))] d2 (by kernel_rfl) (by kernel_rfl) (by kernel_rfl) (by decide) (by kernel_rfl) fun d3 b6 => ?_))))
  replace b6 : Hp w (aaj [rwt aaa 46 3 a7 a5 a6 a8]) [rwt aaa 46 3 a7 a5 a6 (List.set (List.set a1 (Int.toNat (a3 + a0)) ((el a1 (a2 + a0)).1, (el a1 (a2 + a0)).2.1, ((el a1 (a2 + a0)).2.2))) (Int.toNat (a2 + a0)) ((el a1 (a3 + a0)).1, (el a1 (a3 + a0)).2.1, ((el a1 (a3 + a0)).2.2)))] d3 := b6
  refine wl (bn (qn (cr (wp 1 (gi a4 fun d4 a4 => aac a0 (1 : Int) (by kernel_rfl) (by kernel_rfl) d4 (wp 1 (wl (ql ?_))))))))
  exact ⟨(b0, List.set (List.set a1 (Int.toNat (a3 + a0)) ((el a1 (a2 + a0)).1, (el a1 (a2 + a0)).2.1, ((el a1 (a2 + a0)).2.2))) (Int.toNat (a2 + a0)) ((el a1 (a3 + a0)).1, (el a1 (a3 + a0)).2.1, ((el a1 (a3 + a0)).2.2)), a0 + (1 : Int)), _, rfl, (mc (Eq.trans (b := (Vs a5 a1.length a6)) (by kernel_rfl) (aae (by (try simp only [List.length_set]) <;> first | rfl | omega | simp))) (mc (by kernel_rfl) (mc (by kernel_rfl) (mc (by kernel_rfl) (mc (by kernel_rfl) rfl))))), ⟨b6.kp, (by (try simp only [List.length_set]) <;> first | rfl | omega), a4⟩, Nat.lt_succ_self _⟩
  refine ahm a5 aaa a1 3 (a3 + a0) aab (b1.rdrw 0 rfl) [(str ((el a1 (a3 + a0)).1)), (str ((el a1 (a3 + a0)).2.1)), (Vb ((el a1 (a3 + a0)).2.2))] c1 (by kernel_rfl) (by kernel_rfl) (by kernel_rfl) (by kernel_rfl) (by decide) (wl (abk (by exact trivial) (ro 13 rfl (ahm a5 aaa a1 3 (a2 + a0) aab (b1.rdrw 0 rfl) [(str ((el a1 (a2 + a0)).1)), (str ((el a1 (a2 + a0)).2.1)), (Vb ((el a1 (a2 + a0)).2.2))] b9 (by kernel_rfl) (by kernel_rfl) (by kernel_rfl) (by kernel_rfl) (by decide) (wl (abk (by exact trivial) (rt 20 (Vp (some (ea a5 ((a3 + a0).toNat * 3)))) rfl rfl (aai rfl (by intro w hS_; exact (ajn a5 a1.length a6 46 3 .i64 (a3 + a0) Tryz.underlying22 (by kernel_rfl) (by kernel_rfl) (by kernel_rfl) (ael (l := a1) rfl b4) c2))) (ro 21 rfl (ajr b1 0 a7 a5 a6 46 3 (a3 + a0) a1 ((el a1 (a2 + a0)).1, (el a1 (a2 + a0)).2.1, ((el a1 (a2 + a0)).2.2)) rfl aab [(str ((el a1 (a2 + a0)).1)), (str ((el a1 (a2 + a0)).2.1)), (Vb ((el a1 (a2 + a0)).2.2))] c3 (by kernel_rfl) (by kernel_rfl) (by kernel_rfl) (by decide) (by kernel_rfl) fun b5 a9 => ?_)))))))))
  replace a9 : Hp w (aaj [rwt aaa 46 3 a7 a5 a6 a8]) [rwt aaa 46 3 a7 a5 a6 (List.set a1 (Int.toNat (a3 + a0)) ((el a1 (a2 + a0)).1, (el a1 (a2 + a0)).2.1, ((el a1 (a2 + a0)).2.2)))] b5 := a9
  refine wl (abk (by exact trivial) (acw (by kernel_rfl) (gi a4 fun d5 a4 => aht a5 a1.length a6 46 3 .i64 (a2 + a0) Tryz.underlying22 (by kernel_rfl) (by kernel_rfl) (by kernel_rfl) (List.set a1 (Int.toNat (a3 + a0)) ((el a1 (a2 + a0)).1, (el a1 (a2 + a0)).2.1, ((el a1 (a2 + a0)).2.2))) (by first | rfl | (simp; done) | omega | (simp; omega) | (rw [List.length_take]; omega)) d5 (a9.rdrw 0 rfl) aab (by decide) (gi a4 fun d6 a4 => ajr a9 0 a7 a5 a6 46 3 (a2 + a0) (List.set a1 (Int.toNat (a3 + a0)) ((el a1 (a2 + a0)).1, (el a1 (a2 + a0)).2.1, ((el a1 (a2 + a0)).2.2))) ((el a1 (a3 + a0)).1, (el a1 (a3 + a0)).2.1, ((el a1 (a3 + a0)).2.2)) rfl aab [(str ((el a1 (a3 + a0)).1)), (str ((el a1 (a3 + a0)).2.1)), (Vb ((el a1 (a3 + a0)).2.2))] d6 (by kernel_rfl) (by kernel_rfl) (by kernel_rfl) (by decide) (by kernel_rfl) fun d7 b7 => ?_))))
  replace b7 : Hp w (aaj [rwt aaa 46 3 a7 a5 a6 a8]) [rwt aaa 46 3 a7 a5 a6 (List.set (List.set a1 (Int.toNat (a3 + a0)) ((el a1 (a2 + a0)).1, (el a1 (a2 + a0)).2.1, ((el a1 (a2 + a0)).2.2))) (Int.toNat (a2 + a0)) ((el a1 (a3 + a0)).1, (el a1 (a3 + a0)).2.1, ((el a1 (a3 + a0)).2.2)))] d7 := b7
  refine wl (bn (qn (cr (wp 1 (gi a4 fun d8 a4 => aac a0 (1 : Int) (by kernel_rfl) (by kernel_rfl) d8 (wp 1 (wl (ql ?_))))))))
  exact ⟨(b0, List.set (List.set a1 (Int.toNat (a3 + a0)) ((el a1 (a2 + a0)).1, (el a1 (a2 + a0)).2.1, ((el a1 (a2 + a0)).2.2))) (Int.toNat (a2 + a0)) ((el a1 (a3 + a0)).1, (el a1 (a3 + a0)).2.1, ((el a1 (a3 + a0)).2.2)), a0 + (1 : Int)), _, rfl, (mc (Eq.trans (b := (Vs a5 a1.length a6)) (by kernel_rfl) (aae (by (try simp only [List.length_set]) <;> first | rfl | omega | simp))) (mc (by kernel_rfl) (mc (by kernel_rfl) (mc (by kernel_rfl) (mc (by kernel_rfl) rfl))))), ⟨b7.kp, (by (try simp only [List.length_set]) <;> first | rfl | omega), a4⟩, Nat.lt_succ_self _⟩
  refine ach (acg (acq (aci ?_)))
  obtain rfl := oi a4
  refine ahn  rfl  ?_
  exact ⟨(by first | rfl | (simp; done) | (simp; omega)), (by (try simp only [List.length_set]) <;> first | rfl | omega), b2.kp⟩
end Go.Proofs
set_option linter.unusedVariables false
set_option linter.unusedSimpArgs false
set_option maxRecDepth 20000
set_option maxHeartbeats 1000000
namespace Go.Proofs
open Go.Wk Go.Px
open Go.Value renaming slice → Vs, int → Vi, bool → Vb, pointer → Vp
theorem ent71 : Go.Wk.Enters Tryz.prog 71 := ⟨Tryz.f71, _, Tryz.func71, rfl, by kernel_rfl⟩
theorem ent128 : Go.Wk.Enters Tryz.prog 128 := ⟨Tryz.f128, _, Tryz.func128, rfl, by kernel_rfl⟩
theorem ent129 : Go.Wk.Enters Tryz.prog 129 := ⟨Tryz.f129, _, Tryz.func129, rfl, by kernel_rfl⟩
theorem ent185 : Go.Wk.Enters Tryz.prog 185 := ⟨Tryz.f185, _, Tryz.func185, rfl, by kernel_rfl⟩
theorem ahf {fu : Nat} {a6 : List (Str × Str × Bool)} {b2 : Int} {a4 : Int} {b3 : Int} (a3 : Option Nat) (a0 : Option Addr) (a1 : Nat) {w : World} {r : List (Str × Str × Bool)} (hr : ado fu a6 b2 a4 b3 = some r) (hG : Gl w) (hM : Hp w (aaj [rwt aaa 46 3 a3 a0 a1 a6]) [rwt aaa 46 3 a3 a0 a1 a6] w) (hS : ∀ b ∈ aaj [rwt aaa 46 3 a3 a0 a1 a6], 9 ≤ b) : CR Tryz.prog 262 [(Vs a0 a6.length a1), (Vi .i64 b2), (Vi .i64 a4), (Vi .i64 b3), (Value.func (.func 130) #[] #[])] w fun v w' => v = (Value.tuple #[]) ∧ r.length = a6.length ∧ Hp w (aaj [rwt aaa 46 3 a3 a0 a1 a6]) [rwt aaa 46 3 a3 a0 a1 r] w' := by
  have hH : Hp w (aaj [rwt aaa 46 3 a3 a0 a1 a6]) [rwt aaa 46 3 a3 a0 a1 a6] w := hM
  refine enter (k := 58) Tryz.func262 rfl rfl (Nat.le_of_ble_eq_true rfl) ?_
  unfold ado at hr
  refine sr (wp 2 (gi hr fun g1 hr => adp a4 b2 (by kernel_rfl) (by kernel_rfl) g1 (wp 1 (nq (sr ?_)))))
  refine wp 2 (gi hr fun g2 hr => adp b3 a4 (by kernel_rfl) (by kernel_rfl) g2 (wp 1 (nq (bi hr fun b5 c1 hr => cut (σ := ((List (Str × Str × Bool)) × Int)) [0, 2, 4, 10] (fun a9 => [(0, (Vs a0 a9.1.length a1)), (10, (Vi .i64 a9.2))]) (fun a9 w' => Hp w (aaj [rwt aaa 46 3 a3 a0 a1 a6]) [rwt aaa 46 3 a3 a0 a1 a9.1] w' ∧ a9.1.length = a6.length ∧ a9 = b5) ?_ ?_))))
  refine ce (lpG (σ := Nat × (List (Str × Str × Bool)) × Int × Int) [0, 2, 4, 10, 11] (fun ⟨b1, a7, a5, a8⟩ => [(0, (Vs a0 a7.length a1)), (10, (Vi .i64 a5)), (11, (Vi .i64 a8))]) (fun ⟨b1, a7, a5, a8⟩ w' => Hp w (aaj [rwt aaa 46 3 a3 a0 a1 a6]) [rwt aaa 46 3 a3 a0 a1 a7] w' ∧ a7.length = a6.length ∧ abd fu a4 b1 a7 a5 a8 = some b5) (fun ⟨b1, a7, a5, a8⟩ => b1) (fu, a6, a4 - b2, b3 - a4) (by exact ⟨hH.kp, (by (try simp only [List.length_set]) <;> first | rfl | omega), c1⟩) ?_)
  rintro ⟨_ | b1, a7, a5, a8⟩ e1 G ⟨b0, e2, a2⟩
  · exact absurd (show none = some _ from a2) (by simp)
  rw [abd.eq_2] at a2
  refine cs (sr (wp 3 (nq (cn a2 (fun c2 a2 => ?_) (fun c2 a2 => ?_)))))
  refine ck (qn (ce (sr (wp 3 (nq (cd a2 (fun c3 a2 => ?_) (fun c3 a2 => ?_)))))))
  refine sr (wp 3 (gi a2 fun c4 a2 => adp a4 a5 (by kernel_rfl) (by kernel_rfl) c4 (wp 3 (bi a2 fun b6 c5 a2 => aad 270 #[] [(Vs a0 a7.length a1), (Vi .i64 (a4 - a5)), (Vi .i64 a4), (Vi .i64 a8), (Value.func (.func 130) #[] #[])] _ ent270 (by kernel_rfl) (by kernel_rfl) (acz a3 a0 a1 c5 (hG.hp b0 hS) (b0.hand (L1 := [rwt aaa 46 3 a3 a0 a1 a7]) (L2 := [])) (b0.highs hG hS 1 rfl)) ?_))))
  rintro _ c6 ⟨rfl, e3, b7⟩
  have c7 : Hp w (aaj [rwt aaa 46 3 a3 a0 a1 a6]) [rwt aaa 46 3 a3 a0 a1 b6] c6 := Hp.callK (L1 := [rwt aaa 46 3 a3 a0 a1 a7]) (L2 := []) b0 b7; clear b7
  refine nq (cr (wp 2 (gi a2 fun c8 a2 => adp a5 a8 (by kernel_rfl) (by kernel_rfl) c8 (wp 1 (wl (bn (ql ?_)))))))
  exact ⟨(b1, b6, a5 - a8, a8), _, rfl, (mc (Eq.trans (b := (Vs a0 a7.length a1)) (by kernel_rfl) (aae (by (try simp only [List.length_set]) <;> first | rfl | omega | simp))) (mc (by kernel_rfl) (mc (by kernel_rfl) (mc (by kernel_rfl) (mc (by kernel_rfl) rfl))))), ⟨c7.kp, (by (try simp only [List.length_set]) <;> first | rfl | omega), a2⟩, Nat.lt_succ_self _⟩
  refine sr (wp 3 (gi a2 fun c9 a2 => adp a4 a5 (by kernel_rfl) (by kernel_rfl) c9 (wp 2 (gi a2 fun d0 a2 => aac a4 a8 (by kernel_rfl) (by kernel_rfl) d0 (wp 1 (gi a2 fun d1 a2 => ?_))))))
  refine adp (a4 + a8) a5 (by kernel_rfl) (by kernel_rfl) d1 (wp 2 (bi a2 fun b8 d2 a2 => aad 270 #[] [(Vs a0 a7.length a1), (Vi .i64 (a4 - a5)), (Vi .i64 ((a4 + a8) - a5)), (Vi .i64 a5), (Value.func (.func 130) #[] #[])] _ ent270 (by kernel_rfl) (by kernel_rfl) (acz a3 a0 a1 d2 (hG.hp b0 hS) (b0.hand (L1 := [rwt aaa 46 3 a3 a0 a1 a7]) (L2 := [])) (b0.highs hG hS 1 rfl)) ?_))
  rintro _ d3 ⟨rfl, e4, b9⟩
  have d4 : Hp w (aaj [rwt aaa 46 3 a3 a0 a1 a6]) [rwt aaa 46 3 a3 a0 a1 b8] d3 := Hp.callK (L1 := [rwt aaa 46 3 a3 a0 a1 a7]) (L2 := []) b0 b9; clear b9
  refine nq (cr (wp 2 (gi a2 fun d5 a2 => adp a8 a5 (by kernel_rfl) (by kernel_rfl) d5 (wp 1 (wl (bn (ql ?_)))))))
  exact ⟨(b1, b8, a5, a8 - a5), _, rfl, (mc (Eq.trans (b := (Vs a0 a7.length a1)) (by kernel_rfl) (aae (by (try simp only [List.length_set]) <;> first | rfl | omega | simp))) (mc (by kernel_rfl) (mc (by kernel_rfl) (mc (by kernel_rfl) (mc (by kernel_rfl) rfl))))), ⟨d4.kp, (by (try simp only [List.length_set]) <;> first | rfl | omega), a2⟩, Nat.lt_succ_self _⟩
  refine ach (acg (acq (aci (ql ?_))))
  obtain rfl := oi a2
  exact ⟨(a7, a5), _, rfl, by kernel_rfl, b0.kp, (by (try simp only [List.length_set]) <;> first | rfl | omega), rfl⟩
  rintro a9 e5 G ⟨b4, e6, rfl⟩
  refine cr (wp 3 (gi hr fun d6 hr => adp a4 a9.2 (by kernel_rfl) (by kernel_rfl) d6 (wp 3 (bi hr fun d7 d8 hr => aad 270 #[] [(Vs a0 a9.1.length a1), (Vi .i64 (a4 - a9.2)), (Vi .i64 a4), (Vi .i64 a9.2), (Value.func (.func 130) #[] #[])] _ ent270 (by kernel_rfl) (by kernel_rfl) (acz a3 a0 a1 d8 (hG.hp b4 hS) (b4.hand (L1 := [rwt aaa 46 3 a3 a0 a1 a9.1]) (L2 := [])) (b4.highs hG hS 1 rfl)) ?_))))
  rintro _ d9 ⟨rfl, e7, c0⟩
  have e0 : Hp w (aaj [rwt aaa 46 3 a3 a0 a1 a6]) [rwt aaa 46 3 a3 a0 a1 d7] d9 := Hp.callK (L1 := [rwt aaa 46 3 a3 a0 a1 a9.1]) (L2 := []) b4 c0; clear c0
  refine wl ?_
  obtain rfl := oi hr
  refine ahn  rfl  ?_
  exact ⟨(by first | rfl | (simp; done) | (simp; omega)), (by (try simp only [List.length_set]) <;> first | rfl | omega), e0.kp⟩
theorem aej : ∀ {fu : Nat} {a5 : List (Str × Str × Bool)} {a8 : Int} {a9 : Int} {b2 : Int} (a7 : Option Nat) (a0 : Option Addr) (a6 : Nat) {w : World} {r : List (Str × Str × Bool)} (hr : aaq fu a5 a8 a9 b2 = some r) (hG : Gl w) (hM : Hp w (aaj [rwt aaa 46 3 a7 a0 a6 a5]) [rwt aaa 46 3 a7 a0 a6 a5] w) (hS : ∀ b ∈ aaj [rwt aaa 46 3 a7 a0 a6 a5], 9 ≤ b), CR Tryz.prog 242 [(Vs a0 a5.length a6), (Vi .i64 a8), (Vi .i64 a9), (Vi .i64 b2), (Value.func (.func 130) #[] #[])] w fun v w' => v = (Value.tuple #[]) ∧ r.length = a5.length ∧ Hp w (aaj [rwt aaa 46 3 a7 a0 a6 a5]) [rwt aaa 46 3 a7 a0 a6 r] w' := by
  intro fu
  induction fu with
  | zero =>
    intro a5 a8 a9 b2 a7 a0 a6 w r hr hG hM hS
    exact absurd (show none = some _ from hr) (by simp)
  | succ fu ih =>
  intro a5 a8 a9 b2 a7 a0 a6 w r hr hG hM hS
  have hH : Hp w (aaj [rwt aaa 46 3 a7 a0 a6 a5]) [rwt aaa 46 3 a7 a0 a6 a5] w := hM
  refine enter (k := 220) Tryz.func242 rfl rfl (Nat.le_of_ble_eq_true rfl) ?_
  rw [aaq.eq_2] at hr
  refine bi hr fun j5 c3 hr => cut1 hH j5 [0, 1, 2, 3, 4] (fun j6 => []) ?_ ?_
  refine sr (wp 2 (gi c3 fun j7 c3 => adp a9 a8 (by kernel_rfl) (by kernel_rfl) j7 (wp 1 (nq (cd c3 (fun j8 c3 => ?_) (fun j8 c3 => ?_))))))
  refine sr (wp 2 (nq (sr (wp 2 (nq ?_)))))
  refine bi c3 fun f1 j9 c3 => agq hH [0, 1, 2, 3, 4, 10] [(10, (Vi .i64 f1))] ?_ ?_
  refine ce (lpS (fun g4 ⟨b8, b9⟩ => aay fu a5 a8 g4 b8 b9) (a9, b2) hH j9 [0, 1, 2, 3, 4, 10, 11] (fun ⟨b8, b9⟩ => [(10, (Vi .i64 b8)), (11, (Vi .i64 b9))]) (fun _ => rfl) ?_)
  rintro g4 ⟨b8, b9⟩ t4 G g5 b6
  dsimp only at b6
  rw [aay.eq_2] at b6
  refine cs (sr (wp 3 (nq (cd b6 (fun k0 b6 => ?_) (fun k0 b6 => ?_)))))
  refine ck (qn (ce (sr (wp 2 (gi b6 fun k1 b6 => aac b8 b9 (by kernel_rfl) (by kernel_rfl) k1 (alj .u64 .i64 (b8 + b9) Tryz.underlying3 Tryz.underlying172 (by kernel_rfl) (w_shr .u64 .u64 (IntKind.wrap .u64 (b8 + b9)) (1 : Int) 2 (by kernel_rfl) (by kernel_rfl) (by decide) (by decide) (by decide) ?_)))))))
  refine alj .i64 .u64 ((IntKind.wrap .u64 (b8 + b9)) / 2) Tryz.underlying172 Tryz.underlying3 (by kernel_rfl) (wp 1 (nq (cs (gi b6 fun k2 b6 => gi b6 fun k3 b6 => gi b6 fun k4 b6 => gi b6 fun k5 b6 => adm 9 (fun j_ w_ w_' => abv [4, 9, 10] (fun w' => Rd w' a0 (List.flatMap aaa a5)) j_ w_ w_' ∧ abv [9, 10] (fun w' => Rd w' a0 (List.flatMap aaa a5)) j_ w_ w_' ∧ abv [8, 9, 10] (fun w' => Rd w' a0 (List.flatMap aaa a5)) j_ w_ w_' ∧ True) [false, false, false, false, false, false, false, false, false, false, false] (fun _ _ => ⟨abv.same, abv.same, abv.same, trivial⟩) (by kernel_rfl) (by kernel_rfl) g5 rfl (adb (aah (aal (aah (aal (aal acf)))))) fun t5 d3 => ?_))))
  refine rp 6 [0, 1, 2] (aag [true, true, true, true, false, false, false, false, false, false, false] 3 43 (Vp (some (ea a0 ((IntKind.wrap .i64 ((IntKind.wrap .u64 (b8 + b9)) / 2)).toNat * 3)))) [4, 9, 10] (fun _ _ _ h => h.1) _ rfl rfl (by kernel_rfl) (by kernel_rfl) (by kernel_rfl) (by kernel_rfl) (by kernel_rfl) rfl (aai rfl (by intro w hS_; exact (amu a0 a5.length a6 46 3 .i64 (IntKind.wrap .i64 ((IntKind.wrap .u64 (b8 + b9)) / 2)) Tryz.underlying22 (by kernel_rfl) (by kernel_rfl) (by kernel_rfl) a5 rfl k2 hS_ aab (by decide)))) (by exact (d3.rdrw 0 rfl)) (aag [true, true, true, true, true, false, false, false, false, false, false] 4 44 (Value.agg #[(str ((el a5 (IntKind.wrap .i64 ((IntKind.wrap .u64 (b8 + b9)) / 2))).1)), (str ((el a5 (IntKind.wrap .i64 ((IntKind.wrap .u64 (b8 + b9)) / 2))).2.1)), (Vb ((el a5 (IntKind.wrap .i64 ((IntKind.wrap .u64 (b8 + b9)) / 2))).2.2))]) [9, 10] (fun _ _ _ h => h.2.1) _ rfl rfl (by kernel_rfl) (by kernel_rfl) (by kernel_rfl) (by kernel_rfl) (by kernel_rfl) rfl (aai rfl (by intro w hS_; exact (x_ldE a0 aaa a5 3 (IntKind.wrap .i64 ((IntKind.wrap .u64 (b8 + b9)) / 2)) aab hS_ [(str ((el a5 (IntKind.wrap .i64 ((IntKind.wrap .u64 (b8 + b9)) / 2))).1)), (str ((el a5 (IntKind.wrap .i64 ((IntKind.wrap .u64 (b8 + b9)) / 2))).2.1)), (Vb ((el a5 (IntKind.wrap .i64 ((IntKind.wrap .u64 (b8 + b9)) / 2))).2.2))] k3 (by kernel_rfl) (by kernel_rfl) (by kernel_rfl) (by kernel_rfl) (by decide)))) (by exact (d3.rdrw 0 rfl)) (rp 2 [5, 6] (aag [true, true, true, true, true, true, true, true, false, false, false] 7 47 (Vp (some (ea a0 (a8.toNat * 3)))) [8, 9, 10] (fun _ _ _ h => h.2.2.1) _ rfl rfl (by kernel_rfl) (by kernel_rfl) (by kernel_rfl) (by kernel_rfl) (by kernel_rfl) rfl (aai rfl (by intro w hS_; exact (amu a0 a5.length a6 46 3 .i64 a8 Tryz.underlying22 (by kernel_rfl) (by kernel_rfl) (by kernel_rfl) a5 rfl k4 hS_ aab (by decide)))) (by exact (d3.rdrw 0 rfl)) (aag [true, true, true, true, true, true, true, true, true, false, false] 8 48 (Value.agg #[(str ((el a5 a8).1)), (str ((el a5 a8).2.1)), (Vb ((el a5 a8).2.2))]) [9, 10] (fun _ _ _ h => h.2.1) _ rfl rfl (by kernel_rfl) (by kernel_rfl) (by kernel_rfl) (by kernel_rfl) (by kernel_rfl) rfl (aai rfl (by intro w hS_; exact (x_ldE a0 aaa a5 3 a8 aab hS_ [(str ((el a5 a8).1)), (str ((el a5 a8).2.1)), (Vb ((el a5 a8).2.2))] k5 (by kernel_rfl) (by kernel_rfl) (by kernel_rfl) (by kernel_rfl) (by decide)))) (by exact (d3.rdrw 0 rfl)) (acw (by kernel_rfl) (bi b6 fun t6 k6 b6 => wc ent130 d3 (aig k6 (hG.hp d3 hS)) fun t7 g6 => wp 1 ?_)))))))
  refine nq (cd b6 (fun k7 b6 => ?_) (fun k7 b6 => ?_))
  exact cr (wp 1 (gi b6 fun k8 b6 => aac (IntKind.wrap .i64 ((IntKind.wrap .u64 (b8 + b9)) / 2)) (1 : Int) (by kernel_rfl) (by kernel_rfl) k8 (wp 1 (wl (bn (ql (le' ((IntKind.wrap .i64 ((IntKind.wrap .u64 (b8 + b9)) / 2)) + (1 : Int), b9) g6.kp b6)))))))
  exact cr (wp 2 (wl (bn (ql (le' (b8, IntKind.wrap .i64 ((IntKind.wrap .u64 (b8 + b9)) / 2)) g6.kp b6)))))
  refine ach (acg (acq (aci (ql ?_))))
  obtain rfl := oi b6
  exact je g5.kp
  intro t8 G k9
  refine bi c3 fun g7 l0 c3 => cut (σ := (List (Str × Str × Bool))) [0, 1, 2, 3, 4] (fun d4 => [(0, (Vs a0 d4.length a6))]) (fun d4 w' => Hp w (aaj [rwt aaa 46 3 a7 a0 a6 a5]) [rwt aaa 46 3 a7 a0 a6 d4] w' ∧ d4.length = a5.length ∧ d4 = g7) ?_ ?_
  refine sr (wp 2 (nq (ce (lpG (σ := Nat × (List (Str × Str × Bool)) × Int) [0, 1, 2, 3, 4, 10, 13] (fun ⟨d0, a3, a1⟩ => [(0, (Vs a0 a3.length a6)), (13, (Vi .i64 a1))]) (fun ⟨d0, a3, a1⟩ w' => Hp w (aaj [rwt aaa 46 3 a7 a0 a6 a5]) [rwt aaa 46 3 a7 a0 a6 a3] w' ∧ a3.length = a5.length ∧ abu fu f1 d0 a3 a1 = some g7) (fun ⟨d0, a3, a1⟩ => d0) (fu, a5, a8) (by exact ⟨k9.kp, (by (try simp only [List.length_set]) <;> first | rfl | omega), l0⟩) ?_))))
  rintro ⟨_ | d0, a3, a1⟩ t9 G ⟨e1, u0, b0⟩
  · exact absurd (show none = some _ from b0) (by simp)
  rw [abu.eq_2] at b0
  refine cs (sr (wp 2 (gi b0 fun l1 b0 => adp f1 (1 : Int) (by kernel_rfl) (by kernel_rfl) l1 (wp 1 (nq (cd b0 (fun l2 b0 => ?_) (fun l2 b0 => ?_)))))))
  refine ck (qn (cs (ce (gi b0 fun l3 b0 => gi b0 fun l4 b0 => gi b0 fun g8 b0 => ?_))))
  have l5 := aet (e1.rdrw 0 rfl) aab (by decide) g8
  refine gi b0 fun g9 b0 => gi b0 fun h0 b0 => ?_
  have l6 := aet (e1.rdrw 0 rfl) aab (by decide) h0
  refine gi b0 fun h1 b0 => gi b0 fun f2 b0 => ?_
  have h2 := aet (e1.rdrw 0 rfl) aab (by decide) f2
  refine gi b0 fun h3 b0 => cdr 16 e1 (aah (adb (aal (aah (aal (aal acf)))))) fun u1 d5 => rp 12 [0, 1, 2, 3] (rt 4 (Vi .i64 (a1 + (1 : Int))) rfl rfl (aai rfl (by intro w hS_; exact (aiv a1 (1 : Int) (by kernel_rfl) (by kernel_rfl) l3))) (rp 9 [5, 6] (rt 7 (Vi .i64 (a1 + (1 : Int))) rfl rfl (aai rfl (by intro w hS_; exact (aiv a1 (1 : Int) (by kernel_rfl) (by kernel_rfl) l4))) (rt 8 (Vp (some (ea a0 ((a1 + (1 : Int)).toNat * 3)))) rfl rfl (aai rfl (by intro w hS_; exact (ajn a0 a3.length a6 46 3 .i64 (a1 + (1 : Int)) Tryz.underlying22 (by kernel_rfl) (by kernel_rfl) (by kernel_rfl) (ael (l := a3) rfl g8) l5))) (rp 5 [10, 11] (rt 12 (Vp (some (ea a0 (a1.toNat * 3)))) rfl rfl (aai rfl (by intro w hS_; exact (ajn a0 a3.length a6 46 3 .i64 a1 Tryz.underlying22 (by kernel_rfl) (by kernel_rfl) (by kernel_rfl) (ael (l := a3) rfl h0) l6))) (r_one2 [true, true, true, true, true, true, true, true, true, true, true, true, true, false, false, false, false, false] [true, true, true, true, true, true, true, true, true, false, true, true, true, true, false, false, false, false] 9 13 _ _ rfl rfl (by kernel_rfl) (by kernel_rfl) (by kernel_rfl) rfl rfl ?_ ?_)))))))
  refine ahm a0 aaa a3 3 (a1 + (1 : Int)) aab (d5.rdrw 0 rfl) [(str ((el a3 (a1 + (1 : Int))).1)), (str ((el a3 (a1 + (1 : Int))).2.1)), (Vb ((el a3 (a1 + (1 : Int))).2.2))] g9 (by kernel_rfl) (by kernel_rfl) (by kernel_rfl) (by kernel_rfl) (by decide) (wl (abk (by exact trivial) (ro 13 rfl (ahm a0 aaa a3 3 a1 aab (d5.rdrw 0 rfl) [(str ((el a3 a1).1)), (str ((el a3 a1).2.1)), (Vb ((el a3 a1).2.2))] h1 (by kernel_rfl) (by kernel_rfl) (by kernel_rfl) (by kernel_rfl) (by decide) (wl (abk (by exact trivial) (rt 14 (Vp (some (ea a0 (a1.toNat * 3)))) rfl rfl (aai rfl (by intro w hS_; exact (ajn a0 a3.length a6 46 3 .i64 a1 Tryz.underlying22 (by kernel_rfl) (by kernel_rfl) (by kernel_rfl) (ael (l := a3) rfl f2) h2))) (ro 15 rfl (ajr d5 0 a7 a0 a6 46 3 a1 a3 ((el a3 (a1 + (1 : Int))).1, (el a3 (a1 + (1 : Int))).2.1, ((el a3 (a1 + (1 : Int))).2.2)) rfl aab [(str ((el a3 (a1 + (1 : Int))).1)), (str ((el a3 (a1 + (1 : Int))).2.1)), (Vb ((el a3 (a1 + (1 : Int))).2.2))] h3 (by kernel_rfl) (by kernel_rfl) (by kernel_rfl) (by decide) (by kernel_rfl) fun f3 c5 => ?_)))))))))
  replace c5 : Hp w (aaj [rwt aaa 46 3 a7 a0 a6 a5]) [rwt aaa 46 3 a7 a0 a6 (List.set a3 (Int.toNat a1) ((el a3 (a1 + (1 : Int))).1, (el a3 (a1 + (1 : Int))).2.1, ((el a3 (a1 + (1 : Int))).2.2)))] f3 := c5
  refine wl (abk (by exact trivial) (acw (by kernel_rfl) (gi b0 fun l7 b0 => aht a0 a3.length a6 46 3 .i64 (a1 + (1 : Int)) Tryz.underlying22 (by kernel_rfl) (by kernel_rfl) (by kernel_rfl) (List.set a3 (Int.toNat a1) ((el a3 (a1 + (1 : Int))).1, (el a3 (a1 + (1 : Int))).2.1, ((el a3 (a1 + (1 : Int))).2.2))) (by first | rfl | (simp; done) | omega | (simp; omega) | (rw [List.length_take]; omega)) l7 (c5.rdrw 0 rfl) aab (by decide) (gi b0 fun l8 b0 => ajr c5 0 a7 a0 a6 46 3 (a1 + (1 : Int)) (List.set a3 (Int.toNat a1) ((el a3 (a1 + (1 : Int))).1, (el a3 (a1 + (1 : Int))).2.1, ((el a3 (a1 + (1 : Int))).2.2))) ((el a3 a1).1, (el a3 a1).2.1, ((el a3 a1).2.2)) rfl aab [(str ((el a3 a1).1)), (str ((el a3 a1).2.1)), (Vb ((el a3 a1).2.2))] l8 (by kernel_rfl) (by kernel_rfl) (by kernel_rfl) (by decide) (by kernel_rfl) fun l9 f4 => ?_))))
  replace f4 : Hp w (aaj [rwt aaa 46 3 a7 a0 a6 a5]) [rwt aaa 46 3 a7 a0 a6 (List.set (List.set a3 (Int.toNat a1) ((el a3 (a1 + (1 : Int))).1, (el a3 (a1 + (1 : Int))).2.1, ((el a3 (a1 + (1 : Int))).2.2))) (Int.toNat (a1 + (1 : Int))) ((el a3 a1).1, (el a3 a1).2.1, ((el a3 a1).2.2)))] l9 := f4
  refine wl (bn (qn (cr (wp 1 (gi b0 fun m0 b0 => aac a1 (1 : Int) (by kernel_rfl) (by kernel_rfl) m0 (wp 1 (wl (ql ?_))))))))
  exact ⟨(d0, List.set (List.set a3 (Int.toNat a1) ((el a3 (a1 + (1 : Int))).1, (el a3 (a1 + (1 : Int))).2.1, ((el a3 (a1 + (1 : Int))).2.2))) (Int.toNat (a1 + (1 : Int))) ((el a3 a1).1, (el a3 a1).2.1, ((el a3 a1).2.2)), a1 + (1 : Int)), _, rfl, (mc (Eq.trans (b := (Vs a0 a3.length a6)) (by kernel_rfl) (aae (by (try simp only [List.length_set]) <;> first | rfl | omega | simp))) (mc (by kernel_rfl) (mc (by kernel_rfl) (mc (by kernel_rfl) (mc (by kernel_rfl) (mc (by kernel_rfl) (mc (by kernel_rfl) rfl))))))), ⟨f4.kp, (by (try simp only [List.length_set]) <;> first | rfl | omega), b0⟩, Nat.lt_succ_self _⟩
  refine ahm a0 aaa a3 3 a1 aab (d5.rdrw 0 rfl) [(str ((el a3 a1).1)), (str ((el a3 a1).2.1)), (Vb ((el a3 a1).2.2))] h1 (by kernel_rfl) (by kernel_rfl) (by kernel_rfl) (by kernel_rfl) (by decide) (wl (abk (by exact trivial) (ro 9 rfl (ahm a0 aaa a3 3 (a1 + (1 : Int)) aab (d5.rdrw 0 rfl) [(str ((el a3 (a1 + (1 : Int))).1)), (str ((el a3 (a1 + (1 : Int))).2.1)), (Vb ((el a3 (a1 + (1 : Int))).2.2))] g9 (by kernel_rfl) (by kernel_rfl) (by kernel_rfl) (by kernel_rfl) (by decide) (wl (abk (by exact trivial) (rt 14 (Vp (some (ea a0 (a1.toNat * 3)))) rfl rfl (aai rfl (by intro w hS_; exact (ajn a0 a3.length a6 46 3 .i64 a1 Tryz.underlying22 (by kernel_rfl) (by kernel_rfl) (by kernel_rfl) (ael (l := a3) rfl f2) h2))) (ro 15 rfl (ajr d5 0 a7 a0 a6 46 3 a1 a3 ((el a3 (a1 + (1 : Int))).1, (el a3 (a1 + (1 : Int))).2.1, ((el a3 (a1 + (1 : Int))).2.2)) rfl aab [(str ((el a3 (a1 + (1 : Int))).1)), (str ((el a3 (a1 + (1 : Int))).2.1)), (Vb ((el a3 (a1 + (1 : Int))).2.2))] h3 (by kernel_rfl) (by kernel_rfl) (by kernel_rfl) (by decide) (by kernel_rfl) fun f3 c5 => ?_)))))))))
  replace c5 : Hp w (aaj [rwt aaa 46 3 a7 a0 a6 a5]) [rwt aaa 46 3 a7 a0 a6 (List.set a3 (Int.toNat a1) ((el a3 (a1 + (1 : Int))).1, (el a3 (a1 + (1 : Int))).2.1, ((el a3 (a1 + (1 : Int))).2.2)))] f3 := c5
  refine wl (abk (by exact trivial) (acw (by kernel_rfl) (gi b0 fun m1 b0 => aht a0 a3.length a6 46 3 .i64 (a1 + (1 : Int)) Tryz.underlying22 (by kernel_rfl) (by kernel_rfl) (by kernel_rfl) (List.set a3 (Int.toNat a1) ((el a3 (a1 + (1 : Int))).1, (el a3 (a1 + (1 : Int))).2.1, ((el a3 (a1 + (1 : Int))).2.2))) (by first | rfl | (simp; done) | omega | (simp; omega) | (rw [List.length_take]; omega)) m1 (c5.rdrw 0 rfl) aab (by decide) (gi b0 fun m2 b0 => ajr c5 0 a7 a0 a6 46 3 (a1 + (1 : Int)) (List.set a3 (Int.toNat a1) ((el a3 (a1 + (1 : Int))).1, (el a3 (a1 + (1 : Int))).2.1, ((el a3 (a1 + (1 : Int))).2.2))) ((el a3 a1).1, (el a3 a1).2.1, ((el a3 a1).2.2)) rfl aab [(str ((el a3 a1).1)), (str ((el a3 a1).2.1)), (Vb ((el a3 a1).2.2))] m2 (by kernel_rfl) (by kernel_rfl) (by kernel_rfl) (by decide) (by kernel_rfl) fun m3 f5 => ?_))))
  replace f5 : Hp w (aaj [rwt aaa 46 3 a7 a0 a6 a5]) [rwt aaa 46 3 a7 a0 a6 (List.set (List.set a3 (Int.toNat a1) ((el a3 (a1 + (1 : Int))).1, (el a3 (a1 + (1 : Int))).2.1, ((el a3 (a1 + (1 : Int))).2.2))) (Int.toNat (a1 + (1 : Int))) ((el a3 a1).1, (el a3 a1).2.1, ((el a3 a1).2.2)))] m3 := f5
  refine wl (bn (qn (cr (wp 1 (gi b0 fun m4 b0 => aac a1 (1 : Int) (by kernel_rfl) (by kernel_rfl) m4 (wp 1 (wl (ql ?_))))))))
  exact ⟨(d0, List.set (List.set a3 (Int.toNat a1) ((el a3 (a1 + (1 : Int))).1, (el a3 (a1 + (1 : Int))).2.1, ((el a3 (a1 + (1 : Int))).2.2))) (Int.toNat (a1 + (1 : Int))) ((el a3 a1).1, (el a3 a1).2.1, ((el a3 a1).2.2)), a1 + (1 : Int)), _, rfl, (mc (Eq.trans (b := (Vs a0 a3.length a6)) (by kernel_rfl) (aae (by (try simp only [List.length_set]) <;> first | rfl | omega | simp))) (mc (by kernel_rfl) (mc (by kernel_rfl) (mc (by kernel_rfl) (mc (by kernel_rfl) (mc (by kernel_rfl) (mc (by kernel_rfl) rfl))))))), ⟨f5.kp, (by (try simp only [List.length_set]) <;> first | rfl | omega), b0⟩, Nat.lt_succ_self _⟩
  refine ach (acg (acq (aci (ql ?_))))
  obtain rfl := oi b0
  exact ⟨a3, _, rfl, by kernel_rfl, e1.kp, (by (try simp only [List.length_set]) <;> first | rfl | omega), rfl⟩
  rintro d4 u2 G ⟨m5, u3, rfl⟩
  refine ct (acp ?_)
  obtain rfl := oi c3
  obtain rfl := oi hr
  refine r_none  rfl  ?_
  exact ⟨(by first | rfl | (simp; done) | (simp; omega)), (by (try simp only [List.length_set]) <;> first | rfl | omega), m5.kp⟩
  refine ck (ql ?_)
  obtain rfl := oi c3
  exact je1 rfl hH.kp
  rintro j6 u4 G e9 rfl
  refine bi hr fun m6 c4 hr => cut1 e9 m6 [0, 1, 2, 3, 4] (fun m7 => []) ?_ ?_
  refine sr (wp 2 (gi c4 fun m8 c4 => adp b2 a9 (by kernel_rfl) (by kernel_rfl) m8 (wp 1 (nq (cd c4 (fun m9 c4 => ?_) (fun m9 c4 => ?_))))))
  refine sr (wp 2 (nq (sr (wp 2 (nq ?_)))))
  refine bi c4 fun h4 n0 c4 => agq e9 [0, 1, 2, 3, 4, 14] [(14, (Vi .i64 h4))] ?_ ?_
  refine ce (lpS (fun h5 ⟨c0, c1⟩ => aax fu a5 a9 h5 c0 c1) (a8, a9) e9 n0 [0, 1, 2, 3, 4, 14, 15] (fun ⟨c0, c1⟩ => [(14, (Vi .i64 c0)), (15, (Vi .i64 c1))]) (fun _ => rfl) ?_)
  rintro h5 ⟨c0, c1⟩ u5 G h6 b7
  dsimp only at b7
  rw [aax.eq_2] at b7
  refine cs (sr (wp 3 (nq (cd b7 (fun n1 b7 => ?_) (fun n1 b7 => ?_)))))
  refine ck (qn (ce (sr (wp 2 (gi b7 fun n2 b7 => aac c0 c1 (by kernel_rfl) (by kernel_rfl) n2 (alj .u64 .i64 (c0 + c1) Tryz.underlying3 Tryz.underlying172 (by kernel_rfl) (w_shr .u64 .u64 (IntKind.wrap .u64 (c0 + c1)) (1 : Int) 2 (by kernel_rfl) (by kernel_rfl) (by decide) (by decide) (by decide) ?_)))))))
  refine alj .i64 .u64 ((IntKind.wrap .u64 (c0 + c1)) / 2) Tryz.underlying172 Tryz.underlying3 (by kernel_rfl) (wp 1 (nq (cs (gi b7 fun n3 b7 => gi b7 fun n4 b7 => gi b7 fun n5 b7 => gi b7 fun n6 b7 => adm 9 (fun j_ w_ w_' => abv [4, 9, 10, 11] (fun w' => Rd w' a0 (List.flatMap aaa a5)) j_ w_ w_' ∧ abv [9, 10, 11] (fun w' => Rd w' a0 (List.flatMap aaa a5)) j_ w_ w_' ∧ abv [8, 9, 10, 11] (fun w' => Rd w' a0 (List.flatMap aaa a5)) j_ w_ w_' ∧ True) [false, false, false, false, false, false, false, false, false, false, false, false] (fun _ _ => ⟨abv.same, abv.same, abv.same, trivial⟩) (by kernel_rfl) (by kernel_rfl) h6 rfl (adb (aah (aal (aah (aal (aal acf)))))) fun u6 d6 => ?_))))
  refine rp 6 [0, 1, 2] (aag [true, true, true, true, false, false, false, false, false, false, false, false] 3 95 (Vp (some (ea a0 (a9.toNat * 3)))) [4, 9, 10, 11] (fun _ _ _ h => h.1) _ rfl rfl (by kernel_rfl) (by kernel_rfl) (by kernel_rfl) (by kernel_rfl) (by kernel_rfl) rfl (aai rfl (by intro w hS_; exact (amu a0 a5.length a6 46 3 .i64 a9 Tryz.underlying22 (by kernel_rfl) (by kernel_rfl) (by kernel_rfl) a5 rfl n3 hS_ aab (by decide)))) (by exact (d6.rdrw 0 rfl)) (aag [true, true, true, true, true, false, false, false, false, false, false, false] 4 96 (Value.agg #[(str ((el a5 a9).1)), (str ((el a5 a9).2.1)), (Vb ((el a5 a9).2.2))]) [9, 10, 11] (fun _ _ _ h => h.2.1) _ rfl rfl (by kernel_rfl) (by kernel_rfl) (by kernel_rfl) (by kernel_rfl) (by kernel_rfl) rfl (aai rfl (by intro w hS_; exact (x_ldE a0 aaa a5 3 a9 aab hS_ [(str ((el a5 a9).1)), (str ((el a5 a9).2.1)), (Vb ((el a5 a9).2.2))] n4 (by kernel_rfl) (by kernel_rfl) (by kernel_rfl) (by kernel_rfl) (by decide)))) (by exact (d6.rdrw 0 rfl)) (rp 2 [5, 6] (aag [true, true, true, true, true, true, true, true, false, false, false, false] 7 99 (Vp (some (ea a0 ((IntKind.wrap .i64 ((IntKind.wrap .u64 (c0 + c1)) / 2)).toNat * 3)))) [8, 9, 10, 11] (fun _ _ _ h => h.2.2.1) _ rfl rfl (by kernel_rfl) (by kernel_rfl) (by kernel_rfl) (by kernel_rfl) (by kernel_rfl) rfl (aai rfl (by intro w hS_; exact (amu a0 a5.length a6 46 3 .i64 (IntKind.wrap .i64 ((IntKind.wrap .u64 (c0 + c1)) / 2)) Tryz.underlying22 (by kernel_rfl) (by kernel_rfl) (by kernel_rfl) a5 rfl n5 hS_ aab (by decide)))) (by exact (d6.rdrw 0 rfl)) (aag [true, true, true, true, true, true, true, true, true, false, false, false] 8 100 (Value.agg #[(str ((el a5 (IntKind.wrap .i64 ((IntKind.wrap .u64 (c0 + c1)) / 2))).1)), (str ((el a5 (IntKind.wrap .i64 ((IntKind.wrap .u64 (c0 + c1)) / 2))).2.1)), (Vb ((el a5 (IntKind.wrap .i64 ((IntKind.wrap .u64 (c0 + c1)) / 2))).2.2))]) [9, 10, 11] (fun _ _ _ h => h.2.1) _ rfl rfl (by kernel_rfl) (by kernel_rfl) (by kernel_rfl) (by kernel_rfl) (by kernel_rfl) rfl (aai rfl (by intro w hS_; exact (x_ldE a0 aaa a5 3 (IntKind.wrap .i64 ((IntKind.wrap .u64 (c0 + c1)) / 2)) aab hS_ [(str ((el a5 (IntKind.wrap .i64 ((IntKind.wrap .u64 (c0 + c1)) / 2))).1)), (str ((el a5 (IntKind.wrap .i64 ((IntKind.wrap .u64 (c0 + c1)) / 2))).2.1)), (Vb ((el a5 (IntKind.wrap .i64 ((IntKind.wrap .u64 (c0 + c1)) / 2))).2.2))] n6 (by kernel_rfl) (by kernel_rfl) (by kernel_rfl) (by kernel_rfl) (by decide)))) (by exact (d6.rdrw 0 rfl)) (acw (by kernel_rfl) (bi b7 fun u7 n7 b7 => wc ent130 d6 (aig n7 (hG.hp d6 hS)) fun u9 h7 => wp 2 ?_)))))))
  refine nq (cn b7 (fun n8 b7 => ?_) (fun n8 b7 => ?_))
  exact cr (wp 1 (gi b7 fun n9 b7 => aac (IntKind.wrap .i64 ((IntKind.wrap .u64 (c0 + c1)) / 2)) (1 : Int) (by kernel_rfl) (by kernel_rfl) n9 (wp 1 (wl (bn (ql (le' ((IntKind.wrap .i64 ((IntKind.wrap .u64 (c0 + c1)) / 2)) + (1 : Int), c1) h7.kp b7)))))))
  exact cr (wp 2 (wl (bn (ql (le' (c0, IntKind.wrap .i64 ((IntKind.wrap .u64 (c0 + c1)) / 2)) h7.kp b7)))))
  refine ach (acg (acq (aci (ql ?_))))
  obtain rfl := oi b7
  exact je h6.kp
  intro v0 G o0
  refine bi c4 fun h8 o1 c4 => cut (σ := (List (Str × Str × Bool))) [0, 1, 2, 3, 4] (fun d7 => [(0, (Vs a0 d7.length a6))]) (fun d7 w' => Hp w (aaj [rwt aaa 46 3 a7 a0 a6 a5]) [rwt aaa 46 3 a7 a0 a6 d7] w' ∧ d7.length = a5.length ∧ d7 = h8) ?_ ?_
  refine sr (wp 2 (nq (ce (lpG (σ := Nat × (List (Str × Str × Bool)) × Int) [0, 1, 2, 3, 4, 14, 17] (fun ⟨d1, a4, a2⟩ => [(0, (Vs a0 a4.length a6)), (17, (Vi .i64 a2))]) (fun ⟨d1, a4, a2⟩ w' => Hp w (aaj [rwt aaa 46 3 a7 a0 a6 a5]) [rwt aaa 46 3 a7 a0 a6 a4] w' ∧ a4.length = a5.length ∧ abt fu h4 d1 a4 a2 = some h8) (fun ⟨d1, a4, a2⟩ => d1) (fu, a5, a9) (by exact ⟨o0.kp, (by (try simp only [List.length_set]) <;> first | rfl | omega), o1⟩) ?_))))
  rintro ⟨_ | d1, a4, a2⟩ v1 G ⟨e2, v2, b1⟩
  · exact absurd (show none = some _ from b1) (by simp)
  rw [abt.eq_2] at b1
  refine cs (sr (wp 3 (nq (cd b1 (fun o2 b1 => ?_) (fun o2 b1 => ?_)))))
  refine ck (qn (cs (ce (gi b1 fun o3 b1 => gi b1 fun o4 b1 => gi b1 fun h9 b1 => ?_))))
  have o5 := aet (e2.rdrw 0 rfl) aab (by decide) h9
  refine gi b1 fun i0 b1 => gi b1 fun i1 b1 => ?_
  have o6 := aet (e2.rdrw 0 rfl) aab (by decide) i1
  refine gi b1 fun i2 b1 => gi b1 fun f6 b1 => ?_
  have i3 := aet (e2.rdrw 0 rfl) aab (by decide) f6
  refine gi b1 fun i4 b1 => cdr 16 e2 (aah (adb (aal (aah (aal (aal acf)))))) fun v3 d8 => rp 12 [0, 1, 2, 3] (rt 4 (Vi .i64 (a2 - (1 : Int))) rfl rfl (aai rfl (by intro w hS_; exact (akf a2 (1 : Int) (by kernel_rfl) (by kernel_rfl) o3))) (rp 9 [5, 6] (rt 7 (Vi .i64 (a2 - (1 : Int))) rfl rfl (aai rfl (by intro w hS_; exact (akf a2 (1 : Int) (by kernel_rfl) (by kernel_rfl) o4))) (rt 8 (Vp (some (ea a0 ((a2 - (1 : Int)).toNat * 3)))) rfl rfl (aai rfl (by intro w hS_; exact (ajn a0 a4.length a6 46 3 .i64 (a2 - (1 : Int)) Tryz.underlying22 (by kernel_rfl) (by kernel_rfl) (by kernel_rfl) (ael (l := a4) rfl h9) o5))) (rp 5 [10, 11] (rt 12 (Vp (some (ea a0 (a2.toNat * 3)))) rfl rfl (aai rfl (by intro w hS_; exact (ajn a0 a4.length a6 46 3 .i64 a2 Tryz.underlying22 (by kernel_rfl) (by kernel_rfl) (by kernel_rfl) (ael (l := a4) rfl i1) o6))) (r_one2 [true, true, true, true, true, true, true, true, true, true, true, true, true, false, false, false, false, false] [true, true, true, true, true, true, true, true, true, false, true, true, true, true, false, false, false, false] 9 13 _ _ rfl rfl (by kernel_rfl) (by kernel_rfl) (by kernel_rfl) rfl rfl ?_ ?_)))))))
  refine ahm a0 aaa a4 3 (a2 - (1 : Int)) aab (d8.rdrw 0 rfl) [(str ((el a4 (a2 - (1 : Int))).1)), (str ((el a4 (a2 - (1 : Int))).2.1)), (Vb ((el a4 (a2 - (1 : Int))).2.2))] i0 (by kernel_rfl) (by kernel_rfl) (by kernel_rfl) (by kernel_rfl) (by decide) (wl (abk (by exact trivial) (ro 13 rfl (ahm a0 aaa a4 3 a2 aab (d8.rdrw 0 rfl) [(str ((el a4 a2).1)), (str ((el a4 a2).2.1)), (Vb ((el a4 a2).2.2))] i2 (by kernel_rfl) (by kernel_rfl) (by kernel_rfl) (by kernel_rfl) (by decide) (wl (abk (by exact trivial) (rt 14 (Vp (some (ea a0 (a2.toNat * 3)))) rfl rfl (aai rfl (by intro w hS_; exact (ajn a0 a4.length a6 46 3 .i64 a2 Tryz.underlying22 (by kernel_rfl) (by kernel_rfl) (by kernel_rfl) (ael (l := a4) rfl f6) i3))) (ro 15 rfl (ajr d8 0 a7 a0 a6 46 3 a2 a4 ((el a4 (a2 - (1 : Int))).1, (el a4 (a2 - (1 : Int))).2.1, ((el a4 (a2 - (1 : Int))).2.2)) rfl aab [(str ((el a4 (a2 - (1 : Int))).1)), (str ((el a4 (a2 - (1 : Int))).2.1)), (Vb ((el a4 (a2 - (1 : Int))).2.2))] i4 (by kernel_rfl) (by kernel_rfl) (by kernel_rfl) (by decide) (by kernel_rfl) fun f7 c6 => ?_)))))))))
  replace c6 : Hp w (aaj [rwt aaa 46 3 a7 a0 a6 a5]) [rwt aaa 46 3 a7 a0 a6 (List.set a4 (Int.toNat a2) ((el a4 (a2 - (1 : Int))).1, (el a4 (a2 - (1 : Int))).2.1, ((el a4 (a2 - (1 : Int))).2.2)))] f7 := c6
  refine wl (abk (by exact trivial) (acw (by kernel_rfl) (gi b1 fun o7 b1 => aht a0 a4.length a6 46 3 .i64 (a2 - (1 : Int)) Tryz.underlying22 (by kernel_rfl) (by kernel_rfl) (by kernel_rfl) (List.set a4 (Int.toNat a2) ((el a4 (a2 - (1 : Int))).1, (el a4 (a2 - (1 : Int))).2.1, ((el a4 (a2 - (1 : Int))).2.2))) (by first | rfl | (simp; done) | omega | (simp; omega) | (rw [List.length_take]; omega)) o7 (c6.rdrw 0 rfl) aab (by decide) (gi b1 fun o8 b1 => ajr c6 0 a7 a0 a6 46 3 (a2 - (1 : Int)) (List.set a4 (Int.toNat a2) ((el a4 (a2 - (1 : Int))).1, (el a4 (a2 - (1 : Int))).2.1, ((el a4 (a2 - (1 : Int))).2.2))) ((el a4 a2).1, (el a4 a2).2.1, ((el a4 a2).2.2)) rfl aab [(str ((el a4 a2).1)), (str ((el a4 a2).2.1)), (Vb ((el a4 a2).2.2))] o8 (by kernel_rfl) (by kernel_rfl) (by kernel_rfl) (by decide) (by kernel_rfl) fun o9 f8 => ?_))))
  replace f8 : Hp w (aaj [rwt aaa 46 3 a7 a0 a6 a5]) [rwt aaa 46 3 a7 a0 a6 (List.set (List.set a4 (Int.toNat a2) ((el a4 (a2 - (1 : Int))).1, (el a4 (a2 - (1 : Int))).2.1, ((el a4 (a2 - (1 : Int))).2.2))) (Int.toNat (a2 - (1 : Int))) ((el a4 a2).1, (el a4 a2).2.1, ((el a4 a2).2.2)))] o9 := f8
  refine wl (bn (qn (cr (wp 1 (gi b1 fun p0 b1 => adp a2 (1 : Int) (by kernel_rfl) (by kernel_rfl) p0 (wp 1 (wl (ql ?_))))))))
  exact ⟨(d1, List.set (List.set a4 (Int.toNat a2) ((el a4 (a2 - (1 : Int))).1, (el a4 (a2 - (1 : Int))).2.1, ((el a4 (a2 - (1 : Int))).2.2))) (Int.toNat (a2 - (1 : Int))) ((el a4 a2).1, (el a4 a2).2.1, ((el a4 a2).2.2)), a2 - (1 : Int)), _, rfl, (mc (Eq.trans (b := (Vs a0 a4.length a6)) (by kernel_rfl) (aae (by (try simp only [List.length_set]) <;> first | rfl | omega | simp))) (mc (by kernel_rfl) (mc (by kernel_rfl) (mc (by kernel_rfl) (mc (by kernel_rfl) (mc (by kernel_rfl) (mc (by kernel_rfl) rfl))))))), ⟨f8.kp, (by (try simp only [List.length_set]) <;> first | rfl | omega), b1⟩, Nat.lt_succ_self _⟩
  refine ahm a0 aaa a4 3 a2 aab (d8.rdrw 0 rfl) [(str ((el a4 a2).1)), (str ((el a4 a2).2.1)), (Vb ((el a4 a2).2.2))] i2 (by kernel_rfl) (by kernel_rfl) (by kernel_rfl) (by kernel_rfl) (by decide) (wl (abk (by exact trivial) (ro 9 rfl (ahm a0 aaa a4 3 (a2 - (1 : Int)) aab (d8.rdrw 0 rfl) [(str ((el a4 (a2 - (1 : Int))).1)), (str ((el a4 (a2 - (1 : Int))).2.1)), (Vb ((el a4 (a2 - (1 : Int))).2.2))] i0 (by kernel_rfl) (by kernel_rfl) (by kernel_rfl) (by kernel_rfl) (by decide) (wl (abk (by exact trivial) (rt 14 (Vp (some (ea a0 (a2.toNat * 3)))) rfl rfl (aai rfl (by intro w hS_; exact (ajn a0 a4.length a6 46 3 .i64 a2 Tryz.underlying22 (by kernel_rfl) (by kernel_rfl) (by kernel_rfl) (ael (l := a4) rfl f6) i3))) (ro 15 rfl (ajr d8 0 a7 a0 a6 46 3 a2 a4 ((el a4 (a2 - (1 : Int))).1, (el a4 (a2 - (1 : Int))).2.1, ((el a4 (a2 - (1 : Int))).2.2)) rfl aab [(str ((el a4 (a2 - (1 : Int))).1)), (str ((el a4 (a2 - (1 : Int))).2.1)), (Vb ((el a4 (a2 - (1 : Int))).2.2))] i4 (by kernel_rfl) (by kernel_rfl) (by kernel_rfl) (by decide) (by kernel_rfl) fun f7 c6 => ?_)))))))))
  replace c6 : Hp w (aaj [rwt aaa 46 3 a7 a0 a6 a5]) [rwt aaa 46 3 a7 a0 a6 (List.set a4 (Int.toNat a2) ((el a4 (a2 - (1 : Int))).1, (el a4 (a2 - (1 : Int))).2.1, ((el a4 (a2 - (1 : Int))).2.2)))] f7 := c6
  refine wl (abk (by exact trivial) (acw (by kernel_rfl) (gi b1 fun p1 b1 => aht a0 a4.length a6 46 3 .i64 (a2 - (1 : Int)) Tryz.underlying22 (by kernel_rfl) (by kernel_rfl) (by kernel_rfl) (List.set a4 (Int.toNat a2) ((el a4 (a2 - (1 : Int))).1, (el a4 (a2 - (1 : Int))).2.1, ((el a4 (a2 - (1 : Int))).2.2))) (by first | rfl | (simp; done) | omega | (simp; omega) | (rw [List.length_take]; omega)) p1 (c6.rdrw 0 rfl) aab (by decide) (gi b1 fun p2 b1 => ajr c6 0 a7 a0 a6 46 3 (a2 - (1 : Int)) (List.set a4 (Int.toNat a2) ((el a4 (a2 - (1 : Int))).1, (el a4 (a2 - (1 : Int))).2.1, ((el a4 (a2 - (1 : Int))).2.2))) ((el a4 a2).1, (el a4 a2).2.1, ((el a4 a2).2.2)) rfl aab [(str ((el a4 a2).1)), (str ((el a4 a2).2.1)), (Vb ((el a4 a2).2.2))] p2 (by kernel_rfl) (by kernel_rfl) (by kernel_rfl) (by decide) (by kernel_rfl) fun p3 f9 => ?_))))
  replace f9 : Hp w (aaj [rwt aaa 46 3 a7 a0 a6 a5]) [rwt aaa 46 3 a7 a0 a6 (List.set (List.set a4 (Int.toNat a2) ((el a4 (a2 - (1 : Int))).1, (el a4 (a2 - (1 : Int))).2.1, ((el a4 (a2 - (1 : Int))).2.2))) (Int.toNat (a2 - (1 : Int))) ((el a4 a2).1, (el a4 a2).2.1, ((el a4 a2).2.2)))] p3 := f9
  refine wl (bn (qn (cr (wp 1 (gi b1 fun p4 b1 => adp a2 (1 : Int) (by kernel_rfl) (by kernel_rfl) p4 (wp 1 (wl (ql ?_))))))))
  exact ⟨(d1, List.set (List.set a4 (Int.toNat a2) ((el a4 (a2 - (1 : Int))).1, (el a4 (a2 - (1 : Int))).2.1, ((el a4 (a2 - (1 : Int))).2.2))) (Int.toNat (a2 - (1 : Int))) ((el a4 a2).1, (el a4 a2).2.1, ((el a4 a2).2.2)), a2 - (1 : Int)), _, rfl, (mc (Eq.trans (b := (Vs a0 a4.length a6)) (by kernel_rfl) (aae (by (try simp only [List.length_set]) <;> first | rfl | omega | simp))) (mc (by kernel_rfl) (mc (by kernel_rfl) (mc (by kernel_rfl) (mc (by kernel_rfl) (mc (by kernel_rfl) (mc (by kernel_rfl) rfl))))))), ⟨f9.kp, (by (try simp only [List.length_set]) <;> first | rfl | omega), b1⟩, Nat.lt_succ_self _⟩
  refine ach (acg (acq (aci (ql ?_))))
  obtain rfl := oi b1
  exact ⟨a4, _, rfl, by kernel_rfl, e2.kp, (by (try simp only [List.length_set]) <;> first | rfl | omega), rfl⟩
  rintro d7 v4 G ⟨p5, v5, rfl⟩
  refine ct (acp ?_)
  obtain rfl := oi c4
  obtain rfl := oi hr
  refine r_none  rfl  ?_
  exact ⟨(by first | rfl | (simp; done) | (simp; omega)), (by (try simp only [List.length_set]) <;> first | rfl | omega), p5.kp⟩
  refine ck (ql ?_)
  obtain rfl := oi c4
  exact je1 rfl e9.kp
  rintro m7 v6 G g0 rfl
  refine sr (wp 2 (gi hr fun p6 hr => aac a8 b2 (by kernel_rfl) (by kernel_rfl) p6 (alj .u64 .i64 (a8 + b2) Tryz.underlying3 Tryz.underlying172 (by kernel_rfl) (w_shr .u64 .u64 (IntKind.wrap .u64 (a8 + b2)) (1 : Int) 2 (by kernel_rfl) (by kernel_rfl) (by decide) (by decide) (by decide) (alj .i64 .u64 ((IntKind.wrap .u64 (a8 + b2)) / 2) Tryz.underlying172 Tryz.underlying3 (by kernel_rfl) (wp 1 (wl ?_)))))))
  refine qn (sr (wp 2 (gi hr fun p7 hr => aac (IntKind.wrap .i64 ((IntKind.wrap .u64 (a8 + b2)) / 2)) a9 (by kernel_rfl) (by kernel_rfl) p7 (wp 1 (nq (cs ?_))))))
  refine cr (wp 2 (nq (bi hr fun f0 d2 hr => agq g0 [0, 1, 2, 3, 4, 18, 19, 20, 21] [(20, (Vi .i64 f0.1)), (21, (Vi .i64 f0.2))] ?_ ?_)))
  refine sr (wp 3 (nq (cd d2 (fun p8 d2 => ?_) (fun p8 d2 => ?_))))
  refine sr (wp 2 (gi d2 fun p9 d2 => adp ((IntKind.wrap .i64 ((IntKind.wrap .u64 (a8 + b2)) / 2)) + a9) b2 (by kernel_rfl) (by kernel_rfl) p9 (wp 1 (nq (cr (wp 2 ?_))))))
  refine wl (ql ?_)
  obtain rfl := oi d2
  exact je g0.kp
  refine sr (wp 2 (nq (cr (wp 2 (wl (ql ?_))))))
  obtain rfl := oi d2
  exact je g0.kp
  intro v7 G i5
  refine sr (wp 1 (gi hr fun q0 hr => adp ((IntKind.wrap .i64 ((IntKind.wrap .u64 (a8 + b2)) / 2)) + a9) (1 : Int) (by kernel_rfl) (by kernel_rfl) q0 (wp 1 (nq (bi hr fun d9 q1 hr => agq i5 [0, 1, 2, 3, 4, 18, 19, 20] [(20, (Vi .i64 d9))] ?_ ?_)))))
  refine ce (lpS (fun i6 ⟨b3, b4⟩ => aaw fu a5 a8 a9 b2 i6 b3 b4) (f0.1, f0.2) i5 q1 [0, 1, 2, 3, 4, 18, 19, 20, 21, 22] (fun ⟨b3, b4⟩ => [(20, (Vi .i64 b3)), (21, (Vi .i64 b4))]) (fun _ => rfl) ?_)
  rintro i6 ⟨b3, b4⟩ v8 G i7 b5
  dsimp only at b5
  rw [aaw.eq_2] at b5
  refine cs (sr (wp 3 (nq (cd b5 (fun q2 b5 => ?_) (fun q2 b5 => ?_)))))
  refine ck (qn (ce (sr (wp 2 (gi b5 fun q3 b5 => aac b3 b4 (by kernel_rfl) (by kernel_rfl) q3 (alj .u64 .i64 (b3 + b4) Tryz.underlying3 Tryz.underlying172 (by kernel_rfl) (w_shr .u64 .u64 (IntKind.wrap .u64 (b3 + b4)) (1 : Int) 2 (by kernel_rfl) (by kernel_rfl) (by decide) (by decide) (by decide) ?_)))))))
  refine alj .i64 .u64 ((IntKind.wrap .u64 (b3 + b4)) / 2) Tryz.underlying172 Tryz.underlying3 (by kernel_rfl) (wp 1 (nq (cs (gi b5 fun q4 b5 => gi b5 fun q5 b5 => gi b5 fun q6 b5 => gi b5 fun q7 b5 => gi b5 fun q8 b5 => ?_))))
  refine adm 11 (fun j_ w_ w_' => abv [6, 11, 12, 13] (fun w' => Rd w' a0 (List.flatMap aaa a5)) j_ w_ w_' ∧ abv [11, 12, 13] (fun w' => Rd w' a0 (List.flatMap aaa a5)) j_ w_ w_' ∧ abv [10, 11, 12, 13] (fun w' => Rd w' a0 (List.flatMap aaa a5)) j_ w_ w_' ∧ True) [false, false, false, false, false, false, false, false, false, false, false, false, false, false] (fun _ _ => ⟨abv.same, abv.same, abv.same, trivial⟩) (by kernel_rfl) (by kernel_rfl) i7 rfl (adb (aah (aal (aah (aal acf))))) fun v9 e0 => rp 7 [0, 1, 2, 3] (rt 4 (Vi .i64 ((((IntKind.wrap .i64 ((IntKind.wrap .u64 (a8 + b2)) / 2)) + a9) - (1 : Int)) - (IntKind.wrap .i64 ((IntKind.wrap .u64 (b3 + b4)) / 2)))) rfl rfl (aai rfl (by intro w hS_; exact (akf (((IntKind.wrap .i64 ((IntKind.wrap .u64 (a8 + b2)) / 2)) + a9) - (1 : Int)) (IntKind.wrap .i64 ((IntKind.wrap .u64 (b3 + b4)) / 2)) (by kernel_rfl) (by kernel_rfl) q4))) (aag [true, true, true, true, true, true, false, false, false, false, false, false, false, false] 5 163 (Vp (some (ea a0 (((((IntKind.wrap .i64 ((IntKind.wrap .u64 (a8 + b2)) / 2)) + a9) - (1 : Int)) - (IntKind.wrap .i64 ((IntKind.wrap .u64 (b3 + b4)) / 2))).toNat * 3)))) [6, 11, 12, 13] (fun _ _ _ h => h.1) _ rfl rfl (by kernel_rfl) (by kernel_rfl) (by kernel_rfl) (by kernel_rfl) (by kernel_rfl) rfl (aai rfl (by intro w hS_; exact (amu a0 a5.length a6 46 3 .i64 ((((IntKind.wrap .i64 ((IntKind.wrap .u64 (a8 + b2)) / 2)) + a9) - (1 : Int)) - (IntKind.wrap .i64 ((IntKind.wrap .u64 (b3 + b4)) / 2))) Tryz.underlying22 (by kernel_rfl) (by kernel_rfl) (by kernel_rfl) a5 rfl q5 hS_ aab (by decide)))) (by exact (e0.rdrw 0 rfl)) (aag [true, true, true, true, true, true, true, false, false, false, false, false, false, false] 6 164 (Value.agg #[(str ((el a5 ((((IntKind.wrap .i64 ((IntKind.wrap .u64 (a8 + b2)) / 2)) + a9) - (1 : Int)) - (IntKind.wrap .i64 ((IntKind.wrap .u64 (b3 + b4)) / 2)))).1)), (str ((el a5 ((((IntKind.wrap .i64 ((IntKind.wrap .u64 (a8 + b2)) / 2)) + a9) - (1 : Int)) - (IntKind.wrap .i64 ((IntKind.wrap .u64 (b3 + b4)) / 2)))).2.1)), (Vb ((el a5 ((((IntKind.wrap .i64 ((IntKind.wrap .u64 (a8 + b2)) / 2)) + a9) - (1 : Int)) - (IntKind.wrap .i64 ((IntKind.wrap .u64 (b3 + b4)) / 2)))).2.2))]) [11, 12, 13] (fun _ _ _ h => h.2.1) _ rfl rfl (by kernel_rfl) (by kernel_rfl) (by kernel_rfl) (by kernel_rfl) (by kernel_rfl) rfl (aai rfl (by intro w hS_; exact (x_ldE a0 aaa a5 3 ((((IntKind.wrap .i64 ((IntKind.wrap .u64 (a8 + b2)) / 2)) + a9) - (1 : Int)) - (IntKind.wrap .i64 ((IntKind.wrap .u64 (b3 + b4)) / 2))) aab hS_ [(str ((el a5 ((((IntKind.wrap .i64 ((IntKind.wrap .u64 (a8 + b2)) / 2)) + a9) - (1 : Int)) - (IntKind.wrap .i64 ((IntKind.wrap .u64 (b3 + b4)) / 2)))).1)), (str ((el a5 ((((IntKind.wrap .i64 ((IntKind.wrap .u64 (a8 + b2)) / 2)) + a9) - (1 : Int)) - (IntKind.wrap .i64 ((IntKind.wrap .u64 (b3 + b4)) / 2)))).2.1)), (Vb ((el a5 ((((IntKind.wrap .i64 ((IntKind.wrap .u64 (a8 + b2)) / 2)) + a9) - (1 : Int)) - (IntKind.wrap .i64 ((IntKind.wrap .u64 (b3 + b4)) / 2)))).2.2))] q6 (by kernel_rfl) (by kernel_rfl) (by kernel_rfl) (by kernel_rfl) (by decide)))) (by exact (e0.rdrw 0 rfl)) (rp 2 [7, 8] (aag [true, true, true, true, true, true, true, true, true, true, false, false, false, false] 9 167 (Vp (some (ea a0 ((IntKind.wrap .i64 ((IntKind.wrap .u64 (b3 + b4)) / 2)).toNat * 3)))) [10, 11, 12, 13] (fun _ _ _ h => h.2.2.1) _ rfl rfl (by kernel_rfl) (by kernel_rfl) (by kernel_rfl) (by kernel_rfl) (by kernel_rfl) rfl (aai rfl (by intro w hS_; exact (amu a0 a5.length a6 46 3 .i64 (IntKind.wrap .i64 ((IntKind.wrap .u64 (b3 + b4)) / 2)) Tryz.underlying22 (by kernel_rfl) (by kernel_rfl) (by kernel_rfl) a5 rfl q7 hS_ aab (by decide)))) (by exact (e0.rdrw 0 rfl)) (aag [true, true, true, true, true, true, true, true, true, true, true, false, false, false] 10 168 (Value.agg #[(str ((el a5 (IntKind.wrap .i64 ((IntKind.wrap .u64 (b3 + b4)) / 2))).1)), (str ((el a5 (IntKind.wrap .i64 ((IntKind.wrap .u64 (b3 + b4)) / 2))).2.1)), (Vb ((el a5 (IntKind.wrap .i64 ((IntKind.wrap .u64 (b3 + b4)) / 2))).2.2))]) [11, 12, 13] (fun _ _ _ h => h.2.1) _ rfl rfl (by kernel_rfl) (by kernel_rfl) (by kernel_rfl) (by kernel_rfl) (by kernel_rfl) rfl (aai rfl (by intro w hS_; exact (x_ldE a0 aaa a5 3 (IntKind.wrap .i64 ((IntKind.wrap .u64 (b3 + b4)) / 2)) aab hS_ [(str ((el a5 (IntKind.wrap .i64 ((IntKind.wrap .u64 (b3 + b4)) / 2))).1)), (str ((el a5 (IntKind.wrap .i64 ((IntKind.wrap .u64 (b3 + b4)) / 2))).2.1)), (Vb ((el a5 (IntKind.wrap .i64 ((IntKind.wrap .u64 (b3 + b4)) / 2))).2.2))] q8 (by kernel_rfl) (by kernel_rfl) (by kernel_rfl) (by kernel_rfl) (by decide)))) (by exact (e0.rdrw 0 rfl)) (acw (by kernel_rfl) (bi b5 fun w0 q9 b5 => ?_))))))))
  refine wc ent130 e0 (aig q9 (hG.hp e0 hS)) fun w1 i9 => wp 2 (nq (cn b5 (fun r0 b5 => ?_) (fun r0 b5 => ?_)))
  exact cr (wp 1 (gi b5 fun r1 b5 => aac (IntKind.wrap .i64 ((IntKind.wrap .u64 (b3 + b4)) / 2)) (1 : Int) (by kernel_rfl) (by kernel_rfl) r1 (wp 1 (wl (bn (ql (le' ((IntKind.wrap .i64 ((IntKind.wrap .u64 (b3 + b4)) / 2)) + (1 : Int), b4) i9.kp b5)))))))
  exact cr (wp 2 (wl (bn (ql (le' (b3, IntKind.wrap .i64 ((IntKind.wrap .u64 (b3 + b4)) / 2)) i9.kp b5)))))
  refine ach (acg (acq (aci (ql ?_))))
  obtain rfl := oi b5
  exact je i7.kp
  intro w2 G g1
  refine sr (wp 2 (gi hr fun r2 hr => adp ((IntKind.wrap .i64 ((IntKind.wrap .u64 (a8 + b2)) / 2)) + a9) d9 (by kernel_rfl) (by kernel_rfl) r2 (wp 1 (nq (bi hr fun r3 c7 hr => cut (σ := (List (Str × Str × Bool))) [0, 1, 3, 4, 18, 20, 24] (fun c2 => [(0, (Vs a0 c2.length a6))]) (fun c2 w' => Hp w (aaj [rwt aaa 46 3 a7 a0 a6 a5]) [rwt aaa 46 3 a7 a0 a6 c2] w' ∧ c2.length = a5.length ∧ c2 = r3) ?_ ?_)))))
  refine bi c7 fun r4 e3 c7 => agq g1 [0, 1, 2, 3, 4, 18, 20, 24, 185] [(185, (Vb r4))] ?_ ?_
  refine cr (wp 3 (wd e3 (fun r5 e3 => ?_) (fun r5 e3 => ?_)))
  refine wp 4 (wl (ql ?_))
  obtain rfl := oi e3
  exact je g1.kp
  refine wp 4 (wl (ql ?_))
  obtain rfl := oi e3
  exact je g1.kp
  intro w3 G e4
  refine cb c7 (fun r6 c7 => ?_) (fun r6 c7 => ?_)
  refine cr (wp 5 (bi c7 fun j0 r7 c7 => aad 262 #[] [(Vs a0 a5.length a6), (Vi .i64 d9), (Vi .i64 a9), (Vi .i64 (((IntKind.wrap .i64 ((IntKind.wrap .u64 (a8 + b2)) / 2)) + a9) - d9)), (Value.func (.func 130) #[] #[])] _ ent262 (by kernel_rfl) (by kernel_rfl) (ahf a7 a0 a6 r7 (hG.hp e4 hS) (e4.hand (L1 := [rwt aaa 46 3 a7 a0 a6 a5]) (L2 := [])) (e4.highs hG hS 1 rfl)) ?_))
  rintro _ r8 ⟨rfl, w4, j1⟩
  have r9 : Hp w (aaj [rwt aaa 46 3 a7 a0 a6 a5]) [rwt aaa 46 3 a7 a0 a6 j0] r8 := Hp.callK (L1 := [rwt aaa 46 3 a7 a0 a6 a5]) (L2 := []) e4 j1; clear j1
  refine wl (ql ?_)
  obtain rfl := oi c7
  exact ⟨j0, _, rfl, (mc (Eq.trans (b := (Vs a0 a5.length a6)) (by kernel_rfl) (aae (by (try simp only [List.length_set]) <;> first | rfl | omega | simp))) (mc (by kernel_rfl) (mc (by kernel_rfl) (mc (by kernel_rfl) (mc (by kernel_rfl) (mc (by kernel_rfl) (mc (by kernel_rfl) rfl))))))), r9.kp, (by (try simp only [List.length_set]) <;> first | rfl | omega), rfl⟩
  refine ck (ql ?_)
  obtain rfl := oi c7
  exact ⟨a5, _, rfl, by kernel_rfl, e4.kp, (by (try simp only [List.length_set]) <;> first | rfl | omega), rfl⟩
  rintro c2 w5 G ⟨g2, w6, rfl⟩
  refine bi hr fun s0 c8 hr => cut (σ := (List (Str × Str × Bool))) [0, 3, 4, 18, 24] (fun c9 => [(0, (Vs a0 c9.length a6))]) (fun c9 w' => Hp w (aaj [rwt aaa 46 3 a7 a0 a6 a5]) [rwt aaa 46 3 a7 a0 a6 c9] w' ∧ c9.length = c2.length ∧ c9 = s0) ?_ ?_
  refine bi c8 fun s1 e5 c8 => agq g2 [0, 1, 3, 4, 18, 20, 24, 199] [(199, (Vb s1))] ?_ ?_
  refine cr (wp 3 (wd e5 (fun s2 e5 => ?_) (fun s2 e5 => ?_)))
  refine wp 4 (wl (ql ?_))
  obtain rfl := oi e5
  exact je g2.kp
  refine wp 4 (wl (ql ?_))
  obtain rfl := oi e5
  exact je g2.kp
  intro w7 G e6
  refine cb c8 (fun s3 c8 => ?_) (fun s3 c8 => ?_)
  refine cr (wp 5 (bi c8 fun j2 s4 c8 => aad 242 #[] [(Vs a0 c2.length a6), (Vi .i64 a8), (Vi .i64 d9), (Vi .i64 (IntKind.wrap .i64 ((IntKind.wrap .u64 (a8 + b2)) / 2))), (Value.func (.func 130) #[] #[])] _ ent242 (by kernel_rfl) (by kernel_rfl) (ih a7 a0 a6 s4 (hG.hp e6 hS) (e6.hand (L1 := [rwt aaa 46 3 a7 a0 a6 c2]) (L2 := [])) (e6.highs hG hS 1 rfl)) ?_))
  rintro _ s5 ⟨rfl, w8, j3⟩
  have s6 : Hp w (aaj [rwt aaa 46 3 a7 a0 a6 a5]) [rwt aaa 46 3 a7 a0 a6 j2] s5 := Hp.callK (L1 := [rwt aaa 46 3 a7 a0 a6 c2]) (L2 := []) e6 j3; clear j3
  refine wl (ql ?_)
  obtain rfl := oi c8
  exact ⟨j2, _, rfl, (mc (Eq.trans (b := (Vs a0 c2.length a6)) (by kernel_rfl) (aae (by (try simp only [List.length_set]) <;> first | rfl | omega | simp))) (mc (by kernel_rfl) (mc (by kernel_rfl) (mc (by kernel_rfl) (mc (by kernel_rfl) rfl))))), s6.kp, (by (try simp only [List.length_set]) <;> first | rfl | omega), rfl⟩
  refine ck (ql ?_)
  obtain rfl := oi c8
  exact ⟨c2, _, rfl, by kernel_rfl, e6.kp, (by (try simp only [List.length_set]) <;> first | rfl | omega), rfl⟩
  rintro c9 w9 G ⟨g3, x0, rfl⟩
  refine bi hr fun s7 e7 hr => agq g3 [0, 3, 4, 18, 24, 213] [(213, (Vb s7))] ?_ ?_
  refine cr (wp 3 (wd e7 (fun s8 e7 => ?_) (fun s8 e7 => ?_)))
  refine wp 4 (wl (ql ?_))
  obtain rfl := oi e7
  exact je g3.kp
  refine wp 4 (wl (ql ?_))
  obtain rfl := oi e7
  exact je g3.kp
  intro x2 G e8
  refine cb hr (fun s9 hr => ?_) (fun s9 hr => ?_)
  refine cr (wp 5 (bi hr fun t0 t1 hr => aad 242 #[] [(Vs a0 c9.length a6), (Vi .i64 (IntKind.wrap .i64 ((IntKind.wrap .u64 (a8 + b2)) / 2))), (Vi .i64 (((IntKind.wrap .i64 ((IntKind.wrap .u64 (a8 + b2)) / 2)) + a9) - d9)), (Vi .i64 b2), (Value.func (.func 130) #[] #[])] _ ent242 (by kernel_rfl) (by kernel_rfl) (ih a7 a0 a6 t1 (hG.hp e8 hS) (e8.hand (L1 := [rwt aaa 46 3 a7 a0 a6 c9]) (L2 := [])) (e8.highs hG hS 1 rfl)) ?_))
  rintro _ t2 ⟨rfl, x3, j4⟩
  have t3 : Hp w (aaj [rwt aaa 46 3 a7 a0 a6 a5]) [rwt aaa 46 3 a7 a0 a6 t0] t2 := Hp.callK (L1 := [rwt aaa 46 3 a7 a0 a6 c9]) (L2 := []) e8 j4; clear j4
  refine wl ?_
  obtain rfl := oi hr
  refine ahn  rfl  ?_
  exact ⟨(by first | rfl | (simp; done) | (simp; omega)), (by (try simp only [List.length_set]) <;> first | rfl | omega), t3.kp⟩
  refine ck ?_
  obtain rfl := oi hr
  refine ahn  rfl  ?_
  exact ⟨(by first | rfl | (simp; done) | (simp; omega)), (by (try simp only [List.length_set]) <;> first | rfl | omega), e8.kp⟩
theorem ahe {fu : Nat} {a4 : List (Str × Str × Bool)} {b6 : Int} (a2 : Option Nat) (a0 : Option Addr) (a1 : Nat) {w : World} {r : List (Str × Str × Bool)} (hr : adn fu a4 b6 = some r) (hG : Gl w) (hM : Hp w (aaj [rwt aaa 46 3 a2 a0 a1 a4]) [rwt aaa 46 3 a2 a0 a1 a4] w) (hS : ∀ b ∈ aaj [rwt aaa 46 3 a2 a0 a1 a4], 9 ≤ b) : CR Tryz.prog 209 [(Vs a0 a4.length a1), (Vi .i64 b6), (Value.func (.func 130) #[] #[])] w fun v w' => v = (Value.tuple #[]) ∧ r.length = a4.length ∧ Hp w (aaj [rwt aaa 46 3 a2 a0 a1 a4]) [rwt aaa 46 3 a2 a0 a1 r] w' := by
  have hH : Hp w (aaj [rwt aaa 46 3 a2 a0 a1 a4]) [rwt aaa 46 3 a2 a0 a1 a4] w := hM
  refine enter (k := 63) Tryz.func209 rfl rfl (Nat.le_of_ble_eq_true rfl) ?_
  unfold adn at hr
  refine sr (wp 1 (nq (sr (wp 3 (nq ?_)))))
  refine bi hr fun c6 d6 hr => cut (σ := ((List (Str × Str × Bool)) × Int)) [0, 1, 2, 6, 7] (fun a8 => [(0, (Vs a0 a8.1.length a1)), (7, (Vi .i64 a8.2))]) (fun a8 w' => Hp w (aaj [rwt aaa 46 3 a2 a0 a1 a4]) [rwt aaa 46 3 a2 a0 a1 a8.1] w' ∧ a8.1.length = a4.length ∧ a8 = c6) ?_ ?_
  refine ce (lpG (σ := Nat × (List (Str × Str × Bool)) × Int × Int) [0, 1, 2, 6, 7, 8] (fun ⟨b9, a9, b7, b3⟩ => [(0, (Vs a0 a9.length a1)), (7, (Vi .i64 b7)), (8, (Vi .i64 b3))]) (fun ⟨b9, a9, b7, b3⟩ w' => Hp w (aaj [rwt aaa 46 3 a2 a0 a1 a4]) [rwt aaa 46 3 a2 a0 a1 a9] w' ∧ a9.length = a4.length ∧ abz fu b6 b9 a9 b7 b3 = some c6) (fun ⟨b9, a9, b7, b3⟩ => b9) (fu, a4, (0 : Int), (20 : Int)) (by exact ⟨hH.kp, (by (try simp only [List.length_set]) <;> first | rfl | omega), d6⟩) ?_)
  rintro ⟨_ | b9, a9, b7, b3⟩ g2 G ⟨c1, g3, b1⟩
  · exact absurd (show none = some _ from b1) (by simp)
  rw [abz.eq_2] at b1
  refine cs (sr (wp 3 (nq (cd b1 (fun d7 b1 => ?_) (fun d7 b1 => ?_)))))
  refine ck (qn (ce (sr (wp 4 (bi b1 fun c7 d8 b1 => aad 241 #[] [(Vs a0 a9.length a1), (Vi .i64 b7), (Vi .i64 b3), (Value.func (.func 130) #[] #[])] _ ent241 (by kernel_rfl) (by kernel_rfl) (ady a2 a0 a1 d8 (hG.hp c1 hS) (c1.hand (L1 := [rwt aaa 46 3 a2 a0 a1 a9]) (L2 := [])) (c1.highs hG hS 1 rfl)) ?_)))))
  rintro _ d9 ⟨rfl, g4, c8⟩
  have e0 : Hp w (aaj [rwt aaa 46 3 a2 a0 a1 a4]) [rwt aaa 46 3 a2 a0 a1 c7] d9 := Hp.callK (L1 := [rwt aaa 46 3 a2 a0 a1 a9]) (L2 := []) c1 c8; clear c8
  refine nq (sr (wp 2 (nq (cr (wp 2 (gi b1 fun e1 b1 => ?_))))))
  refine aac b3 (20 : Int) (by kernel_rfl) (by kernel_rfl) e1 (wp 1 (wl (bn (ql ?_))))
  exact ⟨(b9, c7, b3, b3 + (20 : Int)), _, rfl, (mc (Eq.trans (b := (Vs a0 a9.length a1)) (by kernel_rfl) (aae (by (try simp only [List.length_set]) <;> first | rfl | omega | simp))) (mc (by kernel_rfl) (mc (by kernel_rfl) (mc (by kernel_rfl) (mc (by kernel_rfl) (mc (by kernel_rfl) rfl)))))), ⟨e0.kp, (by (try simp only [List.length_set]) <;> first | rfl | omega), b1⟩, Nat.lt_succ_self _⟩
  refine ach (acg (acq (aci (ql ?_))))
  obtain rfl := oi b1
  exact ⟨(a9, b7), _, rfl, by kernel_rfl, c1.kp, (by (try simp only [List.length_set]) <;> first | rfl | omega), rfl⟩
  rintro a8 g5 G ⟨c4, g6, rfl⟩
  refine sr (wp 4 (bi hr fun c5 e2 hr => aad 241 #[] [(Vs a0 a8.1.length a1), (Vi .i64 a8.2), (Vi .i64 b6), (Value.func (.func 130) #[] #[])] _ ent241 (by kernel_rfl) (by kernel_rfl) (ady a2 a0 a1 e2 (hG.hp c4 hS) (c4.hand (L1 := [rwt aaa 46 3 a2 a0 a1 a8.1]) (L2 := [])) (c4.highs hG hS 1 rfl)) ?_))
  rintro _ e3 ⟨rfl, g7, c9⟩
  have e4 : Hp w (aaj [rwt aaa 46 3 a2 a0 a1 a4]) [rwt aaa 46 3 a2 a0 a1 c5] e3 := Hp.callK (L1 := [rwt aaa 46 3 a2 a0 a1 a8.1]) (L2 := []) c4 c9; clear c9
  refine nq (ce (lpG (σ := Nat × (List (Str × Str × Bool)) × Int) [0, 1, 2, 6] (fun ⟨b8, b2, a5⟩ => [(0, (Vs a0 b2.length a1)), (6, (Vi .i64 a5))]) (fun ⟨b8, b2, a5⟩ w' => Hp w (aaj [rwt aaa 46 3 a2 a0 a1 a4]) [rwt aaa 46 3 a2 a0 a1 b2] w' ∧ b2.length = c5.length ∧ abc fu b6 b8 b2 a5 = some r) (fun ⟨b8, b2, a5⟩ => b8) (fu, c5, (20 : Int)) (by exact ⟨e4.kp, (by (try simp only [List.length_set]) <;> first | rfl | omega), hr⟩) ?_ (mc (Eq.trans (b := (Vs a0 a8.1.length a1)) (by kernel_rfl) (aae (by (try simp only [List.length_set]) <;> first | rfl | omega | simp))) (mc (by kernel_rfl) (mc (by kernel_rfl) (mc (by kernel_rfl) rfl))))))
  rintro ⟨_ | b8, b2, a5⟩ g8 G ⟨d0, g9, a3⟩
  · exact absurd (show none = some _ from a3) (by simp)
  rw [abc.eq_2] at a3
  refine cs (sr (wp 3 (nq (cd a3 (fun e5 a3 => ?_) (fun e5 a3 => ?_)))))
  refine ck (qn (ce (sr (wp 1 (gi a3 fun e6 a3 => amv (2 : Int) a5 (by kernel_rfl) (by kernel_rfl) e6 (wp 2 (wl ?_)))))))
  refine qn (bi a3 fun d1 e7 a3 => cut (σ := ((List (Str × Str × Bool)) × Int)) [0, 1, 2, 6, 7] (fun a6 => [(0, (Vs a0 a6.1.length a1)), (7, (Vi .i64 a6.2))]) (fun a6 w' => Hp w (aaj [rwt aaa 46 3 a2 a0 a1 a4]) [rwt aaa 46 3 a2 a0 a1 a6.1] w' ∧ a6.1.length = b2.length ∧ a6 = d1) ?_ ?_)
  refine ce (lpG (σ := Nat × (List (Str × Str × Bool)) × Int × Int) [0, 1, 2, 6, 7, 8] (fun ⟨c0, b0, b4, b5⟩ => [(0, (Vs a0 b0.length a1)), (7, (Vi .i64 b4)), (8, (Vi .i64 b5))]) (fun ⟨c0, b0, b4, b5⟩ w' => Hp w (aaj [rwt aaa 46 3 a2 a0 a1 a4]) [rwt aaa 46 3 a2 a0 a1 b0] w' ∧ b0.length = b2.length ∧ aby fu b6 a5 c0 b0 b4 b5 = some d1) (fun ⟨c0, b0, b4, b5⟩ => c0) (fu, b2, (0 : Int), (2 : Int) * a5) (by exact ⟨d0.kp, (by (try simp only [List.length_set]) <;> first | rfl | omega), e7⟩) ?_)
  rintro ⟨_ | c0, b0, b4, b5⟩ h0 G ⟨c2, h1, a7⟩
  · exact absurd (show none = some _ from a7) (by simp)
  rw [aby.eq_2] at a7
  refine cs (sr (wp 3 (nq (cd a7 (fun e8 a7 => ?_) (fun e8 a7 => ?_)))))
  refine ck (qn (ce (sr (wp 4 (gi a7 fun e9 a7 => aac b4 a5 (by kernel_rfl) (by kernel_rfl) e9 (wp 2 (bi a7 fun d2 f0 a7 => ?_)))))))
  refine aad 242 #[] [(Vs a0 b0.length a1), (Vi .i64 b4), (Vi .i64 (b4 + a5)), (Vi .i64 b5), (Value.func (.func 130) #[] #[])] _ ent242 (by kernel_rfl) (by kernel_rfl) (aej a2 a0 a1 f0 (hG.hp c2 hS) (c2.hand (L1 := [rwt aaa 46 3 a2 a0 a1 b0]) (L2 := [])) (c2.highs hG hS 1 rfl)) ?_
  rintro _ f1 ⟨rfl, h2, d3⟩
  have f2 : Hp w (aaj [rwt aaa 46 3 a2 a0 a1 a4]) [rwt aaa 46 3 a2 a0 a1 d2] f1 := Hp.callK (L1 := [rwt aaa 46 3 a2 a0 a1 b0]) (L2 := []) c2 d3; clear d3
  refine nq (sr (wp 2 (nq (cr (wp 2 (gi a7 fun f3 a7 => ?_))))))
  refine amv (2 : Int) a5 (by kernel_rfl) (by kernel_rfl) f3 (gi a7 fun f4 a7 => aac b5 ((2 : Int) * a5) (by kernel_rfl) (by kernel_rfl) f4 (wp 1 (wl (bn (ql ?_)))))
  exact ⟨(c0, d2, b5, b5 + ((2 : Int) * a5)), _, rfl, (mc (Eq.trans (b := (Vs a0 b0.length a1)) (by kernel_rfl) (aae (by (try simp only [List.length_set]) <;> first | rfl | omega | simp))) (mc (by kernel_rfl) (mc (by kernel_rfl) (mc (by kernel_rfl) (mc (by kernel_rfl) (mc (by kernel_rfl) rfl)))))), ⟨f2.kp, (by (try simp only [List.length_set]) <;> first | rfl | omega), a7⟩, Nat.lt_succ_self _⟩
  refine ach (acg (acq (aci (ql ?_))))
  obtain rfl := oi a7
  exact ⟨(b0, b4), _, rfl, by kernel_rfl, c2.kp, (by (try simp only [List.length_set]) <;> first | rfl | omega), rfl⟩
  rintro a6 h3 G ⟨c3, h4, rfl⟩
  refine cs (sr (wp 2 (gi a3 fun f5 a3 => aac a6.2 a5 (by kernel_rfl) (by kernel_rfl) f5 (wp 1 (nq (cs ?_))))))
  refine cr (wp 3 (nq (cd a3 (fun f6 a3 => ?_) (fun f6 a3 => ?_))))
  refine cr (wp 5 (bi a3 fun d4 f7 a3 => aad 242 #[] [(Vs a0 a6.1.length a1), (Vi .i64 a6.2), (Vi .i64 (a6.2 + a5)), (Vi .i64 b6), (Value.func (.func 130) #[] #[])] _ ent242 (by kernel_rfl) (by kernel_rfl) (aej a2 a0 a1 f7 (hG.hp c3 hS) (c3.hand (L1 := [rwt aaa 46 3 a2 a0 a1 a6.1]) (L2 := [])) (c3.highs hG hS 1 rfl)) ?_))
  rintro _ f8 ⟨rfl, h5, d5⟩
  have f9 : Hp w (aaj [rwt aaa 46 3 a2 a0 a1 a4]) [rwt aaa 46 3 a2 a0 a1 d4] f8 := Hp.callK (L1 := [rwt aaa 46 3 a2 a0 a1 a6.1]) (L2 := []) c3 d5; clear d5
  refine nq (cr (wp 1 (gi a3 fun g0 a3 => amv a5 (2 : Int) (by kernel_rfl) (by kernel_rfl) g0 (wp 1 (wl (bn (ql ?_)))))))
  exact ⟨(b8, d4, a5 * (2 : Int)), _, rfl, (mc (Eq.trans (b := (Vs a0 a6.1.length a1)) (by kernel_rfl) (aae (by (try simp only [List.length_set]) <;> first | rfl | omega | simp))) (mc (by kernel_rfl) (mc (by kernel_rfl) (mc (by kernel_rfl) rfl)))), ⟨f9.kp, (by (try simp only [List.length_set]) <;> first | rfl | omega), a3⟩, Nat.lt_succ_self _⟩
  refine ck (qn (cr (wp 1 (gi a3 fun g1 a3 => amv a5 (2 : Int) (by kernel_rfl) (by kernel_rfl) g1 (wp 1 (wl (bn (ql ?_))))))))
  exact ⟨(b8, a6.1, a5 * (2 : Int)), _, rfl, by kernel_rfl, ⟨c3.kp, (by (try simp only [List.length_set]) <;> first | rfl | omega), a3⟩, Nat.lt_succ_self _⟩
  refine ach (acg (acq (aci ?_)))
  obtain rfl := oi a3
  refine ahn  rfl  ?_
  exact ⟨(by first | rfl | (simp; done) | (simp; omega)), (by (try simp only [List.length_set]) <;> first | rfl | omega), d0.kp⟩
theorem ahd {fu : Nat} {a0 : List (Str × Str × Bool)} (a3 : Option Nat) (a1 : Option Addr) (a2 : Nat) {w : World} {r : List (Str × Str × Bool)} (hr : adj fu a0 = some r) (hG : Gl w) (hM : Hp w (aaj [rwt aaa 46 3 a3 a1 a2 a0]) [rwt aaa 46 3 a3 a1 a2 a0] w) (hS : ∀ b ∈ aaj [rwt aaa 46 3 a3 a1 a2 a0], 9 ≤ b) : CR Tryz.prog 163 [(Vs a1 a0.length a2), (Value.func (.func 130) #[] #[])] w fun v w' => v = (Value.tuple #[]) ∧ r.length = a0.length ∧ Hp w (aaj [rwt aaa 46 3 a3 a1 a2 a0]) [rwt aaa 46 3 a3 a1 a2 r] w' := by
  have hH : Hp w (aaj [rwt aaa 46 3 a3 a1 a2 a0]) [rwt aaa 46 3 a3 a1 a2 a0] w := hM
  refine enter (k := 9) Tryz.func163 rfl rfl (Nat.le_of_ble_eq_true rfl) ?_
  unfold adj at hr
  refine cr (wp 4 (bi hr fun y1 a5 hr => aad 209 #[] [(Vs a1 a0.length a2), (Vi .i64 (a0.length : Int)), (Value.func (.func 130) #[] #[])] _ ent209 (by kernel_rfl) (by kernel_rfl) (ahe a3 a1 a2 a5 (hG.hp hH hS) (hH.hand (L1 := [rwt aaa 46 3 a3 a1 a2 a0]) (L2 := [])) (hH.highs hG hS 1 rfl)) ?_))
  rintro _ w3 ⟨rfl, a7, a4⟩
  have a6 : Hp w (aaj [rwt aaa 46 3 a3 a1 a2 a0]) [rwt aaa 46 3 a3 a1 a2 y1] w3 := Hp.callK (L1 := [rwt aaa 46 3 a3 a1 a2 a0]) (L2 := []) hH a4; clear a4
  refine wl ?_
  obtain rfl := oi hr
  refine ahn  rfl  ?_
  exact ⟨(by first | rfl | (simp; done) | (simp; omega)), (by (try simp only [List.length_set]) <;> first | rfl | omega), a6.kp⟩
theorem afe {fu : Nat} {a1 : List (Str × Str × Bool)} (a2 : Nat) (a3 : Option Addr) (a6 : Nat) (a4 : Nat) {w : World} {r : List (Str × Str × Bool)} (hr : aca fu a1 = some r) (hG : Gl w) (b2 : a6 = a1.length) (a8 : Rd w a3 (List.flatMap aaa a1)) (b3 : a6 ≤ a4) (hM : Hp w (aaj [blk a2 [(Vs a3 a1.length a4)] 22]) [blk a2 [(Vs a3 a1.length a4)] 22] w) (hS : ∀ b ∈ aaj [blk a2 [(Vs a3 a1.length a4)] 22], 9 ≤ b) (a9 : List.flatMap aaa a1 ≠ [] → ∀ p, a3 = some p → p.block ∉ aaj [blk a2 [(Vs a3 a1.length a4)] 22]) : CR Tryz.prog 128 [(Value.func (.func 186) #[] #[(Vp (some ⟨a2, 0, none⟩))]), (Value.func (.func 130) #[] #[])] w fun v w' => ∃ (o0 : Option Nat), ∃ (a0 : Option Addr), ∃ (cap0 : Nat), v = (Vs a0 r.length cap0) ∧ Hp w (aaj [blk a2 [(Vs a3 a1.length a4)] 22]) [blk a2 [(Vs a3 a1.length a4)] 22, rwt aaa 46 3 o0 a0 cap0 r] w' := by
  subst b2
  have hH : Hp w (aaj [blk a2 [(Vs a3 a1.length a4)] 22]) [blk a2 [(Vs a3 a1.length a4)] 22] w := hM
  refine enter (k := 12) Tryz.func128 rfl rfl (Nat.le_of_ble_eq_true rfl) ?_
  unfold aca at hr
  refine sr (wp 1 (nq (sr (wp 1 (bi hr fun y1 b4 hr => aad 185 #[] [(Value.func (.func 186) #[] #[(Vp (some ⟨a2, 0, none⟩))])] _ ent185 (by kernel_rfl) (by kernel_rfl) (ajt a2 a3 a1.length a4 b4 (hG.hp hH hS) rfl (a8.hpN hH a9) b3 (hH.hand (L1 := [blk a2 [(Vs a3 a1.length a4)] 22]) (L2 := [])) (hH.highs hG hS 1 rfl) (hH.apartRd 1 a8 a9 rfl)) ?_)))))
  rintro _ w3 ⟨o6, a7, cap8, rfl, b0⟩
  have b5 : Hp w (aaj [blk a2 [(Vs a3 a1.length a4)] 22]) [blk a2 [(Vs a3 a1.length a4)] 22, rwt aaa 46 3 o6 a7 cap8 y1] w3 := Hp.callK (L1 := [blk a2 [(Vs a3 a1.length a4)] 22]) (L2 := []) hH b0; clear b0
  refine wp 1 (nq (sr (wp 2 (bi hr fun y9 b6 hr => ?_))))
  have a5 : Hp w (aaj [blk a2 [(Vs a3 a1.length a4)] 22]) [rwt aaa 46 3 o6 a7 cap8 y1, blk a2 [(Vs a3 a1.length a4)] 22] w3 := b5.front 1 _ rfl
  refine aad 163 #[] [(Vs a7 y1.length cap8), (Value.func (.func 130) #[] #[])] _ ent163 (by kernel_rfl) (by kernel_rfl) (ahd o6 a7 cap8 b6 (hG.hp a5 hS) (a5.hand (L1 := [rwt aaa 46 3 o6 a7 cap8 y1]) (L2 := [blk a2 [(Vs a3 a1.length a4)] 22])) (a5.highs hG hS 1 rfl)) ?_
  rintro _ b7 ⟨rfl, b9, b1⟩
  have b8 : Hp w (aaj [blk a2 [(Vs a3 a1.length a4)] 22]) [rwt aaa 46 3 o6 a7 cap8 y9, blk a2 [(Vs a3 a1.length a4)] 22] b7 := Hp.callK (L1 := [rwt aaa 46 3 o6 a7 cap8 y1]) (L2 := [blk a2 [(Vs a3 a1.length a4)] 22]) a5 b1; clear b1
  refine nq (sr (wp 2 (nq (ct ?_))))
  obtain rfl := oi hr
  refine ana (Vs a7 y1.length cap8) rfl (by kernel_rfl) ?_
  exact ⟨o6, a7, cap8, (by first | rfl | (simp; done) | (simp; omega)), (Hp.front b8 1 _ rfl).kp⟩
theorem anh {fu : Nat} {a1 : List (Str × Str × Bool)} (a2 : Option Addr) (a5 : Nat) (a3 : Nat) {w : World} {r : List (Str × Str × Bool)} (hr : akm fu a1 = some r) (hG : Gl w) (b3 : a5 = a1.length) (a6 : Rd w a2 (List.flatMap aaa a1)) (a9 : a5 ≤ a3) : CR Tryz.prog 71 [(Vs a2 a5 a3)] w fun v w' => ∃ (o0 : Option Nat), ∃ (a0 : Option Addr), ∃ (cap0 : Nat), v = (Vs a0 r.length cap0) ∧ Hp w [] [rwt aaa 46 3 o0 a0 cap0 r] w' := by
  subst b3
  have hH : Hp w [] [] w := Hp.refl w
  refine enter (k := 6) Tryz.func71 rfl rfl (Nat.le_of_ble_eq_true rfl) ?_
  unfold akm at hr
  refine sr (wp 1 (nq (sr (wp 1 (bi hr fun y1 b4 hr => aad 129 #[] [(Vs a2 a1.length a3)] _ ent129 (by kernel_rfl) (by kernel_rfl) (anw a2 a1.length a3 b4 (hG.hp0 hH) rfl (a6.hp hH) a9) ?_)))))
  rintro _ w3 ⟨b6, rfl, b0⟩
  have a4 : Hp w [] [blk b6 [(Vs a2 a1.length a3)] 22] w3 := Hp.callK (L1 := []) (L2 := []) hH b0; clear b0
  refine bi hr fun y7 b5 hr => aad 128 #[] [(Value.func (.func 186) #[] #[(Vp (some ⟨b6, 0, none⟩))]), (Value.func (.func 130) #[] #[])] _ ent128 (by kernel_rfl) (by kernel_rfl) (afe b6 a2 a1.length a3 b5 (hG.hp0 a4) rfl (a6.hp a4) a9 (a4.hand (L1 := [blk b6 [(Vs a2 a1.length a3)] 22]) (L2 := [])) (a4.highs hG (fun _ h => absurd h (by simp)) 1 rfl) (a4.apartRd 1 a6 (fun _ _ _ h => absurd h (by simp)) rfl)) ?_
  rintro _ w9 ⟨b1, a7, a8, rfl, b2⟩
  have b7 : Hp w [] [blk b6 [(Vs a2 a1.length a3)] 22, rwt aaa 46 3 b1 a7 a8 y7] w9 := Hp.callK (L1 := [blk b6 [(Vs a2 a1.length a3)] 22]) (L2 := []) a4 b2; clear b2
  refine wp 1 (nq (ct ?_))
  obtain rfl := oi hr
  refine ana (Vs a7 y7.length a8) rfl (by kernel_rfl) ?_
  exact ⟨b1, a7, a8, (by first | rfl | (simp; done) | (simp; omega)), (Hp.front b7 1 _ rfl).kp⟩
theorem K_L_header_PrintVia {fu : Nat} {a0 : (Str × Str × Int × Str × (List (Str × Str × Bool)))} (a2 : Option Addr) (d3 : Nat) (a3 : Nat) {w : World} {r : (Str × UInt8)} (hr : akz fu a0 = some r) (hG : Gl w) (f7 : d3 = a0.2.2.2.2.length) (e1 : Rd w a2 (List.flatMap aaa a0.2.2.2.2)) (j8 : d3 ≤ a3) : CR Tryz.prog 17 [(Value.agg #[(str a0.1), (str a0.2.1), (Vi .i64 a0.2.2.1), (str a0.2.2.2.1), (Vs a2 d3 a3)])] w fun v w' => v = (Value.tuple #[(str r.1), (bt r.2)]) ∧ Hp w [] [] w' := by
  subst f7
  have hH : Hp w [] [] w := Hp.refl w
  refine enter (k := 85) Tryz.func17 rfl rfl (Nat.le_of_ble_eq_true rfl) ?_
  unfold akz at hr
  refine sr (adl hH [(str a0.1), (str a0.2.1), (Vi .i64 a0.2.2.1), (str a0.2.2.2.1), (Vs a2 a0.2.2.2.2.length a3)] 24 (fun b => (Vp (some ⟨b, 0, none⟩))) rfl rfl (by kernel_rfl) fun b1 w2 d4 => wp 2 (nq (sr (wp 1 (aav d4 0 b1 1 [(str a0.1), (str a0.2.1), (Vi .i64 a0.2.2.1), (str a0.2.2.2.1), (Vs a2 a0.2.2.2.2.length a3)] 24 (str a0.2.1) rfl rfl (by kernel_rfl) (by kernel_rfl) ?_)))))
  refine bi hr fun y4 f8 hr => wc ent26 d4 (afw f8 (hG.hp0 d4)) fun w6 c2 => wp 5 (nq (cs (bi hr fun f9 a5 hr => agq c2 [1, 2, 3, 4, 34] [(34, (Vb f9))] ?_ ?_)))
  refine cr (wp 2 (wb a5 (fun g0 a5 => ?_) (fun g0 a5 => ?_)))
  refine wp 15 (wl (ql ?_))
  obtain rfl := oi a5
  exact je c2.kp
  refine wp 1 (gy 19 (aav c2 0 b1 0 [(str a0.1), (str a0.2.1), (Vi .i64 a0.2.2.1), (str a0.2.2.2.1), (Vs a2 a0.2.2.2.2.length a3)] 24 (str a0.1) rfl rfl (by kernel_rfl) (by kernel_rfl) (gy 19 (bi a5 fun j9 g1 a5 => wc ent69 c2 (afb g1 (hG.hp0 c2)) fun k0 c3 => wp 2 (wb a5 (fun g2 a5 => ?_) (fun g2 a5 => ?_))))))
  refine wp 9 (wl (ql ?_))
  obtain rfl := oi a5
  exact je c3.kp
  refine wp 1 (gy 25 (aav c3 0 b1 2 [(str a0.1), (str a0.2.1), (Vi .i64 a0.2.2.1), (str a0.2.2.2.1), (Vs a2 a0.2.2.2.2.length a3)] 24 (Vi .i64 a0.2.2.1) rfl rfl (by kernel_rfl) (by kernel_rfl) (wp 2 (wd a5 (fun g3 a5 => ?_) (fun g3 a5 => ?_)))))
  refine wp 4 (wl (ql ?_))
  obtain rfl := oi a5
  exact je c3.kp
  refine wp 1 (gy 30 (aav c3 0 b1 2 [(str a0.1), (str a0.2.1), (Vi .i64 a0.2.2.1), (str a0.2.2.2.1), (Vs a2 a0.2.2.2.2.length a3)] 24 (Vi .i64 a0.2.2.1) rfl rfl (by kernel_rfl) (by kernel_rfl) (wp 2 (wl (ql ?_)))))
  obtain rfl := oi a5
  exact je c3.kp
  intro k1 G d5
  refine cb hr (fun g4 hr => ?_) (fun g4 hr => ?_)
  refine sr (wp 2 (nq (ct (st ?_))))
  obtain rfl := oi hr
  exact rv d5.kp
  refine ck (qn (sr (wp 1 (nq (bi hr fun e2 g5 hr => cut (σ := (List (Str × Str × Bool)) × (Option Nat) × (Option Addr) × Nat) [1, 2, 3, 4, 6] (fun ⟨a8, c4, b8, b9⟩ => [(6, (Vs b8 a8.length b9))]) (fun ⟨a8, c4, b8, b9⟩ w' => Hp w [] [blk b1 [(str a0.1), (str a0.2.1), (Vi .i64 a0.2.2.1), (str a0.2.2.2.1), (Vs a2 a0.2.2.2.2.length a3)] 24, rwt aaa 46 3 c4 b8 b9 a8] w' ∧ a8 = e2) ?_ ?_)))))
  refine sr (wp 1 (aav d5 0 b1 4 [(str a0.1), (str a0.2.1), (Vi .i64 a0.2.2.1), (str a0.2.2.2.1), (Vs a2 a0.2.2.2.2.length a3)] 24 (Vs a2 a0.2.2.2.2.length a3) rfl rfl (by kernel_rfl) (by kernel_rfl) (wp 2 (nq (ce (lpG (σ := Nat × (List (Str × Str × Bool)) × Int × (Option Nat) × (Option Addr) × Nat) [1, 2, 3, 4, 6, 36, 37, 38] (fun ⟨b6, a6, a1, b3, a9, b0⟩ => [(6, (Vs a9 a6.length b0)), (38, (Vi .i64 a1))]) (fun ⟨b6, a6, a1, b3, a9, b0⟩ w' => Hp w [] [blk b1 [(str a0.1), (str a0.2.1), (Vi .i64 a0.2.2.1), (str a0.2.2.2.1), (Vs a2 a0.2.2.2.2.length a3)] 24, rwt aaa 46 3 b3 a9 b0 a6] w' ∧ afn fu a0 b6 a6 a1 = some e2) (fun ⟨b6, a6, a1, b3, a9, b0⟩ => b6) (fu, ([] : List (Str × Str × Bool)), (0 : Int), none, none, 0) (by exact ⟨(Hp.front (Hp.nilrw d5 aaa 46 3 none) 1 _ rfl).kp, g5⟩) ?_ (mc (by kernel_rfl) (mc (by kernel_rfl) (mc (by kernel_rfl) (mc (by kernel_rfl) (mc (Eq.trans (b := (Vs none 0 0)) (by kernel_rfl) (aae (by (try simp only [List.length_set]) <;> first | rfl | omega | simp))) (mc (by kernel_rfl) (mc (by kernel_rfl) (mc (by kernel_rfl) rfl))))))))))))))
  rintro ⟨_ | b6, a6, a1, b3, a9, b0⟩ k2 G ⟨c7, a4⟩
  · exact absurd (show none = some _ from a4) (by simp)
  rw [afn.eq_2] at a4
  refine sr (wp 1 (nq (cs (cd a4 (fun g6 a4 => ?_) (fun g6 a4 => ?_)))))
  refine ck (qn (cs (ce (sr (gi a4 fun g7 a4 => aht a2 a0.2.2.2.2.length a3 46 3 .i64 a1 Tryz.underlying22 (by kernel_rfl) (by kernel_rfl) (by kernel_rfl) a0.2.2.2.2 rfl g7 (e1.hp c7) aab (by decide) (gi a4 fun g8 a4 => ahm a2 aaa a0.2.2.2.2 3 a1 aab (e1.hp c7) [(str ((el a0.2.2.2.2 a1).1)), (str ((el a0.2.2.2.2 a1).2.1)), (Vb ((el a0.2.2.2.2 a1).2.2))] g8 (by kernel_rfl) (by kernel_rfl) (by kernel_rfl) (by kernel_rfl) (by decide) ?_))))))
  refine adl c7 [(str ([] : Str)), (str ([] : Str)), (Vb false)] 46 (fun b => (Vp (some ⟨b, 0, none⟩))) rfl rfl (by kernel_rfl) fun c5 k3 g9 => aff g9 0 c5 0 [(str ([] : Str)), (str ([] : Str)), (Vb false)] [(str ((el a0.2.2.2.2 a1).1)), (str ((el a0.2.2.2.2 a1).2.1)), (Vb ((el a0.2.2.2.2 a1).2.2))] 46 [blk c5 [(str ((el a0.2.2.2.2 a1).1)), (str ((el a0.2.2.2.2 a1).2.1)), (Vb ((el a0.2.2.2.2 a1).2.2))] 46, blk b1 [(str a0.1), (str a0.2.1), (Vi .i64 a0.2.2.1), (str a0.2.2.2.1), (Vs a2 a0.2.2.2.2.length a3)] 24, rwt aaa 46 3 b3 a9 b0 a6] rfl (Nat.le_of_ble_eq_true rfl) (by kernel_rfl) (by kernel_rfl) rfl (by kernel_rfl) rfl fun k4 c8 => nq (sr (wp 1 (aav c8 0 c5 0 [(str ((el a0.2.2.2.2 a1).1)), (str ((el a0.2.2.2.2 a1).2.1)), (Vb ((el a0.2.2.2.2 a1).2.2))] 46 (str ((el a0.2.2.2.2 a1).1)) rfl rfl (by kernel_rfl) (by kernel_rfl) (wp 1 (wl ?_)))))
  refine qn (cn a4 (fun h0 a4 => ?_) (fun h0 a4 => ?_))
  refine cr (wp 1 (akx c8 0 c5 0 3 [(str ((el a0.2.2.2.2 a1).1)), (str ((el a0.2.2.2.2 a1).2.1)), (Vb ((el a0.2.2.2.2 a1).2.2))] [(str ((el a0.2.2.2.2 a1).1)), (str ((el a0.2.2.2.2 a1).2.1)), (Vb ((el a0.2.2.2.2 a1).2.2))] 46 rfl rfl rfl (by kernel_rfl) (by kernel_rfl) (by kernel_rfl) (adl c8 [(str ((el a0.2.2.2.2 a1).1)), (str ((el a0.2.2.2.2 a1).2.1)), (Vb ((el a0.2.2.2.2 a1).2.2))] 46 (fun b => (Vs (some ⟨b, 0, none⟩) 1 1)) rfl rfl (by kernel_rfl) fun d6 k5 e3 => gi a4 fun h1 a4 => adw e3 3 b3 a9 (some ⟨d6, 0, none⟩) b0 1 46 3 40 a6 ([((el a0.2.2.2.2 a1).1, (el a0.2.2.2.2 a1).2.1, ((el a0.2.2.2.2 a1).2.2))] : List (Str × Str × Bool)) aab rfl Tryz.underlying22 (by unfold TI; kernel_rfl) (by decide) (by decide) (by kernel_rfl) (Eq.trans (b := (Vs (some ⟨d6, 0, none⟩) 1 1)) (by kernel_rfl) (aae (by first | rfl | (simp; done) | omega | (simp; omega) | (rw [List.length_take]; omega)))) (e3.rdblk 0 rfl) h1 fun e4 e5 e6 h2 d7 => ?_)))
  replace d7 : Hp w [] [blk d6 [(str ((el a0.2.2.2.2 a1).1)), (str ((el a0.2.2.2.2 a1).2.1)), (Vb ((el a0.2.2.2.2 a1).2.2))] 46, blk c5 [(str ((el a0.2.2.2.2 a1).1)), (str ((el a0.2.2.2.2 a1).2.1)), (Vb ((el a0.2.2.2.2 a1).2.2))] 46, blk b1 [(str a0.1), (str a0.2.1), (Vi .i64 a0.2.2.1), (str a0.2.2.2.1), (Vs a2 a0.2.2.2.2.length a3)] 24, rwt aaa 46 3 e4 e5 e6 (a6 ++ ([((el a0.2.2.2.2 a1).1, (el a0.2.2.2.2 a1).2.1, ((el a0.2.2.2.2 a1).2.2))] : List (Str × Str × Bool)))] h2 := d7
  refine wp 1 (wl (bn (qn (cr (gi a4 fun h3 a4 => aac a1 (1 : Int) (by kernel_rfl) (by kernel_rfl) h3 (wp 1 (wl (ql ?_))))))))
  exact ⟨(b6, a6 ++ ([((el a0.2.2.2.2 a1).1, (el a0.2.2.2.2 a1).2.1, ((el a0.2.2.2.2 a1).2.2))] : List (Str × Str × Bool)), a1 + (1 : Int), e4, e5, e6), _, rfl, by kernel_rfl, ⟨(Hp.front (Hp.front d7 3 _ rfl) 3 _ rfl).kp, a4⟩, Nat.lt_succ_self _⟩
  refine ck (bn (qn (cr (gi a4 fun h4 a4 => aac a1 (1 : Int) (by kernel_rfl) (by kernel_rfl) h4 (wp 1 (wl (ql ?_)))))))
  exact ⟨(b6, a6, a1 + (1 : Int), b3, a9, b0), _, rfl, by kernel_rfl, ⟨(Hp.front (Hp.front c8 2 _ rfl) 2 _ rfl).kp, a4⟩, Nat.lt_succ_self _⟩
  refine ach (acg (acq (aci (ql ?_))))
  obtain rfl := oi a4
  exact ⟨(a6, b3, a9, b0), _, rfl, by kernel_rfl, (Hp.front (Hp.front c7 1 _ rfl) 1 _ rfl).kp, rfl⟩
  rintro ⟨a8, c4, b8, b9⟩ k6 G ⟨c9, rfl⟩
  refine bi hr fun h5 b7 hr => cut (σ := (List (Str × Str × Bool)) × (Option Nat) × (Option Addr) × Nat) [1, 2, 3, 4, 6] (fun ⟨b2, c6, b4, b5⟩ => [(6, (Vs b4 b2.length b5))]) (fun ⟨b2, c6, b4, b5⟩ w' => Hp w [] [blk b1 [(str a0.1), (str a0.2.1), (Vi .i64 a0.2.2.1), (str a0.2.2.2.1), (Vs a2 a0.2.2.2.2.length a3)] 24, rwt aaa 46 3 c6 b4 b5 b2] w' ∧ b2 = h5) ?_ ?_
  refine sr (wp 1 (aav c9 0 b1 3 [(str a0.1), (str a0.2.1), (Vi .i64 a0.2.2.1), (str a0.2.2.2.1), (Vs a2 a0.2.2.2.2.length a3)] 24 (str a0.2.2.2.1) rfl rfl (by kernel_rfl) (by kernel_rfl) (wp 1 (nq (cn b7 (fun h6 b7 => ?_) (fun h6 b7 => ?_))))))
  refine cr (wp 2 (aav c9 0 b1 3 [(str a0.1), (str a0.2.1), (Vi .i64 a0.2.2.1), (str a0.2.2.2.1), (Vs a2 a0.2.2.2.2.length a3)] 24 (str a0.2.2.2.1) rfl rfl (by kernel_rfl) (by kernel_rfl) (wp 1 (adl c9 [(str ([98, 114, 97, 110, 99, 104] : Str)), (str a0.2.2.2.1), (Vb true)] 46 (fun b => (Vs (some ⟨b, 0, none⟩) 1 1)) rfl rfl (by kernel_rfl) fun d8 k7 e7 => gi b7 fun h7 b7 => adw e7 2 c4 b8 (some ⟨d8, 0, none⟩) b9 1 46 3 40 a8 ([(([98, 114, 97, 110, 99, 104] : Str), a0.2.2.2.1, true)] : List (Str × Str × Bool)) aab rfl Tryz.underlying22 (by unfold TI; kernel_rfl) (by decide) (by decide) (by kernel_rfl) (Eq.trans (b := (Vs (some ⟨d8, 0, none⟩) 1 1)) (by kernel_rfl) (aae (by first | rfl | (simp; done) | omega | (simp; omega) | (rw [List.length_take]; omega)))) (e7.rdblk 0 rfl) h7 fun e8 e9 f0 h8 d9 => ?_))))
  replace d9 : Hp w [] [blk d8 [(str ([98, 114, 97, 110, 99, 104] : Str)), (str a0.2.2.2.1), (Vb true)] 46, blk b1 [(str a0.1), (str a0.2.1), (Vi .i64 a0.2.2.1), (str a0.2.2.2.1), (Vs a2 a0.2.2.2.2.length a3)] 24, rwt aaa 46 3 e8 e9 f0 (a8 ++ ([(([98, 114, 97, 110, 99, 104] : Str), a0.2.2.2.1, true)] : List (Str × Str × Bool)))] h8 := d9
  refine wp 1 (wl (ql ?_))
  obtain rfl := oi b7
  exact ⟨(a8 ++ ([(([98, 114, 97, 110, 99, 104] : Str), a0.2.2.2.1, true)] : List (Str × Str × Bool)), e8, e9, f0), _, rfl, by kernel_rfl, (Hp.front (Hp.front d9 2 _ rfl) 2 _ rfl).kp, rfl⟩
  refine ck (ql ?_)
  obtain rfl := oi b7
  exact ⟨(a8, c4, b8, b9), _, rfl, by kernel_rfl, (Hp.front (Hp.front c9 1 _ rfl) 1 _ rfl).kp, rfl⟩
  rintro ⟨b2, c6, b4, b5⟩ k8 G ⟨d0, rfl⟩
  refine sr (wp 1 (bi hr fun f1 h9 hr => aad 71 #[] [(Vs b4 b2.length b5)] _ ent71 (by kernel_rfl) (by kernel_rfl) (anh b4 b2.length b5 h9 (hG.hp0 d0) rfl (d0.rdrw 1 rfl) (d0.rwcap 1 rfl)) ?_))
  rintro _ i0 ⟨i1, f2, f3, rfl, f4⟩
  have d1 : Hp w [] [rwt aaa 46 3 i1 f2 f3 f1, blk b1 [(str a0.1), (str a0.2.1), (Vi .i64 a0.2.2.1), (str a0.2.2.2.1), (Vs a2 a0.2.2.2.2.length a3)] 24, rwt aaa 46 3 c6 b4 b5 b2] i0 := Hp.callK (L1 := []) (L2 := [blk b1 [(str a0.1), (str a0.2.1), (Vi .i64 a0.2.2.1), (str a0.2.2.2.1), (Vs a2 a0.2.2.2.2.length a3)] 24, rwt aaa 46 3 c6 b4 b5 b2]) d0 f4; clear f4
  refine bi hr fun f5 i2 hr => wc ent70 d1 (aih f2 f1.length f3 i2 (hG.hp0 d1) rfl (d1.rdrw 0 rfl) (d1.rwcap 0 rfl)) fun i3 c0 => wp 5 (nq (cs (sr (wp 1 (aec f5.2 (0 : UInt8) (by kernel_rfl) (by kernel_rfl) ?_)))))
  refine nq (cn hr (fun i4 hr => ?_) (fun i4 hr => ?_))
  refine sr (wp 2 (nq (ct (st ?_))))
  obtain rfl := oi hr
  exact rv c0.kp
  refine ck (qn (bi hr fun i5 a7 hr => cut (σ := Str) [1, 2, 3, 4, 9] (fun c1 => [(4, (str c1))]) (fun c1 w' => Hp w [] [blk b1 [(str a0.1), (str a0.2.1), (Vi .i64 a0.2.2.1), (str a0.2.2.2.1), (Vs a2 a0.2.2.2.2.length a3)] 24] w' ∧ c1 = i5) ?_ ?_))
  refine sr (wp 1 (aav c0 1 b1 2 [(str a0.1), (str a0.2.1), (Vi .i64 a0.2.2.1), (str a0.2.2.2.1), (Vs a2 a0.2.2.2.2.length a3)] 24 (Vi .i64 a0.2.2.1) rfl rfl (by kernel_rfl) (by kernel_rfl) (wp 1 (nq (cn a7 (fun i6 a7 => ?_) (fun i6 a7 => ?_))))))
  refine cr (wp 2 (aav c0 1 b1 2 [(str a0.1), (str a0.2.1), (Vi .i64 a0.2.2.1), (str a0.2.2.2.1), (Vs a2 a0.2.2.2.2.length a3)] 24 (Vi .i64 a0.2.2.1) rfl rfl (by kernel_rfl) (by kernel_rfl) (gi a7 fun i7 a7 => aad 72 #[] [(Vi .i64 a0.2.2.1)] _ ent72 (by kernel_rfl) (by kernel_rfl) (sh_Itoa a0.2.2.1 i3 i7 (hG.hp0 c0)) ?_)))
  rintro _ k9 ⟨rfl, f6⟩
  have i9 := c0.call f6; clear f6
  refine gi a7 fun j0 a7 => abn ([58] : Str) (Lib.itoa a0.2.2.1) (by kernel_rfl) (by kernel_rfl) j0 (gi a7 fun j1 a7 => abn y4.1 (([58] : Str) ++ (Lib.itoa a0.2.2.1)) (by kernel_rfl) (by kernel_rfl) j1 (wp 1 (wl (ql ?_))))
  obtain rfl := oi a7
  exact ⟨y4.1 ++ (([58] : Str) ++ (Lib.itoa a0.2.2.1)), _, rfl, by kernel_rfl, (Hp.front i9 1 _ rfl).kp, rfl⟩
  refine ck (ql ?_)
  obtain rfl := oi a7
  exact ⟨y4.1, _, rfl, by kernel_rfl, (Hp.front c0 1 _ rfl).kp, rfl⟩
  rintro c1 l0 G ⟨e0, rfl⟩
  refine sr (wp 1 (aav e0 0 b1 0 [(str a0.1), (str a0.2.1), (Vi .i64 a0.2.2.1), (str a0.2.2.2.1), (Vs a2 a0.2.2.2.2.length a3)] 24 (str a0.1) rfl rfl (by kernel_rfl) (by kernel_rfl) (bi hr fun d2 j2 hr => wc ent52 e0 (aeo j2 (hG.hp0 e0)) fun l1 j3 => gi hr fun j4 hr => abn ([83, 73, 80, 47, 50, 46, 48, 47] : Str) d2 (by kernel_rfl) (by kernel_rfl) j4 (gi hr fun j5 hr => abn (([83, 73, 80, 47, 50, 46, 48, 47] : Str) ++ d2) ([32] : Str) (by kernel_rfl) (by kernel_rfl) j5 ?_))))
  refine wp 1 (gi hr fun j6 hr => abn ((([83, 73, 80, 47, 50, 46, 48, 47] : Str) ++ d2) ++ ([32] : Str)) c1 (by kernel_rfl) (by kernel_rfl) j6 (wp 1 (gi hr fun j7 hr => abn (((([83, 73, 80, 47, 50, 46, 48, 47] : Str) ++ d2) ++ ([32] : Str)) ++ c1) f5.1 (by kernel_rfl) (by kernel_rfl) j7 (wp 2 (nq (ct ?_))))))
  obtain rfl := oi hr
  exact rv j3.kp
theorem aml {fu : Nat} {s_0 : Str} {w : World} {r : (Int × Str × UInt8)} (hr : agi fu s_0 = some r) (hG : Gl w) : CR Tryz.prog 86 [(str s_0)] w fun v w' => v = (Value.tuple #[(Vi .i64 r.1), (str r.2.1), (bt r.2.2)]) ∧ Hp w [] [] w' := by
  have hH : Hp w [] [] w := Hp.refl w
  refine enter (k := 28) Tryz.func86 rfl rfl (Nat.le_of_ble_eq_true rfl) ?_
  unfold agi at hr
  refine sr (wp 3 (nq (sr (wp 1 (gi hr fun g4 hr => aad 56 #[] [(str s_0), (str ([32, 9] : Str))] _ ent56 (by kernel_rfl) (by kernel_rfl) (sh_IndexAny s_0 ([32, 9] : Str) w g4) ?_)))))
  rintro _ w1 ⟨rfl, a2⟩
  have a1 := hH.call a2; clear a2
  refine wp 1 (nq (bi hr fun v9 a0 hr => agq a1 [0, 2, 3, 4, 5] [(5, (Vi .i64 v9))] ?_ ?_))
  refine sr (wp 2 (nq (cd a0 (fun a6 a0 => ?_) (fun a6 a0 => ?_))))
  refine cr (wp 3 (wl (ql ?_)))
  obtain rfl := oi a0
  exact je a1.kp
  refine ck (ql ?_)
  obtain rfl := oi a0
  exact je a1.kp
  intro b3 G a3
  refine sr (wp 2 (gi hr fun a7 hr => akw s_0 .i64 v9 Tryz.underlying9 (by kernel_rfl) (by kernel_rfl) a7 (bi hr fun b4 a8 hr => wc ent58 a3 (ajw a8 (hG.hp0 a3)) fun b5 a9 => wp 5 (nq ?_))))
  refine cs (bi hr fun a4 b0 hr => gi hr fun b1 hr => cdr 9 a9 (adb acf) fun b6 a5 => rp 4 [0, 1, 2, 3, 6] (ro 4 rfl (wc ent55 a5 (ajx b0 (hG.hp0 a5)) fun b7 b2 => wl (abk (by exact trivial) (rt 5 (str (List.drop (Int.toNat a4) s_0)) rfl rfl (aai rfl (by intro w hS_; exact (amo s_0 .i64 a4 Tryz.underlying9 (by kernel_rfl) (by kernel_rfl) b1))) ?_)))))
  refine rp 0 [7, 8] (acw (by kernel_rfl) (wp 1 (nq (ct ?_))))
  obtain rfl := oi hr
  exact rv b2.kp
end Go.Proofs
