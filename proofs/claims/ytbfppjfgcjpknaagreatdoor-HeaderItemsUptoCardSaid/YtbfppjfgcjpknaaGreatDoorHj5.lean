/-
  The law HeaderItems holds, second form: for every text and every item of at most 1048576 values and letters the call returns true; no condition beyond the statement's own (part 5 of 7).
-/
import Derived.Test.YtbfppjfgcjpknaaGreatDoorHj4
import Derived.Test.YtbfppjfgcjpknaaGreatDoorProg
set_option linter.unusedVariables false
set_option linter.unusedSimpArgs false
set_option maxRecDepth 20000
set_option maxHeartbeats 1000000
namespace Go.Proofs
open Go.Wk Go.Px
open Go.Value renaming slice → Vs, int → Vi, bool → Vb, pointer → Vp
open Go.Value renaming agg → zam, func → zan, tuple → zal
open Int renaming toNat → zad
open List renaming flatMap → zai, length_take → zah, set → zak
open Nat renaming lt_succ_self → zac
theorem ent31 : Go.Wk.Enters Tryz.prog 31 := ⟨Tryz.f31, _, Tryz.func31, rfl, by kernel_rfl⟩
theorem ent34 : Go.Wk.Enters Tryz.prog 34 := ⟨Tryz.f34, _, Tryz.func34, rfl, by kernel_rfl⟩
theorem ent40 : Go.Wk.Enters Tryz.prog 40 := ⟨Tryz.f40, _, Tryz.func40, rfl, by kernel_rfl⟩
theorem ent50 : Go.Wk.Enters Tryz.prog 50 := ⟨Tryz.f50, _, Tryz.func50, rfl, by kernel_rfl⟩
theorem ent53 : Go.Wk.Enters Tryz.prog 53 := ⟨Tryz.f53, _, Tryz.func53, rfl, by kernel_rfl⟩
theorem ent70 : Go.Wk.Enters Tryz.prog 70 := ⟨Tryz.f70, _, Tryz.func70, rfl, by kernel_rfl⟩
theorem ent78 : Go.Wk.Enters Tryz.prog 78 := ⟨Tryz.f78, _, Tryz.func78, rfl, by kernel_rfl⟩
theorem ent79 : Go.Wk.Enters Tryz.prog 79 := ⟨Tryz.f79, _, Tryz.func79, rfl, by kernel_rfl⟩
theorem ent95 : Go.Wk.Enters Tryz.prog 95 := ⟨Tryz.f95, _, Tryz.func95, rfl, by kernel_rfl⟩
theorem ent99 : Go.Wk.Enters Tryz.prog 99 := ⟨Tryz.f99, _, Tryz.func99, rfl, by kernel_rfl⟩
theorem ent126 : Go.Wk.Enters Tryz.prog 126 := ⟨Tryz.f126, _, Tryz.func126, rfl, by kernel_rfl⟩
theorem ent127 : Go.Wk.Enters Tryz.prog 127 := ⟨Tryz.f127, _, Tryz.func127, rfl, by kernel_rfl⟩
theorem ent137 : Go.Wk.Enters Tryz.prog 137 := ⟨Tryz.f137, _, Tryz.func137, rfl, by kernel_rfl⟩
theorem ent155 : Go.Wk.Enters Tryz.prog 155 := ⟨Tryz.f155, _, Tryz.func155, rfl, by kernel_rfl⟩
theorem ent156 : Go.Wk.Enters Tryz.prog 156 := ⟨Tryz.f156, _, Tryz.func156, rfl, by kernel_rfl⟩
theorem apb {fu : Nat} {s_0 : Str} {b1 : Int} {w : World} {r : Str} (hr : alt fu s_0 b1 = some r) (hG : Gl w) : CR Tryz.prog 156 [(str s_0), (Vi .i64 b1)] w fun v w' => v = (str r) ∧ Hp w [] [] w' := by
  have hH : Hp w [] [] w := Hp.refl w
  refine enter (k := 42) Tryz.func156 rfl rfl nbe ?_
  unfold alt at hr
  refine sr (wp 1 (nq (sr (wp 2 (gi hr fun g1 hr => w_makeT (f := eB) hH 5 1 1 .i64 .i64 (s_0.length : Int) Tryz.underlying92 (by unfold TI; kernel_rfl) (by decide) krf krf g1 fun o2 a3 cap4 w5 c2 => ?_)))))
  refine wp 1 (nq (bi hr fun b6 c3 hr => cut (σ := (List UInt8) × (Option Nat) × (Option Addr) × Nat) [4, 5] (fun ⟨a4, b2, a9, b0⟩ => [(5, (Vs a9 a4.length b0))]) (fun ⟨a4, b2, a9, b0⟩ w' => Hp w [] [rwt eB 5 1 b2 a9 b0 a4] w' ∧ a4 = b6) ?_ ?_))
  refine sr (wp 3 (nq (ce (lpG (σ := Nat × (List UInt8) × Int × (Option Nat) × (Option Addr) × Nat) [0, 1, 4, 5, 11, 12] (fun ⟨a7, a2, a1, a8, a5, a6⟩ => [(5, (Vs a5 a2.length a6)), (12, (Vi .i64 a1))]) (fun ⟨a7, a2, a1, a8, a5, a6⟩ w' => Hp w [] [rwt eB 5 1 a8 a5 a6 a2] w' ∧ aiw fu s_0 b1 a7 a2 a1 = some b6) (fun ⟨a7, a2, a1, a8, a5, a6⟩ => a7) (fu, ([] : List UInt8), (0 : Int), o2, a3, cap4) (by exact ⟨c2.kp, c3⟩) ?_ (mc krf (mc krf (mc krf (mc (Eq.trans (b := (Vs a3 0 cap4)) krf (aaj lsy)) (mc krf (mc krf rfl))))))))))
  rintro ⟨_ | a7, a2, a1, a8, a5, a6⟩ d4 G ⟨b3, a0⟩
  · exact nzz a0
  rw [aiw.eq_2] at a0
  refine sr (wp 1 (nq (cs (cd a0 (fun c4 a0 => ?_) (fun c4 a0 => ?_)))))
  refine ck (qn (cs (ce (sr (wp 2 (nq (cs ?_)))))))
  refine cr (wp 2 (gi a0 fun c5 a0 => abp s_0 .i64 a1 Tryz.underlying9 krf krf c5 (wp 1 (bi a0 fun d5 c6 a0 => wc ent204 b3 (aop c6 (hG.hp0 b3)) fun d6 c7 => nq (cb a0 (fun c8 a0 => ?_) (fun c8 a0 => ?_))))))
  refine cr (wp 3 (gi a0 fun c9 a0 => abp s_0 .i64 a1 Tryz.underlying9 krf krf c9 (adx c7 [(bt (at_ s_0 a1))] 5 (fun b => (Vs (some ⟨b, 0, none⟩) 1 1)) rfl rfl krf fun b4 d7 b7 => gi a0 fun d0 a0 => adz b7 1 a8 a5 (some ⟨b4, 0, none⟩) a6 1 5 1 1 a2 ([at_ s_0 a1] : List UInt8) alj rfl Tryz.underlying92 (by unfold TI; kernel_rfl) (by decide) (by decide) krf (Eq.trans (b := (Vs (some ⟨b4, 0, none⟩) 1 1)) krf (aaj (by first | rfl | (simp; done) | omega | (simp; omega) | (rw [zah]; omega)))) (b7.rdblk 0 rfl) d0 fun b8 b9 c0 d1 b5 => ?_)))
  replace b5 : Hp w [] [blk b4 [(bt (at_ s_0 a1))] 5, rwt eB 5 1 b8 b9 c0 (a2 ++ ([at_ s_0 a1] : List UInt8))] d1 := b5
  refine wp 1 (wl (bn (qn (cr (gi a0 fun d2 a0 => aah a1 (1 : Int) krf krf d2 (wp 1 (wl (ql ?_))))))))
  exact ⟨(a7, a2 ++ ([at_ s_0 a1] : List UInt8), a1 + (1 : Int), b8, b9, c0), _, rfl, by kernel_rfl, ⟨(Hp.front b5 1 _ rfl).kp, a0⟩, zac _⟩
  exact nzz a0
  refine ace (acd (acq (acf (ql ?_))))
  obtain rfl := oi a0
  exact ⟨(a2, a8, a5, a6), _, rfl, by kernel_rfl, b3.kp, rfl⟩
  rintro ⟨a4, b2, a9, b0⟩ d3 G ⟨c1, rfl⟩
  refine sr (wp 1 (aey (v := (str a4)) (w' := d3) rfl rfl (apc a4 a9 a4.length b0 5 (Rd.bytes (c1.rdrw 0 rfl)) (by first | rfl | (simp; done) | omega | (simp; omega) | (rw [zah]; omega)) Tryz.underlying92 Tryz.underlying9 Tryz.underlying5 krf) (wp 1 (nq (ct ?_)))))
  obtain rfl := oi hr
  exact rv c1.kp
theorem K_L_address_Print {fu : Nat} {a0 : (Str × Str × Str × Int × (List (Str × Str × Bool)) × (List (Str × Str × Bool)))} (b0 : Option Addr) (e3 : Nat) (b2 : Nat) (b3 : Option Addr) (e4 : Nat) (b4 : Nat) {w : World} {r : (Str × UInt8)} (hr : aon fu a0 = some r) (hG : Gl w) (h8 : e3 = a0.2.2.2.2.1.length) (h9 : Rd w b0 (zai aaa a0.2.2.2.2.1)) (i0 : e3 ≤ b2) (i1 : e4 = a0.2.2.2.2.2.length) (i2 : Rd w b3 (zai aaa a0.2.2.2.2.2)) (i3 : e4 ≤ b4) : CR Tryz.prog 95 [(zam #[(str a0.1), (str a0.2.1), (str a0.2.2.1), (Vi .i64 a0.2.2.2.1), (Vs b0 e3 b2), (Vs b3 e4 b4)])] w fun v w' => v = (zal #[(str r.1), (bt r.2)]) ∧ Hp w [] [] w' := by
  subst h8
  subst i1
  have hH : Hp w [] [] w := Hp.refl w
  refine enter (k := 91) Tryz.func95 rfl rfl nbe ?_
  unfold aon at hr
  refine sr (adx hH [(str a0.1), (str a0.2.1), (str a0.2.2.1), (Vi .i64 a0.2.2.2.1), (Vs b0 a0.2.2.2.2.1.length b2), (Vs b3 a0.2.2.2.2.2.length b4)] 68 (fun b => (Vp (some ⟨b, 0, none⟩))) rfl rfl krf fun b1 w2 d6 => wp 2 (nq (sr (aob d6 0 b1 0 6 [(str a0.1), (str a0.2.1), (str a0.2.2.1), (Vi .i64 a0.2.2.2.1), (Vs b0 a0.2.2.2.2.1.length b2), (Vs b3 a0.2.2.2.2.2.length b4)] [(str a0.1), (str a0.2.1), (str a0.2.2.1), (Vi .i64 a0.2.2.2.1), (Vs b0 a0.2.2.2.2.1.length b2), (Vs b3 a0.2.2.2.2.2.length b4)] 68 rfl rfl rfl krf krf krf (bi hr fun y4 i4 hr => ?_)))))
  refine aat 155 #[] [(zam #[(str a0.1), (str a0.2.1), (str a0.2.2.1), (Vi .i64 a0.2.2.2.1), (Vs b0 a0.2.2.2.2.1.length b2), (Vs b3 a0.2.2.2.2.2.length b4)])] _ ent155 krf krf (K_L_address_Normal b0 a0.2.2.2.2.1.length b2 b3 a0.2.2.2.2.2.length b4 i4 (hG.hp0 d6) rfl (h9.hp d6) i0 rfl (i2.hp d6) i3) ?_
  rintro _ w6 ⟨o9, a1, a2, a8, a3, a4, rfl, f8⟩
  have i5 : Hp w [] [rwt aaa 46 3 o9 a1 a2 y4.1.2.2.2.2.1, rwt aaa 46 3 a8 a3 a4 y4.1.2.2.2.2.2, blk b1 [(str a0.1), (str a0.2.1), (str a0.2.2.1), (Vi .i64 a0.2.2.2.1), (Vs b0 a0.2.2.2.2.1.length b2), (Vs b3 a0.2.2.2.2.2.length b4)] 68] w6 := Hp.callK (L1 := []) (L2 := [blk b1 [(str a0.1), (str a0.2.1), (str a0.2.2.1), (Vi .i64 a0.2.2.2.1), (Vs b0 a0.2.2.2.2.1.length b2), (Vs b3 a0.2.2.2.2.2.length b4)] 68]) d6 f8; clear f8
  refine wp 3 (adx i5 [(str ([] : Str)), (str ([] : Str)), (str ([] : Str)), (Vi .i64 (0 : Int)), (Vs none 0 0), (Vs none 0 0)] 68 (fun b => (Vp (some ⟨b, 0, none⟩))) rfl rfl krf fun a7 m5 i6 => ahl i6 0 a7 0 [(str ([] : Str)), (str ([] : Str)), (str ([] : Str)), (Vi .i64 (0 : Int)), (Vs none 0 0), (Vs none 0 0)] [(str y4.1.1), (str y4.1.2.1), (str y4.1.2.2.1), (Vi .i64 y4.1.2.2.2.1), (Vs a1 y4.1.2.2.2.2.1.length a2), (Vs a3 y4.1.2.2.2.2.2.length a4)] 68 [blk a7 [(str y4.1.1), (str y4.1.2.1), (str y4.1.2.2.1), (Vi .i64 y4.1.2.2.2.1), (Vs a1 y4.1.2.2.2.2.1.length a2), (Vs a3 y4.1.2.2.2.2.2.length a4)] 68, rwt aaa 46 3 o9 a1 a2 y4.1.2.2.2.2.1, rwt aaa 46 3 a8 a3 a4 y4.1.2.2.2.2.2, blk b1 [(str a0.1), (str a0.2.1), (str a0.2.2.1), (Vi .i64 a0.2.2.2.1), (Vs b0 a0.2.2.2.2.1.length b2), (Vs b3 a0.2.2.2.2.2.length b4)] 68] rfl nbe krf krf rfl krf rfl fun m6 i7 => wp 1 (nq (cs (sr (wp 1 ?_)))))
  refine afs y4.2 (0 : UInt8) krf krf (nq (cn hr (fun i9 hr => ?_) (fun i9 hr => ?_)))
  exact nzz hr
  refine ck (qn (sr (adx i7 [(Vp none), (Vs none 0 0)] 131 (fun b => (Vp (some ⟨b, 0, none⟩))) rfl rfl krf fun a5 f9 g0 => nq (sr (wp 1 ?_)))))
  refine acr g0 1 a7 0 [(str y4.1.1), (str y4.1.2.1), (str y4.1.2.2.1), (Vi .i64 y4.1.2.2.2.1), (Vs a1 y4.1.2.2.2.2.1.length a2), (Vs a3 y4.1.2.2.2.2.2.length a4)] 68 (str y4.1.1) rfl rfl krf krf (gi hr fun j0 hr => aej y4.1.1 ([58] : Str) krf krf j0 ?_)
  have e5 := g0.nilrw eB 5 1 none
  replace e5 : Hp w [] [rwt eB 5 1 none none 0 ([] : List UInt8), blk a5 [(Vp none), (Vs none 0 0)] 131, blk a7 [(str y4.1.1), (str y4.1.2.1), (str y4.1.2.2.1), (Vi .i64 y4.1.2.2.2.1), (Vs a1 y4.1.2.2.2.2.1.length a2), (Vs a3 y4.1.2.2.2.2.2.length a4)] 68, rwt aaa 46 3 o9 a1 a2 y4.1.2.2.2.2.1, rwt aaa 46 3 a8 a3 a4 y4.1.2.2.2.2.2, blk b1 [(str a0.1), (str a0.2.1), (str a0.2.2.1), (Vi .i64 a0.2.2.2.1), (Vs b0 a0.2.2.2.2.1.length b2), (Vs b3 a0.2.2.2.2.2.length b4)] 68] f9 := e5
  refine bi hr fun c4 j1 hr => ?_
  have d8 : Hp w [] [blk a5 [(Vp none), (Vs none 0 0)] 131, rwt eB 5 1 none none 0 ([] : List UInt8), blk a7 [(str y4.1.1), (str y4.1.2.1), (str y4.1.2.2.1), (Vi .i64 y4.1.2.2.2.1), (Vs a1 y4.1.2.2.2.2.1.length a2), (Vs a3 y4.1.2.2.2.2.2.length a4)] 68, rwt aaa 46 3 o9 a1 a2 y4.1.2.2.2.2.1, rwt aaa 46 3 a8 a3 a4 y4.1.2.2.2.2.2, blk b1 [(str a0.1), (str a0.2.1), (str a0.2.2.1), (Vi .i64 a0.2.2.2.1), (Vs b0 a0.2.2.2.2.1.length b2), (Vs b3 a0.2.2.2.2.2.length b4)] 68] f9 := e5.front 1 _ rfl
  refine aat 126 #[] [(Vp (some ⟨a5, 0, none⟩)), (str (y4.1.1 ++ ([58] : Str)))] _ ent126 krf krf (ade a5 false none none 0 j1 (hG.hp0 d8) (d8.hand (L1 := [blk a5 [(Vp none), (Vs none 0 0)] 131, rwt eB 5 1 none none 0 ([] : List UInt8)]) (L2 := [blk a7 [(str y4.1.1), (str y4.1.2.1), (str y4.1.2.2.1), (Vi .i64 y4.1.2.2.2.1), (Vs a1 y4.1.2.2.2.2.1.length a2), (Vs a3 y4.1.2.2.2.2.2.length a4)] 68, rwt aaa 46 3 o9 a1 a2 y4.1.2.2.2.2.1, rwt aaa 46 3 a8 a3 a4 y4.1.2.2.2.2.2, blk b1 [(str a0.1), (str a0.2.1), (str a0.2.2.1), (Vi .i64 a0.2.2.2.1), (Vs b0 a0.2.2.2.2.1.length b2), (Vs b3 a0.2.2.2.2.2.length b4)] 68])) (d8.highs hG (fun _ h => absurd h (by simp)) 2 rfl)) ?_
  rintro _ j2 ⟨d1, c2, c3, rfl, g1⟩
  have d3 : Hp w [] [blk a5 [(Vp (some ⟨a5, 0, none⟩)), (Vs c2 c4.2.2.2.length c3)] 131, rwt eB 5 1 d1 c2 c3 c4.2.2.2, blk a7 [(str y4.1.1), (str y4.1.2.1), (str y4.1.2.2.1), (Vi .i64 y4.1.2.2.2.1), (Vs a1 y4.1.2.2.2.2.1.length a2), (Vs a3 y4.1.2.2.2.2.2.length a4)] 68, rwt aaa 46 3 o9 a1 a2 y4.1.2.2.2.2.1, rwt aaa 46 3 a8 a3 a4 y4.1.2.2.2.2.2, blk b1 [(str a0.1), (str a0.2.1), (str a0.2.2.1), (Vi .i64 a0.2.2.2.1), (Vs b0 a0.2.2.2.2.1.length b2), (Vs b3 a0.2.2.2.2.2.length b4)] 68] j2 := Hp.callK (L1 := [blk a5 [(Vp none), (Vs none 0 0)] 131, rwt eB 5 1 none none 0 ([] : List UInt8)]) (L2 := [blk a7 [(str y4.1.1), (str y4.1.2.1), (str y4.1.2.2.1), (Vi .i64 y4.1.2.2.2.1), (Vs a1 y4.1.2.2.2.2.1.length a2), (Vs a3 y4.1.2.2.2.2.2.length a4)] 68, rwt aaa 46 3 o9 a1 a2 y4.1.2.2.2.2.1, rwt aaa 46 3 a8 a3 a4 y4.1.2.2.2.2.2, blk b1 [(str a0.1), (str a0.2.1), (str a0.2.2.1), (Vi .i64 a0.2.2.2.1), (Vs b0 a0.2.2.2.2.1.length b2), (Vs b3 a0.2.2.2.2.2.length b4)] 68]) d8 g1; clear g1
  refine nq (bi hr fun j3 b8 hr => cut (σ := (List UInt8) × (Option Nat) × (Option Addr) × Nat) [2, 3, 4, 6] (fun ⟨b9, d0, c0, c1⟩ => []) (fun ⟨b9, d0, c0, c1⟩ w' => Hp w [] [blk a5 [(Vp (some ⟨a5, 0, none⟩)), (Vs c0 b9.length c1)] 131, blk a7 [(str y4.1.1), (str y4.1.2.1), (str y4.1.2.2.1), (Vi .i64 y4.1.2.2.2.1), (Vs a1 y4.1.2.2.2.2.1.length a2), (Vs a3 y4.1.2.2.2.2.2.length a4)] 68, rwt aaa 46 3 o9 a1 a2 y4.1.2.2.2.2.1, rwt aaa 46 3 a8 a3 a4 y4.1.2.2.2.2.2, rwt eB 5 1 d0 c0 c1 b9] w' ∧ b9 = j3) ?_ ?_)
  refine sr (wp 1 (acr d3 2 a7 0 [(str y4.1.1), (str y4.1.2.1), (str y4.1.2.2.1), (Vi .i64 y4.1.2.2.2.1), (Vs a1 y4.1.2.2.2.2.1.length a2), (Vs a3 y4.1.2.2.2.2.2.length a4)] 68 (str y4.1.1) rfl rfl krf krf (wp 1 (nq (cd b8 (fun j4 b8 => ?_) (fun j4 b8 => ?_))))))
  exact nzz b8
  refine sr (wp 1 (acr d3 2 a7 1 [(str y4.1.1), (str y4.1.2.1), (str y4.1.2.2.1), (Vi .i64 y4.1.2.2.2.1), (Vs a1 y4.1.2.2.2.2.1.length a2), (Vs a3 y4.1.2.2.2.2.2.length a4)] 68 (str y4.1.2.1) rfl rfl krf krf (wp 1 (nq (cn b8 (fun j5 b8 => ?_) (fun j5 b8 => ?_))))))
  refine cr (wp 1 (acr d3 2 a7 1 [(str y4.1.1), (str y4.1.2.1), (str y4.1.2.2.1), (Vi .i64 y4.1.2.2.2.1), (Vs a1 y4.1.2.2.2.2.1.length a2), (Vs a3 y4.1.2.2.2.2.2.length a4)] 68 (str y4.1.2.1) rfl rfl krf krf (bi b8 fun g2 j6 b8 => wc ent156 d3 (apb j6 (hG.hp0 d3)) fun g3 j7 => gi b8 fun j8 b8 => aej g2 ([64] : Str) krf krf j8 (bi b8 fun e6 j9 b8 => ?_))))
  have k0 : Hp w [] [rwt eB 5 1 d1 c2 c3 c4.2.2.2, blk a5 [(Vp (some ⟨a5, 0, none⟩)), (Vs c2 c4.2.2.2.length c3)] 131, blk a7 [(str y4.1.1), (str y4.1.2.1), (str y4.1.2.2.1), (Vi .i64 y4.1.2.2.2.1), (Vs a1 y4.1.2.2.2.2.1.length a2), (Vs a3 y4.1.2.2.2.2.2.length a4)] 68, rwt aaa 46 3 o9 a1 a2 y4.1.2.2.2.2.1, rwt aaa 46 3 a8 a3 a4 y4.1.2.2.2.2.2, blk b1 [(str a0.1), (str a0.2.1), (str a0.2.2.1), (Vi .i64 a0.2.2.2.1), (Vs b0 a0.2.2.2.2.1.length b2), (Vs b3 a0.2.2.2.2.2.length b4)] 68] g3 := j7.front 1 _ rfl
  have d9 : Hp w [] [blk a5 [(Vp (some ⟨a5, 0, none⟩)), (Vs c2 c4.2.2.2.length c3)] 131, rwt eB 5 1 d1 c2 c3 c4.2.2.2, blk a7 [(str y4.1.1), (str y4.1.2.1), (str y4.1.2.2.1), (Vi .i64 y4.1.2.2.2.1), (Vs a1 y4.1.2.2.2.2.1.length a2), (Vs a3 y4.1.2.2.2.2.2.length a4)] 68, rwt aaa 46 3 o9 a1 a2 y4.1.2.2.2.2.1, rwt aaa 46 3 a8 a3 a4 y4.1.2.2.2.2.2, blk b1 [(str a0.1), (str a0.2.1), (str a0.2.2.1), (Vi .i64 a0.2.2.2.1), (Vs b0 a0.2.2.2.2.1.length b2), (Vs b3 a0.2.2.2.2.2.length b4)] 68] g3 := k0.front 1 _ rfl
  refine aat 126 #[] [(Vp (some ⟨a5, 0, none⟩)), (str (g2 ++ ([64] : Str)))] _ ent126 krf krf (ade a5 true d1 c2 c3 j9 (hG.hp0 d9) (d9.hand (L1 := [blk a5 [(Vp (some ⟨a5, 0, none⟩)), (Vs c2 c4.2.2.2.length c3)] 131, rwt eB 5 1 d1 c2 c3 c4.2.2.2]) (L2 := [blk a7 [(str y4.1.1), (str y4.1.2.1), (str y4.1.2.2.1), (Vi .i64 y4.1.2.2.2.1), (Vs a1 y4.1.2.2.2.2.1.length a2), (Vs a3 y4.1.2.2.2.2.2.length a4)] 68, rwt aaa 46 3 o9 a1 a2 y4.1.2.2.2.2.1, rwt aaa 46 3 a8 a3 a4 y4.1.2.2.2.2.2, blk b1 [(str a0.1), (str a0.2.1), (str a0.2.2.1), (Vi .i64 a0.2.2.2.1), (Vs b0 a0.2.2.2.2.1.length b2), (Vs b3 a0.2.2.2.2.2.length b4)] 68])) (d9.highs hG (fun _ h => absurd h (by simp)) 2 rfl)) ?_
  rintro _ k1 ⟨g4, e7, e8, rfl, g5⟩
  have k2 : Hp w [] [blk a5 [(Vp (some ⟨a5, 0, none⟩)), (Vs e7 e6.2.2.2.length e8)] 131, rwt eB 5 1 g4 e7 e8 e6.2.2.2, blk a7 [(str y4.1.1), (str y4.1.2.1), (str y4.1.2.2.1), (Vi .i64 y4.1.2.2.2.1), (Vs a1 y4.1.2.2.2.2.1.length a2), (Vs a3 y4.1.2.2.2.2.2.length a4)] 68, rwt aaa 46 3 o9 a1 a2 y4.1.2.2.2.2.1, rwt aaa 46 3 a8 a3 a4 y4.1.2.2.2.2.2, blk b1 [(str a0.1), (str a0.2.1), (str a0.2.2.1), (Vi .i64 a0.2.2.2.1), (Vs b0 a0.2.2.2.2.1.length b2), (Vs b3 a0.2.2.2.2.2.length b4)] 68] k1 := Hp.callK (L1 := [blk a5 [(Vp (some ⟨a5, 0, none⟩)), (Vs c2 c4.2.2.2.length c3)] 131, rwt eB 5 1 d1 c2 c3 c4.2.2.2]) (L2 := [blk a7 [(str y4.1.1), (str y4.1.2.1), (str y4.1.2.2.1), (Vi .i64 y4.1.2.2.2.1), (Vs a1 y4.1.2.2.2.2.1.length a2), (Vs a3 y4.1.2.2.2.2.2.length a4)] 68, rwt aaa 46 3 o9 a1 a2 y4.1.2.2.2.2.1, rwt aaa 46 3 a8 a3 a4 y4.1.2.2.2.2.2, blk b1 [(str a0.1), (str a0.2.1), (str a0.2.2.1), (Vi .i64 a0.2.2.2.1), (Vs b0 a0.2.2.2.2.1.length b2), (Vs b3 a0.2.2.2.2.2.length b4)] 68]) d9 g5; clear g5
  refine wl (ql ?_)
  obtain rfl := oi b8
  exact ⟨(e6.2.2.2, g4, e7, e8), _, rfl, by kernel_rfl, (Hp.front (Hp.front (Hp.front (Hp.front (Hp.front k2 1 _ rfl) 4 _ rfl) 4 _ rfl) 4 _ rfl) 4 _ rfl).kp, rfl⟩
  refine ck (ql ?_)
  obtain rfl := oi b8
  exact ⟨(c4.2.2.2, d1, c2, c3), _, rfl, by kernel_rfl, (Hp.front (Hp.front (Hp.front (Hp.front (Hp.front d3 1 _ rfl) 4 _ rfl) 4 _ rfl) 4 _ rfl) 4 _ rfl).kp, rfl⟩
  rintro ⟨b9, d0, c0, c1⟩ g6 G ⟨g7, rfl⟩
  refine sr (wp 1 (acr g7 1 a7 2 [(str y4.1.1), (str y4.1.2.1), (str y4.1.2.2.1), (Vi .i64 y4.1.2.2.2.1), (Vs a1 y4.1.2.2.2.2.1.length a2), (Vs a3 y4.1.2.2.2.2.2.length a4)] 68 (str y4.1.2.2.1) rfl rfl krf krf (bi hr fun e9 k3 hr => ?_)))
  have k4 : Hp w [] [rwt eB 5 1 d0 c0 c1 b9, blk a5 [(Vp (some ⟨a5, 0, none⟩)), (Vs c0 b9.length c1)] 131, blk a7 [(str y4.1.1), (str y4.1.2.1), (str y4.1.2.2.1), (Vi .i64 y4.1.2.2.2.1), (Vs a1 y4.1.2.2.2.2.1.length a2), (Vs a3 y4.1.2.2.2.2.2.length a4)] 68, rwt aaa 46 3 o9 a1 a2 y4.1.2.2.2.2.1, rwt aaa 46 3 a8 a3 a4 y4.1.2.2.2.2.2] g6 := g7.front 4 _ rfl
  have e0 : Hp w [] [blk a5 [(Vp (some ⟨a5, 0, none⟩)), (Vs c0 b9.length c1)] 131, rwt eB 5 1 d0 c0 c1 b9, blk a7 [(str y4.1.1), (str y4.1.2.1), (str y4.1.2.2.1), (Vi .i64 y4.1.2.2.2.1), (Vs a1 y4.1.2.2.2.2.1.length a2), (Vs a3 y4.1.2.2.2.2.2.length a4)] 68, rwt aaa 46 3 o9 a1 a2 y4.1.2.2.2.2.1, rwt aaa 46 3 a8 a3 a4 y4.1.2.2.2.2.2] g6 := k4.front 1 _ rfl
  refine aat 126 #[] [(Vp (some ⟨a5, 0, none⟩)), (str y4.1.2.2.1)] _ ent126 krf krf (ade a5 true d0 c0 c1 k3 (hG.hp0 e0) (e0.hand (L1 := [blk a5 [(Vp (some ⟨a5, 0, none⟩)), (Vs c0 b9.length c1)] 131, rwt eB 5 1 d0 c0 c1 b9]) (L2 := [blk a7 [(str y4.1.1), (str y4.1.2.1), (str y4.1.2.2.1), (Vi .i64 y4.1.2.2.2.1), (Vs a1 y4.1.2.2.2.2.1.length a2), (Vs a3 y4.1.2.2.2.2.2.length a4)] 68, rwt aaa 46 3 o9 a1 a2 y4.1.2.2.2.2.1, rwt aaa 46 3 a8 a3 a4 y4.1.2.2.2.2.2])) (e0.highs hG (fun _ h => absurd h (by simp)) 2 rfl)) ?_
  rintro _ k5 ⟨g8, f0, f1, rfl, g9⟩
  have f2 : Hp w [] [blk a5 [(Vp (some ⟨a5, 0, none⟩)), (Vs f0 e9.2.2.2.length f1)] 131, rwt eB 5 1 g8 f0 f1 e9.2.2.2, blk a7 [(str y4.1.1), (str y4.1.2.1), (str y4.1.2.2.1), (Vi .i64 y4.1.2.2.2.1), (Vs a1 y4.1.2.2.2.2.1.length a2), (Vs a3 y4.1.2.2.2.2.2.length a4)] 68, rwt aaa 46 3 o9 a1 a2 y4.1.2.2.2.2.1, rwt aaa 46 3 a8 a3 a4 y4.1.2.2.2.2.2] k5 := Hp.callK (L1 := [blk a5 [(Vp (some ⟨a5, 0, none⟩)), (Vs c0 b9.length c1)] 131, rwt eB 5 1 d0 c0 c1 b9]) (L2 := [blk a7 [(str y4.1.1), (str y4.1.2.1), (str y4.1.2.2.1), (Vi .i64 y4.1.2.2.2.1), (Vs a1 y4.1.2.2.2.2.1.length a2), (Vs a3 y4.1.2.2.2.2.2.length a4)] 68, rwt aaa 46 3 o9 a1 a2 y4.1.2.2.2.2.1, rwt aaa 46 3 a8 a3 a4 y4.1.2.2.2.2.2]) e0 g9; clear g9
  refine nq (cs (sr (wp 1 (acr f2 2 a7 3 [(str y4.1.1), (str y4.1.2.1), (str y4.1.2.2.1), (Vi .i64 y4.1.2.2.2.1), (Vs a1 y4.1.2.2.2.2.1.length a2), (Vs a3 y4.1.2.2.2.2.2.length a4)] 68 (Vi .i64 y4.1.2.2.2.1) rfl rfl krf krf (wp 1 (nq (cn hr (fun k6 hr => ?_) (fun k6 hr => ?_))))))))
  exact nzz hr
  refine ck (qn (bi hr fun h0 k7 hr => cut (σ := (List UInt8) × (Option Nat) × (Option Addr) × Nat) [2, 3, 4, 6] (fun ⟨c6, d4, c7, c8⟩ => []) (fun ⟨c6, d4, c7, c8⟩ w' => Hp w [] [blk a5 [(Vp (some ⟨a5, 0, none⟩)), (Vs c7 c6.length c8)] 131, blk a7 [(str y4.1.1), (str y4.1.2.1), (str y4.1.2.2.1), (Vi .i64 y4.1.2.2.2.1), (Vs a1 y4.1.2.2.2.2.1.length a2), (Vs a3 y4.1.2.2.2.2.2.length a4)] 68, rwt aaa 46 3 o9 a1 a2 y4.1.2.2.2.2.1, rwt aaa 46 3 a8 a3 a4 y4.1.2.2.2.2.2, rwt eB 5 1 d4 c7 c8 c6] w' ∧ c6 = h0) ?_ ?_))
  refine sr (wp 1 (acr f2 2 a7 4 [(str y4.1.1), (str y4.1.2.1), (str y4.1.2.2.1), (Vi .i64 y4.1.2.2.2.1), (Vs a1 y4.1.2.2.2.2.1.length a2), (Vs a3 y4.1.2.2.2.2.2.length a4)] 68 (Vs a1 y4.1.2.2.2.2.1.length a2) rfl rfl krf krf (wp 2 (nq (ce (lpG (σ := Nat × Int × (List UInt8) × (Option Nat) × (Option Addr) × Nat) [2, 3, 4, 6, 49, 50, 51] (fun ⟨d5, a6, b5, c5, b6, b7⟩ => [(51, (Vi .i64 a6))]) (fun ⟨d5, a6, b5, c5, b6, b7⟩ w' => Hp w [] [blk a5 [(Vp (some ⟨a5, 0, none⟩)), (Vs b6 b5.length b7)] 131, blk a7 [(str y4.1.1), (str y4.1.2.1), (str y4.1.2.2.1), (Vi .i64 y4.1.2.2.2.1), (Vs a1 y4.1.2.2.2.2.1.length a2), (Vs a3 y4.1.2.2.2.2.2.length a4)] 68, rwt aaa 46 3 o9 a1 a2 y4.1.2.2.2.2.1, rwt aaa 46 3 a8 a3 a4 y4.1.2.2.2.2.2, rwt eB 5 1 c5 b6 b7 b5] w' ∧ aju fu y4 d5 a6 b5 = some h0) (fun ⟨d5, a6, b5, c5, b6, b7⟩ => d5) (fu, (0 : Int), e9.2.2.2, g8, f0, f1) (by exact ⟨(Hp.front (Hp.front (Hp.front (Hp.front (Hp.front f2 1 _ rfl) 4 _ rfl) 4 _ rfl) 4 _ rfl) 4 _ rfl).kp, k7⟩) ?_))))))
  rintro ⟨_ | d5, a6, b5, c5, b6, b7⟩ m7 G ⟨e1, a9⟩
  · exact nzz a9
  rw [aju.eq_2] at a9
  refine sr (wp 1 (nq (cs (cd a9 (fun k8 a9 => ?_) (fun k8 a9 => ?_)))))
  refine ck (qn (cs (ce (sr (gi a9 fun k9 a9 => ahu a1 y4.1.2.2.2.2.1.length a2 46 3 .i64 a6 Tryz.underlying22 krf krf krf y4.1.2.2.2.2.1 rfl k9 (e1.rdrw 2 rfl) aab (by decide) (gi a9 fun l0 a9 => aiy a1 aaa y4.1.2.2.2.2.1 3 a6 aab (e1.rdrw 2 rfl) [(str ((el y4.1.2.2.2.2.1 a6).1)), (str ((el y4.1.2.2.2.2.1 a6).2.1)), (Vb ((el y4.1.2.2.2.2.1 a6).2.2))] l0 krf krf krf krf (by decide) ?_))))))
  refine adx e1 [(str ([] : Str)), (str ([] : Str)), (Vb false)] 46 (fun b => (Vp (some ⟨b, 0, none⟩))) rfl rfl krf fun c9 m8 l1 => ahl l1 0 c9 0 [(str ([] : Str)), (str ([] : Str)), (Vb false)] [(str ((el y4.1.2.2.2.2.1 a6).1)), (str ((el y4.1.2.2.2.2.1 a6).2.1)), (Vb ((el y4.1.2.2.2.2.1 a6).2.2))] 46 [blk c9 [(str ((el y4.1.2.2.2.2.1 a6).1)), (str ((el y4.1.2.2.2.2.1 a6).2.1)), (Vb ((el y4.1.2.2.2.2.1 a6).2.2))] 46, blk a5 [(Vp (some ⟨a5, 0, none⟩)), (Vs b6 b5.length b7)] 131, blk a7 [(str y4.1.1), (str y4.1.2.1), (str y4.1.2.2.1), (Vi .i64 y4.1.2.2.2.1), (Vs a1 y4.1.2.2.2.2.1.length a2), (Vs a3 y4.1.2.2.2.2.2.length a4)] 68, rwt aaa 46 3 o9 a1 a2 y4.1.2.2.2.2.1, rwt aaa 46 3 a8 a3 a4 y4.1.2.2.2.2.2, rwt eB 5 1 c5 b6 b7 b5] rfl nbe krf krf rfl krf rfl fun m9 f3 => nq (sr (wp 1 (acr f3 0 c9 0 [(str ((el y4.1.2.2.2.2.1 a6).1)), (str ((el y4.1.2.2.2.2.1 a6).2.1)), (Vb ((el y4.1.2.2.2.2.1 a6).2.2))] 46 (str ((el y4.1.2.2.2.2.1 a6).1)) rfl rfl krf krf (bi a9 fun h1 l2 a9 => wc ent156 f3 (apb l2 (hG.hp0 f3)) fun h2 l3 => ?_))))
  refine gi a9 fun l4 a9 => aej ([59] : Str) h1 krf krf l4 (bi a9 fun f4 l5 a9 => ?_)
  have l6 : Hp w [] [rwt eB 5 1 c5 b6 b7 b5, blk c9 [(str ((el y4.1.2.2.2.2.1 a6).1)), (str ((el y4.1.2.2.2.2.1 a6).2.1)), (Vb ((el y4.1.2.2.2.2.1 a6).2.2))] 46, blk a5 [(Vp (some ⟨a5, 0, none⟩)), (Vs b6 b5.length b7)] 131, blk a7 [(str y4.1.1), (str y4.1.2.1), (str y4.1.2.2.1), (Vi .i64 y4.1.2.2.2.1), (Vs a1 y4.1.2.2.2.2.1.length a2), (Vs a3 y4.1.2.2.2.2.2.length a4)] 68, rwt aaa 46 3 o9 a1 a2 y4.1.2.2.2.2.1, rwt aaa 46 3 a8 a3 a4 y4.1.2.2.2.2.2] h2 := l3.front 5 _ rfl
  have e2 : Hp w [] [blk a5 [(Vp (some ⟨a5, 0, none⟩)), (Vs b6 b5.length b7)] 131, rwt eB 5 1 c5 b6 b7 b5, blk c9 [(str ((el y4.1.2.2.2.2.1 a6).1)), (str ((el y4.1.2.2.2.2.1 a6).2.1)), (Vb ((el y4.1.2.2.2.2.1 a6).2.2))] 46, blk a7 [(str y4.1.1), (str y4.1.2.1), (str y4.1.2.2.1), (Vi .i64 y4.1.2.2.2.1), (Vs a1 y4.1.2.2.2.2.1.length a2), (Vs a3 y4.1.2.2.2.2.2.length a4)] 68, rwt aaa 46 3 o9 a1 a2 y4.1.2.2.2.2.1, rwt aaa 46 3 a8 a3 a4 y4.1.2.2.2.2.2] h2 := l6.front 2 _ rfl
  refine aat 126 #[] [(Vp (some ⟨a5, 0, none⟩)), (str (([59] : Str) ++ h1))] _ ent126 krf krf (ade a5 true c5 b6 b7 l5 (hG.hp0 e2) (e2.hand (L1 := [blk a5 [(Vp (some ⟨a5, 0, none⟩)), (Vs b6 b5.length b7)] 131, rwt eB 5 1 c5 b6 b7 b5]) (L2 := [blk c9 [(str ((el y4.1.2.2.2.2.1 a6).1)), (str ((el y4.1.2.2.2.2.1 a6).2.1)), (Vb ((el y4.1.2.2.2.2.1 a6).2.2))] 46, blk a7 [(str y4.1.1), (str y4.1.2.1), (str y4.1.2.2.1), (Vi .i64 y4.1.2.2.2.1), (Vs a1 y4.1.2.2.2.2.1.length a2), (Vs a3 y4.1.2.2.2.2.2.length a4)] 68, rwt aaa 46 3 o9 a1 a2 y4.1.2.2.2.2.1, rwt aaa 46 3 a8 a3 a4 y4.1.2.2.2.2.2])) (e2.highs hG (fun _ h => absurd h (by simp)) 2 rfl)) ?_
  rintro _ l7 ⟨h3, f5, f6, rfl, h4⟩
  have h5 : Hp w [] [blk a5 [(Vp (some ⟨a5, 0, none⟩)), (Vs f5 f4.2.2.2.length f6)] 131, rwt eB 5 1 h3 f5 f6 f4.2.2.2, blk c9 [(str ((el y4.1.2.2.2.2.1 a6).1)), (str ((el y4.1.2.2.2.2.1 a6).2.1)), (Vb ((el y4.1.2.2.2.2.1 a6).2.2))] 46, blk a7 [(str y4.1.1), (str y4.1.2.1), (str y4.1.2.2.1), (Vi .i64 y4.1.2.2.2.1), (Vs a1 y4.1.2.2.2.2.1.length a2), (Vs a3 y4.1.2.2.2.2.2.length a4)] 68, rwt aaa 46 3 o9 a1 a2 y4.1.2.2.2.2.1, rwt aaa 46 3 a8 a3 a4 y4.1.2.2.2.2.2] l7 := Hp.callK (L1 := [blk a5 [(Vp (some ⟨a5, 0, none⟩)), (Vs b6 b5.length b7)] 131, rwt eB 5 1 c5 b6 b7 b5]) (L2 := [blk c9 [(str ((el y4.1.2.2.2.2.1 a6).1)), (str ((el y4.1.2.2.2.2.1 a6).2.1)), (Vb ((el y4.1.2.2.2.2.1 a6).2.2))] 46, blk a7 [(str y4.1.1), (str y4.1.2.1), (str y4.1.2.2.1), (Vi .i64 y4.1.2.2.2.1), (Vs a1 y4.1.2.2.2.2.1.length a2), (Vs a3 y4.1.2.2.2.2.2.length a4)] 68, rwt aaa 46 3 o9 a1 a2 y4.1.2.2.2.2.1, rwt aaa 46 3 a8 a3 a4 y4.1.2.2.2.2.2]) e2 h4; clear h4
  refine nq (sr (wp 1 (acr h5 2 c9 2 [(str ((el y4.1.2.2.2.2.1 a6).1)), (str ((el y4.1.2.2.2.2.1 a6).2.1)), (Vb ((el y4.1.2.2.2.2.1 a6).2.2))] 46 (Vb ((el y4.1.2.2.2.2.1 a6).2.2)) rfl rfl krf krf (nq (cb a9 (fun l8 a9 => ?_) (fun l8 a9 => ?_))))))
  exact nzz a9
  refine ck (bn (qn (cr (gi a9 fun l9 a9 => aah a6 (1 : Int) krf krf l9 (wp 1 (wl (ql ?_)))))))
  exact ⟨(d5, a6 + (1 : Int), f4.2.2.2, h3, f5, f6), _, rfl, by kernel_rfl, ⟨(Hp.front (Hp.front (Hp.front (Hp.front (Hp.front h5 1 _ rfl) 5 _ rfl) 5 _ rfl) 5 _ rfl) 4 _ rfl).kp, a9⟩, zac _⟩
  refine ace (acd (acq (acf (ql ?_))))
  obtain rfl := oi a9
  exact ⟨(b5, c5, b6, b7), _, rfl, by kernel_rfl, (Hp.front (Hp.front (Hp.front (Hp.front (Hp.front e1 4 _ rfl) 4 _ rfl) 4 _ rfl) 4 _ rfl) 4 _ rfl).kp, rfl⟩
  rintro ⟨c6, d4, c7, c8⟩ n0 G ⟨h6, rfl⟩
  refine bi hr fun h7 m0 hr => cut (σ := Unit) [2, 3, 6] (fun f7 => []) (fun f7 w' => Hp w [] [blk a5 [(Vp (some ⟨a5, 0, none⟩)), (Vs c7 c6.length c8)] 131, rwt eB 5 1 d4 c7 c8 c6] w' ∧ f7 = h7) ?_ ?_
  refine sr (wp 1 (acr h6 1 a7 5 [(str y4.1.1), (str y4.1.2.1), (str y4.1.2.2.1), (Vi .i64 y4.1.2.2.2.1), (Vs a1 y4.1.2.2.2.2.1.length a2), (Vs a3 y4.1.2.2.2.2.2.length a4)] 68 (Vs a3 y4.1.2.2.2.2.2.length a4) rfl rfl krf krf (wp 2 (nq (ce (lpG (σ := Nat) [2, 3, 6, 69, 70, 71] (fun d7 => []) (fun d7 w' => Hp w [] [blk a5 [(Vp (some ⟨a5, 0, none⟩)), (Vs c7 c6.length c8)] 131, rwt aaa 46 3 a8 a3 a4 y4.1.2.2.2.2.2, rwt eB 5 1 d4 c7 c8 c6] w' ∧ alw fu y4 d7 = some h7) (fun d7 => d7) fu (by exact ⟨(Hp.front (Hp.front (Hp.front h6 4 _ rfl) 4 _ rfl) 2 _ rfl).kp, m0⟩) ?_))))))
  rintro (_ | d7) n1 G ⟨m1, d2⟩
  · exact nzz d2
  rw [alw.eq_2] at d2
  refine sr (wp 1 (nq (cs (cd d2 (fun m2 d2 => ?_) (fun m2 d2 => ?_)))))
  exact nzz d2
  refine ace (acd (acq (acf (ql ?_))))
  obtain rfl := oi d2
  exact ⟨(), _, rfl, by kernel_rfl, (Hp.front (Hp.front m1 2 _ rfl) 1 _ rfl).kp, rfl⟩
  rintro f7 n2 G ⟨m3, rfl⟩
  refine sr (gi hr fun n3 hr => aat 127 #[] [(Vp (some ⟨a5, 0, none⟩))] _ ent127 krf krf (sh_BString a5 true d4 c7 c8 c6 m3 0 1 rfl rfl (by decide)) ?_)
  rintro _ n4 ⟨rfl, m4⟩
  refine wp 2 (nq (ct ?_))
  obtain rfl := oi hr
  exact rv m4.kp
theorem amr {fu : Nat} {a1 : List (Str × Str × Bool)} (b9 : Option Addr) (d8 : Nat) (c2 : Nat) {w : World} {r : (Str × UInt8)} (hr : adq fu a1 = some r) (hG : Gl w) (g3 : d8 = a1.length) (d9 : Rd w b9 (zai aaa a1)) (f0 : d8 ≤ c2) : CR Tryz.prog 70 [(Vs b9 d8 c2)] w fun v w' => v = (zal #[(str r.1), (bt r.2)]) ∧ Hp w [] [] w' := by
  subst g3
  have hH : Hp w [] [] w := Hp.refl w
  refine enter (k := 89) Tryz.func70 rfl rfl nbe ?_
  unfold adq at hr
  refine sr (wp 2 (nq (cs (sr (wp 3 (wl ?_))))))
  refine qn (cd hr (fun h1 hr => ?_) (fun h1 hr => ?_))
  refine sr (wp 2 (nq (ct (st ?_))))
  obtain rfl := oi hr
  exact rv hH.kp
  refine ck (qn (sr (adx hH [(Vp none), (Vs none 0 0)] 131 (fun b => (Vp (some ⟨b, 0, none⟩))) rfl rfl krf fun b2 w3 g4 => nq (bi hr fun f1 g5 hr => cut (σ := (List UInt8) × Bool × (Option Nat) × (Option Addr) × Nat) [2, 3, 4] (fun ⟨c3, c8, c9, c6, c7⟩ => []) (fun ⟨c3, c8, c9, c6, c7⟩ w' => Hp w [] [blk b2 [(Vp (bif c8 then some ⟨b2, 0, none⟩ else none)), (Vs c6 c3.length c7)] 131, rwt eB 5 1 c9 c6 c7 c3] w' ∧ .inl c3 = f1) ?_ ?_))))
  refine sr (wp 3 (nq (ce (lpG (σ := Nat × Int × (List UInt8) × Bool × (Option Nat) × (Option Addr) × Nat) [0, 2, 3, 4, 15, 16, 17] (fun ⟨c0, a0, a5, b5, b6, a6, a7⟩ => [(17, (Vi .i64 a0))]) (fun ⟨c0, a0, a5, b5, b6, a6, a7⟩ w' => Hp w [] [blk b2 [(Vp (bif b5 then some ⟨b2, 0, none⟩ else none)), (Vs a6 a5.length a7)] 131, rwt eB 5 1 b6 a6 a7 a5] w' ∧ ack fu a1 c0 a0 a5 = some f1) (fun ⟨c0, a0, a5, b5, b6, a6, a7⟩ => c0) (fu, (0 : Int), ([] : List UInt8), false, none, none, 0) (by exact ⟨(Hp.front (Hp.nilrw g4 eB 5 1 none) 1 _ rfl).kp, g5⟩) ?_))))
  rintro ⟨_ | c0, a0, a5, b5, b6, a6, a7⟩ k4 G ⟨d0, a2⟩
  · exact nzz a2
  rw [ack.eq_2] at a2
  refine sr (wp 1 (nq (cs (cd a2 (fun g6 a2 => ?_) (fun g6 a2 => ?_)))))
  refine ck (qn (cs (ce (sr (wp 1 (gi a2 fun g7 a2 => ahu b9 a1.length c2 46 3 .i64 a0 Tryz.underlying22 krf krf krf a1 rfl g7 (d9.hp d0) aab (by decide) (gi a2 fun g8 a2 => ?_)))))))
  refine aiy b9 aaa a1 3 a0 aab (d9.hp d0) [(str ((el a1 a0).1)), (str ((el a1 a0).2.1)), (Vb ((el a1 a0).2.2))] g8 krf krf krf krf (by decide) (adx d0 [(str ([] : Str)), (str ([] : Str)), (Vb false)] 46 (fun b => (Vp (some ⟨b, 0, none⟩))) rfl rfl krf fun a3 k5 g9 => wp 1 (ahl g9 0 a3 0 [(str ([] : Str)), (str ([] : Str)), (Vb false)] [(str ((el a1 a0).1)), (str ((el a1 a0).2.1)), (Vb ((el a1 a0).2.2))] 46 [blk a3 [(str ((el a1 a0).1)), (str ((el a1 a0).2.1)), (Vb ((el a1 a0).2.2))] 46, blk b2 [(Vp (bif b5 then some ⟨b2, 0, none⟩ else none)), (Vs a6 a5.length a7)] 131, rwt eB 5 1 b6 a6 a7 a5] rfl nbe krf krf rfl krf rfl fun k6 d1 => nq (cs (bi a2 fun h0 a4 a2 => agq d1 [0, 2, 3, 4, 6, 15, 16, 17, 41] [(41, (Vb h0))] ?_ ?_))))
  refine bi a4 fun d2 e0 a4 => ?_
  rcases Bool.eq_false_or_eq_true (!d2) with c4 | c4
  replace a4 := cft c4 a4
  refine adu 18 (fun j_ w_ w_' => aax [2, 3, 4, 5, 6, 7, 8, 9, 10, 11, 12, 13, 14, 15, 16, 17, 18, 19] (fun w' => w'.heap[a3]? = some (.cells [(str ((el a1 a0).1)), (str ((el a1 a0).2.1)), (Vb ((el a1 a0).2.2))].toArray 46 (0, 0))) j_ w_ w_' ∧ True) [false, false, false, false, false, false, false, false, false, false, false, false, false, false, false, false, false, false, false, false] (fun _ _ => ⟨aax.same, trivial⟩) krf krf d1 rfl (aaq (acz (aas (acz (aaq (aas (aaq acy))))))) fun k7 e1 => rp 17 [0] (aak [true, true, false, false, false, false, false, false, false, false, false, false, false, false, false, false, false, false, false, false] 1 23 (str ((el a1 a0).1)) [2, 3, 4, 5, 6, 7, 8, 9, 10, 11, 12, 13, 14, 15, 16, 17, 18, 19] (fun _ _ _ h => h.1) _ rfl rfl krf krf krf krf krf rfl (abc rfl (by intro w hS_; exact (afc a3 0 [(str ((el a1 a0).1)), (str ((el a1 a0).2.1)), (Vb ((el a1 a0).2.2))] 46 (str ((el a1 a0).1)) hS_ rfl krf krf))) (by exact e1.blkAt 0 rfl) (ro 2 rfl (wc ent69 e1 (agx e0 (hG.hp0 e1)) fun f2 a8 => wl (abq (by exact ⟨aax.out rfl, trivial⟩) (rp 14 [3] (rt 4 (Vb true) rfl rfl (abc rfl (by intro w hS_; exact Eq.trans (b := Result.ok (Next.value (.bool (!d2))) w) krf (congrArg (fun b => Result.ok (Next.value (.bool b)) w) c4))) (rp 9 [5, 6, 7, 8] ?_)))))))
  refine ro 9 rfl (wp 1 (wl (abq (by exact ⟨aax.same, trivial⟩) (rp 0 [10, 11, 12, 13, 14, 15, 16, 17] (adi krf (wp 2 (wl (ql ?_))))))))
  obtain rfl := oi a4
  exact je (Hp.front (Hp.front (Hp.front a8 2 _ rfl) 2 _ rfl) 2 _ rfl).kp
  replace a4 := cff c4 a4
  refine bi a4 fun e2 f3 a4 => ?_
  by_cases d3 : ((el a1 a0).1) = e2
  replace a4 := ift d3 a4
  refine gi a4 fun f4 a4 => adu 18 (fun j_ w_ w_' => aax [2, 3, 4, 5, 6, 7, 8, 9, 10, 11, 12, 13, 14, 15, 16, 17, 18, 19] (fun w' => w'.heap[a3]? = some (.cells [(str ((el a1 a0).1)), (str ((el a1 a0).2.1)), (Vb ((el a1 a0).2.2))].toArray 46 (0, 0))) j_ w_ w_' ∧ aax [10, 11, 12, 13, 14, 15, 16, 17, 18, 19] (fun w' => w'.heap[a3]? = some (.cells [(str ((el a1 a0).1)), (str ((el a1 a0).2.1)), (Vb ((el a1 a0).2.2))].toArray 46 (0, 0))) j_ w_ w_' ∧ aax [9, 10, 11, 12, 13, 14, 15, 16, 17, 18, 19] (fun w' => w'.heap[a3]? = some (.cells [(str ((el a1 a0).1)), (str ((el a1 a0).2.1)), (Vb ((el a1 a0).2.2))].toArray 46 (0, 0))) j_ w_ w_' ∧ aax [18, 19] (fun w' => w'.heap[a3]? = some (.cells [(str ((el a1 a0).1)), (str ((el a1 a0).2.1)), (Vb ((el a1 a0).2.2))].toArray 46 (0, 0))) j_ w_ w_' ∧ True) [false, false, false, false, false, false, false, false, false, false, false, false, false, false, false, false, false, false, false, false] (fun _ _ => ⟨aax.same, aax.same, aax.same, aax.same, trivial⟩) krf krf d1 rfl (aaq (acz (aas (acz (aaq (aas (aaq acy))))))) fun k8 e3 => rp 17 [0] (aak [true, true, false, false, false, false, false, false, false, false, false, false, false, false, false, false, false, false, false, false] 1 23 (str ((el a1 a0).1)) [2, 3, 4, 5, 6, 7, 8, 9, 10, 11, 12, 13, 14, 15, 16, 17, 18, 19] (fun _ _ _ h => h.1) _ rfl rfl krf krf krf krf krf rfl (abc rfl (by intro w hS_; exact (afc a3 0 [(str ((el a1 a0).1)), (str ((el a1 a0).2.1)), (Vb ((el a1 a0).2.2))] 46 (str ((el a1 a0).1)) hS_ rfl krf krf))) (by exact e3.blkAt 0 rfl) (ro 2 rfl (wc ent69 e3 (agx e0 (hG.hp0 e3)) fun f2 a8 => wl (abq (by exact ⟨aax.out rfl, aax.new (a8.blkAt 0 rfl), aax.new (a8.blkAt 0 rfl), aax.new (a8.blkAt 0 rfl), trivial⟩) (rp 14 [3] (rt 4 (Vb false) rfl rfl (abc rfl (by intro w hS_; exact Eq.trans (b := Result.ok (Next.value (.bool (!d2))) w) krf (congrArg (fun b => Result.ok (Next.value (.bool b)) w) c4))) ?_))))))
  refine rp 12 [5] (aak [true, true, true, true, true, true, true, false, false, false, false, false, false, false, false, false, false, false, false, false] 6 28 (str ((el a1 a0).1)) [10, 11, 12, 13, 14, 15, 16, 17, 18, 19] (fun _ _ _ h => h.2.1) _ rfl rfl krf krf krf krf krf rfl (ady 26 krf krf krf (by intro w hS_; exact (afc a3 0 [(str ((el a1 a0).1)), (str ((el a1 a0).2.1)), (Vb ((el a1 a0).2.2))] 46 (str ((el a1 a0).1)) hS_ rfl krf krf))) (by exact a8.blkAt 0 rfl) (rp 10 [7] (aak [true, true, true, true, true, true, true, true, true, false, false, false, false, false, false, false, false, false, false, false] 8 30 (str ((el a1 a0).1)) [9, 10, 11, 12, 13, 14, 15, 16, 17, 18, 19] (fun _ _ _ h => h.2.2.1) _ rfl rfl krf krf krf krf krf rfl (ady 26 krf krf krf (by intro w hS_; exact (afc a3 0 [(str ((el a1 a0).1)), (str ((el a1 a0).2.1)), (Vb ((el a1 a0).2.2))] 46 (str ((el a1 a0).1)) hS_ rfl krf krf))) (by exact a8.blkAt 0 rfl) (ro 9 rfl (gy 26 (wc ent84 a8 (ado f3 (hG.hp0 a8)) fun h2 b7 => wl (abq (by exact ⟨aax.out rfl, aax.new (b7.blkAt 0 rfl), aax.out rfl, aax.new (b7.blkAt 0 rfl), trivial⟩) (rp 6 [10, 11] ?_))))))))
  refine rt 12 (Vb false) rfl rfl (abc rfl (by intro w hS_; exact Eq.trans (b := Result.ok (Next.value (.bool (!decide (((el a1 a0).1) = e2)))) w) krf (congrArg (fun b => Result.ok (Next.value (.bool b)) w) (by rw [decide_eq_true d3]; rfl)))) (rp 3 [13, 14] (rt 15 (Vs b9 (zad a0) c2) rfl rfl (ady 34 krf krf krf (by intro w hS_; exact (x_slTo b9 a1.length c2 46 3 .i64 a0 Tryz.underlying22 krf krf krf a1 rfl f4 f0))) (rp 1 [16] (aak [true, true, true, true, true, true, true, true, true, true, true, true, true, true, true, true, true, true, false, false] 17 39 (str ((el a1 a0).1)) [18, 19] (fun _ _ _ h => h.2.2.2.1) _ rfl rfl krf krf krf krf krf rfl (ady 34 krf krf krf (by intro w hS_; exact (afc a3 0 [(str ((el a1 a0).1)), (str ((el a1 a0).2.1)), (Vb ((el a1 a0).2.2))] 46 (str ((el a1 a0).1)) hS_ rfl krf krf))) (by exact b7.blkAt 0 rfl) (adi krf (gy 34 (bi a4 fun k9 h3 a4 => wc ent125 b7 (anh b9 (zad a0) c2 h3 (hG.hp0 b7) (by first | rfl | (simp; done) | omega | (simp; omega) | (rw [zah]; omega)) (Rd.takeT aab (zad a0) (d9.hp b7)) (toNat_le f4 f0)) fun l0 h4 => wp 1 ?_)))))))
  refine wl (ql ?_)
  obtain rfl := oi a4
  exact je (Hp.front (Hp.front (Hp.front h4 2 _ rfl) 2 _ rfl) 2 _ rfl).kp
  replace a4 := ifn d3 a4
  refine adu 18 (fun j_ w_ w_' => aax [2, 3, 4, 5, 6, 7, 8, 9, 10, 11, 12, 13, 14, 15, 16, 17, 18, 19] (fun w' => w'.heap[a3]? = some (.cells [(str ((el a1 a0).1)), (str ((el a1 a0).2.1)), (Vb ((el a1 a0).2.2))].toArray 46 (0, 0))) j_ w_ w_' ∧ aax [10, 11, 12, 13, 14, 15, 16, 17, 18, 19] (fun w' => w'.heap[a3]? = some (.cells [(str ((el a1 a0).1)), (str ((el a1 a0).2.1)), (Vb ((el a1 a0).2.2))].toArray 46 (0, 0))) j_ w_ w_' ∧ aax [9, 10, 11, 12, 13, 14, 15, 16, 17, 18, 19] (fun w' => w'.heap[a3]? = some (.cells [(str ((el a1 a0).1)), (str ((el a1 a0).2.1)), (Vb ((el a1 a0).2.2))].toArray 46 (0, 0))) j_ w_ w_' ∧ aax [18, 19] (fun w' => w'.heap[a3]? = some (.cells [(str ((el a1 a0).1)), (str ((el a1 a0).2.1)), (Vb ((el a1 a0).2.2))].toArray 46 (0, 0))) j_ w_ w_' ∧ True) [false, false, false, false, false, false, false, false, false, false, false, false, false, false, false, false, false, false, false, false] (fun _ _ => ⟨aax.same, aax.same, aax.same, aax.same, trivial⟩) krf krf d1 rfl (aaq (acz (aas (acz (aaq (aas (aaq acy))))))) fun l1 e4 => rp 17 [0] (aak [true, true, false, false, false, false, false, false, false, false, false, false, false, false, false, false, false, false, false, false] 1 23 (str ((el a1 a0).1)) [2, 3, 4, 5, 6, 7, 8, 9, 10, 11, 12, 13, 14, 15, 16, 17, 18, 19] (fun _ _ _ h => h.1) _ rfl rfl krf krf krf krf krf rfl (abc rfl (by intro w hS_; exact (afc a3 0 [(str ((el a1 a0).1)), (str ((el a1 a0).2.1)), (Vb ((el a1 a0).2.2))] 46 (str ((el a1 a0).1)) hS_ rfl krf krf))) (by exact e4.blkAt 0 rfl) (ro 2 rfl (wc ent69 e4 (agx e0 (hG.hp0 e4)) fun f2 a8 => wl (abq (by exact ⟨aax.out rfl, aax.new (a8.blkAt 0 rfl), aax.new (a8.blkAt 0 rfl), aax.new (a8.blkAt 0 rfl), trivial⟩) (rp 14 [3] (rt 4 (Vb false) rfl rfl (abc rfl (by intro w hS_; exact Eq.trans (b := Result.ok (Next.value (.bool (!d2))) w) krf (congrArg (fun b => Result.ok (Next.value (.bool b)) w) c4))) (rp 12 [5] ?_)))))))
  refine aak [true, true, true, true, true, true, true, false, false, false, false, false, false, false, false, false, false, false, false, false] 6 28 (str ((el a1 a0).1)) [10, 11, 12, 13, 14, 15, 16, 17, 18, 19] (fun _ _ _ h => h.2.1) _ rfl rfl krf krf krf krf krf rfl (ady 26 krf krf krf (by intro w hS_; exact (afc a3 0 [(str ((el a1 a0).1)), (str ((el a1 a0).2.1)), (Vb ((el a1 a0).2.2))] 46 (str ((el a1 a0).1)) hS_ rfl krf krf))) (by exact a8.blkAt 0 rfl) (rp 10 [7] (aak [true, true, true, true, true, true, true, true, true, false, false, false, false, false, false, false, false, false, false, false] 8 30 (str ((el a1 a0).1)) [9, 10, 11, 12, 13, 14, 15, 16, 17, 18, 19] (fun _ _ _ h => h.2.2.1) _ rfl rfl krf krf krf krf krf rfl (ady 26 krf krf krf (by intro w hS_; exact (afc a3 0 [(str ((el a1 a0).1)), (str ((el a1 a0).2.1)), (Vb ((el a1 a0).2.2))] 46 (str ((el a1 a0).1)) hS_ rfl krf krf))) (by exact a8.blkAt 0 rfl) (ro 9 rfl (gy 26 (wc ent84 a8 (ado f3 (hG.hp0 a8)) fun h2 b7 => wl (abq (by exact ⟨aax.out rfl, aax.new (b7.blkAt 0 rfl), aax.out rfl, aax.new (b7.blkAt 0 rfl), trivial⟩) (rp 6 [10, 11] (rt 12 (Vb true) rfl rfl (abc rfl (by intro w hS_; exact Eq.trans (b := Result.ok (Next.value (.bool (!decide (((el a1 a0).1) = e2)))) w) krf (congrArg (fun b => Result.ok (Next.value (.bool b)) w) (by rw [decide_eq_false d3]; rfl)))) ?_))))))))
  refine rp 0 [13, 14, 15, 16, 17] (adi krf (wp 2 (wl (ql ?_))))
  obtain rfl := oi a4
  exact je (Hp.front (Hp.front (Hp.front b7 2 _ rfl) 2 _ rfl) 2 _ rfl).kp
  intro f5 G e5
  refine cb a2 (fun h5 a2 => ?_) (fun h5 a2 => ?_)
  refine sr (wp 2 (nq (ct (st (bt_ (st (adl ?_)))))))
  refine bt_ (adl ?_)
  obtain rfl := oi a2
  obtain rfl := oi hr
  exact rv e5.kp
  refine ck (qn (sr (wp 1 (acr e5 0 a3 0 [(str ((el a1 a0).1)), (str ((el a1 a0).2.1)), (Vb ((el a1 a0).2.2))] 46 (str ((el a1 a0).1)) rfl rfl krf krf (gi a2 fun h6 a2 => aej ([59] : Str) ((el a1 a0).1) krf krf h6 (bi a2 fun b3 h7 a2 => ?_))))))
  have h8 : Hp w [] [rwt eB 5 1 b6 a6 a7 a5, blk a3 [(str ((el a1 a0).1)), (str ((el a1 a0).2.1)), (Vb ((el a1 a0).2.2))] 46, blk b2 [(Vp (bif b5 then some ⟨b2, 0, none⟩ else none)), (Vs a6 a5.length a7)] 131] f5 := e5.front 2 _ rfl
  have d4 : Hp w [] [blk b2 [(Vp (bif b5 then some ⟨b2, 0, none⟩ else none)), (Vs a6 a5.length a7)] 131, rwt eB 5 1 b6 a6 a7 a5, blk a3 [(str ((el a1 a0).1)), (str ((el a1 a0).2.1)), (Vb ((el a1 a0).2.2))] 46] f5 := h8.front 2 _ rfl
  refine aat 126 #[] [(Vp (some ⟨b2, 0, none⟩)), (str (([59] : Str) ++ ((el a1 a0).1)))] _ ent126 krf krf (ade b2 b5 b6 a6 a7 h7 (hG.hp0 d4) (d4.hand (L1 := [blk b2 [(Vp (bif b5 then some ⟨b2, 0, none⟩ else none)), (Vs a6 a5.length a7)] 131, rwt eB 5 1 b6 a6 a7 a5]) (L2 := [blk a3 [(str ((el a1 a0).1)), (str ((el a1 a0).2.1)), (Vb ((el a1 a0).2.2))] 46])) (d4.highs hG (fun _ h => absurd h (by simp)) 2 rfl)) ?_
  rintro _ h9 ⟨b8, b0, b1, rfl, f6⟩
  have c1 : Hp w [] [blk b2 [(Vp (some ⟨b2, 0, none⟩)), (Vs b0 b3.2.2.2.length b1)] 131, rwt eB 5 1 b8 b0 b1 b3.2.2.2, blk a3 [(str ((el a1 a0).1)), (str ((el a1 a0).2.1)), (Vb ((el a1 a0).2.2))] 46] h9 := Hp.callK (L1 := [blk b2 [(Vp (bif b5 then some ⟨b2, 0, none⟩ else none)), (Vs a6 a5.length a7)] 131, rwt eB 5 1 b6 a6 a7 a5]) (L2 := [blk a3 [(str ((el a1 a0).1)), (str ((el a1 a0).2.1)), (Vb ((el a1 a0).2.2))] 46]) d4 f6; clear f6
  refine nq (cs (sr (wp 1 (acr c1 2 a3 2 [(str ((el a1 a0).1)), (str ((el a1 a0).2.1)), (Vb ((el a1 a0).2.2))] 46 (Vb ((el a1 a0).2.2)) rfl rfl krf krf (wp 1 (nq (cb a2 (fun i0 a2 => ?_) (fun i0 a2 => ?_))))))))
  refine cs (sr (wp 1 (acr c1 2 a3 1 [(str ((el a1 a0).1)), (str ((el a1 a0).2.1)), (Vb ((el a1 a0).2.2))] 46 (str ((el a1 a0).2.1)) rfl rfl krf krf (wp 1 (nq (cn a2 (fun i1 a2 => ?_) (fun i1 a2 => ?_)))))))
  refine sr (wp 2 (nq (ct (st (st (bt_ (st ?_)))))))
  refine adl (bt_ (adl ?_))
  obtain rfl := oi a2
  obtain rfl := oi hr
  exact rv c1.kp
  refine ck (qn (ace (acd (acf (qn (cr (gi a2 fun i2 a2 => aah a0 (1 : Int) krf krf i2 (wp 1 ?_))))))))
  refine wl (ql ?_)
  exact ⟨(c0, a0 + (1 : Int), b3.2.2.2, true, b8, b0, b1), _, rfl, by kernel_rfl, ⟨(Hp.front (Hp.front c1 1 _ rfl) 1 _ rfl).kp, a2⟩, zac _⟩
  refine ck (qn (sr (wp 1 (acr c1 2 a3 1 [(str ((el a1 a0).1)), (str ((el a1 a0).2.1)), (Vb ((el a1 a0).2.2))] 46 (str ((el a1 a0).2.1)) rfl rfl krf krf (wp 1 (nq (bi a2 fun i3 b4 a2 => cut (σ := Str) [0, 2, 3, 4, 7, 15, 16, 17] (fun c5 => [(7, (str c5))]) (fun c5 w' => Hp w [] [blk b2 [(Vp (some ⟨b2, 0, none⟩)), (Vs b0 b3.2.2.2.length b1)] 131, rwt eB 5 1 b8 b0 b1 b3.2.2.2] w' ∧ .inl c5 = i3) ?_ ?_)))))))
  refine sr (wp 1 (bi b4 fun l2 i4 b4 => wc ent26 c1 (aic i4 (hG.hp0 c1)) fun l3 f7 => wp 5 (nq (bi b4 fun i5 a9 b4 => cut (σ := Bool) [0, 2, 3, 4, 7, 15, 16, 17, 75] (fun d5 => [(75, (Vb d5))]) (fun d5 w' => Hp w [] [blk b2 [(Vp (some ⟨b2, 0, none⟩)), (Vs b0 b3.2.2.2.length b1)] 131, rwt eB 5 1 b8 b0 b1 b3.2.2.2] w' ∧ d5 = i5) ?_ ?_))))
  refine cr (wp 1 (bi a9 fun l4 i6 a9 => wc ent69 f7 (agx i6 (hG.hp0 f7)) fun l5 d6 => wp 1 (wb a9 (fun i7 a9 => ?_) (fun i7 a9 => ?_))))
  refine wp 1 (gy 62 (wb a9 (fun i9 a9 => ?_) (fun i9 a9 => ?_)))
  refine wp 4 (gy 62 (wd a9 (fun j0 a9 => ?_) (fun j0 a9 => ?_)))
  refine wp 1 (gy 69 (gi a9 fun j1 a9 => abp ((el a1 a0).2.1) .i64 (0 : Int) Tryz.underlying9 krf krf j1 (gy 69 (acv (at_ ((el a1 a0).2.1) (0 : Int)) (91 : UInt8) krf krf (wp 3 (wl (ql ?_)))))))
  obtain rfl := oi a9
  exact ⟨(!decide ((at_ ((el a1 a0).2.1) (0 : Int)) = (91 : UInt8))), _, rfl, by kernel_rfl, (Hp.front (Hp.front d6 1 _ rfl) 1 _ rfl).kp, rfl⟩
  refine wp 6 (wl (ql ?_))
  obtain rfl := oi a9
  exact ⟨true, _, rfl, by kernel_rfl, (Hp.front (Hp.front d6 1 _ rfl) 1 _ rfl).kp, rfl⟩
  refine wp 11 (wl (ql ?_))
  obtain rfl := oi a9
  exact ⟨true, _, rfl, by kernel_rfl, (Hp.front (Hp.front d6 1 _ rfl) 1 _ rfl).kp, rfl⟩
  refine wp 13 (wl (ql ?_))
  obtain rfl := oi a9
  exact ⟨false, _, rfl, by kernel_rfl, (Hp.front (Hp.front d6 1 _ rfl) 1 _ rfl).kp, rfl⟩
  rintro d5 l6 G ⟨e6, rfl⟩
  refine cb b4 (fun j2 b4 => ?_) (fun j2 b4 => ?_)
  refine sr (wp 1 (bi b4 fun f8 j3 b4 => wc ent99 e6 (K_L_lexis_Quote j3 (hG.hp0 e6)) fun l7 f9 => wp 5 (nq (cs (cs ?_)))))
  refine cr (wp 1 (afs f8.2 (0 : UInt8) krf krf (nq (cn b4 (fun j4 b4 => ?_) (fun j4 b4 => ?_)))))
  refine sr (wp 2 (nq (ct (st (adl ?_)))))
  obtain rfl := oi b4
  refine bt_ (st (adl (bt_ (adl ?_))))
  obtain rfl := oi a2
  obtain rfl := oi hr
  exact rv f9.kp
  refine ck (qn (cr (wp 2 (wl (ql ?_)))))
  obtain rfl := oi b4
  exact ⟨f8.1, _, rfl, by kernel_rfl, (Hp.front (Hp.front f9 1 _ rfl) 1 _ rfl).kp, rfl⟩
  refine ck (ql ?_)
  obtain rfl := oi b4
  exact ⟨(el a1 a0).2.1, _, rfl, by kernel_rfl, (Hp.front (Hp.front e6 1 _ rfl) 1 _ rfl).kp, rfl⟩
  rintro c5 g0 G ⟨j5, rfl⟩
  refine cr (wp 1 (gi a2 fun j6 a2 => aej ([61] : Str) c5 krf krf j6 (bi a2 fun e7 j7 a2 => ?_)))
  have j8 : Hp w [] [rwt eB 5 1 b8 b0 b1 b3.2.2.2, blk b2 [(Vp (some ⟨b2, 0, none⟩)), (Vs b0 b3.2.2.2.length b1)] 131] g0 := j5.front 1 _ rfl
  have d7 : Hp w [] [blk b2 [(Vp (some ⟨b2, 0, none⟩)), (Vs b0 b3.2.2.2.length b1)] 131, rwt eB 5 1 b8 b0 b1 b3.2.2.2] g0 := j8.front 1 _ rfl
  refine aat 126 #[] [(Vp (some ⟨b2, 0, none⟩)), (str (([61] : Str) ++ c5))] _ ent126 krf krf (ade b2 true b8 b0 b1 j7 (hG.hp0 d7) (d7.hand (L1 := [blk b2 [(Vp (some ⟨b2, 0, none⟩)), (Vs b0 b3.2.2.2.length b1)] 131, rwt eB 5 1 b8 b0 b1 b3.2.2.2]) (L2 := [])) (d7.highs hG (fun _ h => absurd h (by simp)) 2 rfl)) ?_
  rintro _ j9 ⟨g1, e8, e9, rfl, g2⟩
  have k0 : Hp w [] [blk b2 [(Vp (some ⟨b2, 0, none⟩)), (Vs e8 e7.2.2.2.length e9)] 131, rwt eB 5 1 g1 e8 e9 e7.2.2.2] j9 := Hp.callK (L1 := [blk b2 [(Vp (some ⟨b2, 0, none⟩)), (Vs b0 b3.2.2.2.length b1)] 131, rwt eB 5 1 b8 b0 b1 b3.2.2.2]) (L2 := []) d7 g2; clear g2
  refine wl (bn (qn (cr (gi a2 fun k1 a2 => aah a0 (1 : Int) krf krf k1 (wp 1 (wl (ql ?_)))))))
  exact ⟨(c0, a0 + (1 : Int), e7.2.2.2, true, g1, e8, e9), _, rfl, by kernel_rfl, ⟨(Hp.front (Hp.front k0 1 _ rfl) 1 _ rfl).kp, a2⟩, zac _⟩
  refine ace (acd (acq (acf (ql ?_))))
  obtain rfl := oi a2
  exact ⟨(a5, b5, b6, a6, a7), _, rfl, by kernel_rfl, (Hp.front (Hp.front d0 1 _ rfl) 1 _ rfl).kp, rfl⟩
  rintro ⟨c3, c8, c9, c6, c7⟩ l8 G ⟨k2, rfl⟩
  refine sr (gi hr fun l9 hr => aat 127 #[] [(Vp (some ⟨b2, 0, none⟩))] _ ent127 krf krf (sh_BString b2 c8 c9 c6 c7 c3 k2 0 1 rfl rfl (by decide)) ?_)
  rintro _ m0 ⟨rfl, k3⟩
  refine wp 2 (nq (ct ?_))
  obtain rfl := oi hr
  exact rv k3.kp
theorem apu {fu : Nat} {a0 : (Str × (Str × Str × Str × Int × (List (Str × Str × Bool)) × (List (Str × Str × Bool))) × (List (Str × Str × Bool)))} (a3 : Option Addr) (b2 : Nat) (a4 : Nat) (a5 : Option Addr) (b3 : Nat) (a6 : Nat) (a1 : Option Addr) (b4 : Nat) (a2 : Nat) {w : World} {r : (Str × UInt8)} (hr : akd fu a0 = some r) (hG : Gl w) (c2 : b2 = a0.2.1.2.2.2.2.1.length) (c3 : Rd w a3 (zai aaa a0.2.1.2.2.2.2.1)) (c4 : b2 ≤ a4) (c5 : b3 = a0.2.1.2.2.2.2.2.length) (c6 : Rd w a5 (zai aaa a0.2.1.2.2.2.2.2)) (c7 : b3 ≤ a6) (c8 : b4 = a0.2.2.length) (c9 : Rd w a1 (zai aaa a0.2.2)) (d0 : b4 ≤ a2) : CR Tryz.prog 50 [(zam #[(str a0.1), (str a0.2.1.1), (str a0.2.1.2.1), (str a0.2.1.2.2.1), (Vi .i64 a0.2.1.2.2.2.1), (Vs a3 b2 a4), (Vs a5 b3 a6), (Vs a1 b4 a2)])] w fun v w' => v = (zal #[(str r.1), (bt r.2)]) ∧ Hp w [] [] w' := by
  subst c2
  subst c5
  subst c8
  have hH : Hp w [] [] w := Hp.refl w
  refine enter (k := 48) Tryz.func50 rfl rfl nbe ?_
  unfold akd at hr
  refine sr (adx hH [(str a0.1), (str a0.2.1.1), (str a0.2.1.2.1), (str a0.2.1.2.2.1), (Vi .i64 a0.2.1.2.2.2.1), (Vs a3 a0.2.1.2.2.2.2.1.length a4), (Vs a5 a0.2.1.2.2.2.2.2.length a6), (Vs a1 a0.2.2.length a2)] 70 (fun b => (Vp (some ⟨b, 0, none⟩))) rfl rfl krf fun b1 w2 b5 => wp 2 (nq (sr (wp 1 (acr b5 0 b1 0 [(str a0.1), (str a0.2.1.1), (str a0.2.1.2.1), (str a0.2.1.2.2.1), (Vi .i64 a0.2.1.2.2.2.1), (Vs a3 a0.2.1.2.2.2.2.1.length a4), (Vs a5 a0.2.1.2.2.2.2.2.length a6), (Vs a1 a0.2.2.length a2)] 70 (str a0.1) rfl rfl krf krf ?_)))))
  refine bi hr fun y4 d1 hr => wc ent99 b5 (K_L_lexis_Quote d1 (hG.hp0 b5)) fun w6 a8 => wp 5 (nq (cs (sr (wp 1 (afs y4.2 (0 : UInt8) krf krf ?_)))))
  refine nq (cn hr (fun h9 hr => ?_) (fun h9 hr => ?_))
  exact nzz hr
  refine ck (qn (sr (wp 1 (aob a8 0 b1 1 6 [(str a0.1), (str a0.2.1.1), (str a0.2.1.2.1), (str a0.2.1.2.2.1), (Vi .i64 a0.2.1.2.2.2.1), (Vs a3 a0.2.1.2.2.2.2.1.length a4), (Vs a5 a0.2.1.2.2.2.2.2.length a6), (Vs a1 a0.2.2.length a2)] [(str a0.2.1.1), (str a0.2.1.2.1), (str a0.2.1.2.2.1), (Vi .i64 a0.2.1.2.2.2.1), (Vs a3 a0.2.1.2.2.2.2.1.length a4), (Vs a5 a0.2.1.2.2.2.2.2.length a6)] 70 rfl rfl rfl krf krf krf (bi hr fun a7 d2 hr => wc ent95 a8 (K_L_address_Print a3 a0.2.1.2.2.2.2.1.length a4 a5 a0.2.1.2.2.2.2.2.length a6 d2 (hG.hp0 a8) rfl (c3.hp a8) c4 rfl (c6.hp a8) c7) fun e7 a9 => wp 5 (wl ?_))))))
  refine qn (cs (sr (wp 1 (afs a7.2 (0 : UInt8) krf krf (nq (cn hr (fun d3 hr => ?_) (fun d3 hr => ?_)))))))
  exact nzz hr
  refine ck (qn (sr (wp 1 (acr a9 0 b1 7 [(str a0.1), (str a0.2.1.1), (str a0.2.1.2.1), (str a0.2.1.2.2.1), (Vi .i64 a0.2.1.2.2.2.1), (Vs a3 a0.2.1.2.2.2.2.1.length a4), (Vs a5 a0.2.1.2.2.2.2.2.length a6), (Vs a1 a0.2.2.length a2)] 70 (Vs a1 a0.2.2.length a2) rfl rfl krf krf (bi hr fun b8 d4 hr => aat 100 #[] [(Vs a1 a0.2.2.length a2)] _ ent100 krf krf (akl a1 a0.2.2.length a2 d4 (hG.hp0 a9) rfl (c9.hp a9) d0) ?_)))))
  rintro _ d5 ⟨d6, b9, c0, rfl, c1⟩
  have b0 : Hp w [] [rwt aaa 46 3 d6 b9 c0 b8, blk b1 [(str a0.1), (str a0.2.1.1), (str a0.2.1.2.1), (str a0.2.1.2.2.1), (Vi .i64 a0.2.1.2.2.2.1), (Vs a3 a0.2.1.2.2.2.2.1.length a4), (Vs a5 a0.2.1.2.2.2.2.2.length a6), (Vs a1 a0.2.2.length a2)] 70] d5 := Hp.callK (L1 := []) (L2 := [blk b1 [(str a0.1), (str a0.2.1.1), (str a0.2.1.2.1), (str a0.2.1.2.2.1), (Vi .i64 a0.2.1.2.2.2.1), (Vs a3 a0.2.1.2.2.2.2.1.length a4), (Vs a5 a0.2.1.2.2.2.2.2.length a6), (Vs a1 a0.2.2.length a2)] 70]) a9 c1; clear c1
  refine bi hr fun b6 d7 hr => wc ent70 b0 (amr b9 b8.length c0 d7 (hG.hp0 b0) rfl (b0.rdrw 0 rfl) (b0.rwcap 0 rfl)) fun e8 b7 => wp 5 (nq (cs (sr (wp 1 (afs b6.2 (0 : UInt8) krf krf ?_)))))
  refine nq (cn hr (fun d8 hr => ?_) (fun d8 hr => ?_))
  exact nzz hr
  refine ck (qn (cs (sr (wp 1 (acr b7 1 b1 0 [(str a0.1), (str a0.2.1.1), (str a0.2.1.2.1), (str a0.2.1.2.2.1), (Vi .i64 a0.2.1.2.2.2.1), (Vs a3 a0.2.1.2.2.2.2.1.length a4), (Vs a5 a0.2.1.2.2.2.2.2.length a6), (Vs a1 a0.2.2.length a2)] 70 (str a0.1) rfl rfl krf krf (wp 1 (nq (cd hr (fun d9 hr => ?_) (fun d9 hr => ?_)))))))))
  refine sr (wp 1 (gi hr fun e0 hr => aej ([60] : Str) a7.1 krf krf e0 (gi hr fun e1 hr => aej (([60] : Str) ++ a7.1) ([62] : Str) krf krf e1 (wp 1 (gi hr fun e2 hr => aej ((([60] : Str) ++ a7.1) ++ ([62] : Str)) b6.1 krf krf e2 ?_)))))
  refine wp 2 (nq (ct (st ?_)))
  obtain rfl := oi hr
  exact rv b7.kp
  refine ck (qn (sr (wp 1 (gi hr fun e3 hr => aej y4.1 ([32, 60] : Str) krf krf e3 (wp 1 (gi hr fun e4 hr => aej (y4.1 ++ ([32, 60] : Str)) a7.1 krf krf e4 ?_))))))
  refine gi hr fun e5 hr => aej ((y4.1 ++ ([32, 60] : Str)) ++ a7.1) ([62] : Str) krf krf e5 (wp 1 (gi hr fun e6 hr => aej (((y4.1 ++ ([32, 60] : Str)) ++ a7.1) ++ ([62] : Str)) b6.1 krf krf e6 (wp 2 (nq (ct ?_)))))
  obtain rfl := oi hr
  exact rv b7.kp
theorem K_L_header_tidy {fu : Nat} {b2 : Str} {a9 : Str} {w : World} {r : (Str × UInt8)} (hr : aqi fu b2 a9 = some r) (hG : Gl w) : CR Tryz.prog 79 [(str b2), (str a9)] w fun v w' => v = (zal #[(str r.1), (bt r.2)]) ∧ Hp w [] [] w' := by
  have hH : Hp w [] [] w := Hp.refl w
  refine enter (k := 134) Tryz.func79 rfl rfl nbe ?_
  unfold aqi at hr
  refine sr (wp 2 (nq (cs (sr (wp 1 (bi hr fun d2 b8 hr => ?_))))))
  refine wc ent137 hH (K_L_header_kindOf b8 (hG.hp0 hH)) fun d3 b0 => nq (ce (sr (wp 2 (nq (cd hr (fun b9 hr => ?_) (fun b9 hr => ?_))))))
  refine cs (bi hr fun c0 a2 hr => agq b0 [1, 4, 5, 33] [(33, (Vb c0))] ?_ ?_)
  refine cr (wp 2 (wd a2 (fun c1 a2 => ?_) (fun c1 a2 => ?_)))
  refine wp 1 (gy 29 (bi a2 fun d4 c2 a2 => wc ent51 b0 (akt c2 (hG.hp0 b0)) fun d5 c3 => wp 2 (wl (ql ?_))))
  obtain rfl := oi a2
  exact je c3.kp
  exact nzz a2
  intro d6 G b3
  refine cb hr (fun c4 hr => ?_) (fun c4 hr => ?_)
  exact nzz hr
  refine ck (qn (sr (wp 1 (bi hr fun a0 c5 hr => aat 40 #[] [(str a9)] _ ent40 krf krf (K_L_header_Address c5 (hG.hp0 b3)) ?_))))
  rintro _ c6 ⟨b4, a3, a4, b5, a5, a6, b6, a7, a8, rfl, b7⟩
  have c7 : Hp w [] [rwt aaa 46 3 b4 a3 a4 a0.1.2.1.2.2.2.2.1, rwt aaa 46 3 b5 a5 a6 a0.1.2.1.2.2.2.2.2, rwt aaa 46 3 b6 a7 a8 a0.1.2.2] c6 := Hp.callK (L1 := []) (L2 := []) b3 b7; clear b7
  refine wp 3 (adx c7 [(str ([] : Str)), (str ([] : Str)), (str ([] : Str)), (str ([] : Str)), (Vi .i64 (0 : Int)), (Vs none 0 0), (Vs none 0 0), (Vs none 0 0)] 70 (fun b => (Vp (some ⟨b, 0, none⟩))) rfl rfl krf fun b1 d7 c8 => ahl c8 0 b1 0 [(str ([] : Str)), (str ([] : Str)), (str ([] : Str)), (str ([] : Str)), (Vi .i64 (0 : Int)), (Vs none 0 0), (Vs none 0 0), (Vs none 0 0)] [(str a0.1.1), (str a0.1.2.1.1), (str a0.1.2.1.2.1), (str a0.1.2.1.2.2.1), (Vi .i64 a0.1.2.1.2.2.2.1), (Vs a3 a0.1.2.1.2.2.2.2.1.length a4), (Vs a5 a0.1.2.1.2.2.2.2.2.length a6), (Vs a7 a0.1.2.2.length a8)] 70 [blk b1 [(str a0.1.1), (str a0.1.2.1.1), (str a0.1.2.1.2.1), (str a0.1.2.1.2.2.1), (Vi .i64 a0.1.2.1.2.2.2.1), (Vs a3 a0.1.2.1.2.2.2.2.1.length a4), (Vs a5 a0.1.2.1.2.2.2.2.2.length a6), (Vs a7 a0.1.2.2.length a8)] 70, rwt aaa 46 3 b4 a3 a4 a0.1.2.1.2.2.2.2.1, rwt aaa 46 3 b5 a5 a6 a0.1.2.1.2.2.2.2.2, rwt aaa 46 3 b6 a7 a8 a0.1.2.2] rfl nbe krf krf rfl krf rfl fun d8 a1 => wp 1 (nq (cs (sr (wp 1 ?_)))))
  refine afs a0.2 (0 : UInt8) krf krf (nq (cn hr (fun c9 hr => ?_) (fun c9 hr => ?_)))
  exact nzz hr
  refine ck (qn (sr (aob a1 0 b1 0 8 [(str a0.1.1), (str a0.1.2.1.1), (str a0.1.2.1.2.1), (str a0.1.2.1.2.2.1), (Vi .i64 a0.1.2.1.2.2.2.1), (Vs a3 a0.1.2.1.2.2.2.2.1.length a4), (Vs a5 a0.1.2.1.2.2.2.2.2.length a6), (Vs a7 a0.1.2.2.length a8)] [(str a0.1.1), (str a0.1.2.1.1), (str a0.1.2.1.2.1), (str a0.1.2.1.2.2.1), (Vi .i64 a0.1.2.1.2.2.2.1), (Vs a3 a0.1.2.1.2.2.2.2.1.length a4), (Vs a5 a0.1.2.1.2.2.2.2.2.length a6), (Vs a7 a0.1.2.2.length a8)] 70 rfl rfl rfl krf krf krf (bi hr fun d9 d0 hr => wc ent50 a1 (apu a3 a0.1.2.1.2.2.2.2.1.length a4 a5 a0.1.2.1.2.2.2.2.2.length a6 a7 a0.1.2.2.length a8 d0 (hG.hp0 a1) rfl (a1.rdrw 1 rfl) (a1.rwcap 1 rfl) rfl (a1.rdrw 2 rfl) (a1.rwcap 2 rfl) rfl (a1.rdrw 3 rfl) (a1.rwcap 3 rfl)) fun e0 d1 => wp 4 (nq ?_)))))
  refine ct (bt_ (st ?_))
  obtain rfl := oi hr
  exact rv d1.kp
  exact nzz hr
theorem K_L_header_Tidy {fu : Nat} {b4 : Str} {b1 : Str} {w : World} {r : (Str × UInt8)} (hr : aqk fu b4 b1 = some r) (hG : Gl w) : CR Tryz.prog 25 [(str b4), (str b1)] w fun v w' => v = (zal #[(str r.1), (bt r.2)]) ∧ Hp w [] [] w' := by
  have hH : Hp w [] [] w := Hp.refl w
  refine enter (k := 56) Tryz.func25 rfl rfl nbe ?_
  unfold aqk at hr
  refine sr (wp 2 (nq (sr (wp 1 (bi hr fun y1 c1 hr => wc ent34 hH (K_L_header_Canon c1 (hG.hp0 hH)) fun w3 b5 => ?_)))))
  refine wp 5 (nq (cs (sr (wp 1 (afs y1.2 (0 : UInt8) krf krf (nq (cn hr (fun h6 hr => ?_) (fun h6 hr => ?_))))))))
  exact nzz hr
  refine ck (qn (cs (sr (wp 1 (bi hr fun y7 c2 hr => wc ent78 b5 (K_L_header_many c2 (hG.hp0 b5)) fun w9 b6 => wp 1 (wl ?_))))))
  refine qn (cb hr (fun c3 hr => ?_) (fun c3 hr => ?_))
  exact nzz hr
  refine ck (qn (sr (wp 1 (bi hr fun a6 c4 hr => aat 31 #[] [(str b1)] _ ent31 krf krf (K_L_header_List c4 (hG.hp0 b6)) ?_))))
  rintro _ c5 ⟨a8, a2, a3, rfl, b7⟩
  have c6 : Hp w [] [rwt eS 9 1 a8 a2 a3 a6.1] c5 := Hp.callK (L1 := []) (L2 := []) b6 b7; clear b7
  refine wp 5 (nq (cs (sr (wp 1 (afs a6.2 (0 : UInt8) krf krf (nq (cn hr (fun c7 hr => ?_) (fun c7 hr => ?_))))))))
  exact nzz hr
  refine ck (qn (bi hr fun b8 c8 hr => cut (σ := (List Str)) [4, 5, 8] (fun a5 => [(8, (Vs a2 a5.length a3))]) (fun a5 w' => Hp w [] [rwt eS 9 1 a8 a2 a3 a5] w' ∧ a5.length = a6.1.length ∧ a5 = b8) ?_ ?_))
  refine sr (wp 3 (nq (ce (lpG (σ := Nat × (List Str) × Int) [4, 5, 6, 8, 34, 35, 36] (fun ⟨a7, a1, a4⟩ => [(8, (Vs a2 a1.length a3)), (34, (Vs a2 a1.length a3)), (36, (Vi .i64 a4))]) (fun ⟨a7, a1, a4⟩ w' => Hp w [] [rwt eS 9 1 a8 a2 a3 a1] w' ∧ a1.length = a6.1.length ∧ akz fu y1 a6 a7 a1 a4 = some b8) (fun ⟨a7, a1, a4⟩ => a7) (fu, a6.1, (0 : Int)) (by exact ⟨c6.kp, lsz, c8⟩) ?_))))
  rintro ⟨_ | a7, a1, a4⟩ e1 G ⟨a9, e2, a0⟩
  · exact nzz a0
  rw [akz.eq_2] at a0
  refine sr (wp 1 (nq (cs (cd a0 (fun c9 a0 => ?_) (fun c9 a0 => ?_)))))
  refine ck (qn (cs (ce (sr (wp 1 (gi a0 fun d0 a0 => ahu a2 a1.length a3 9 1 .i64 a4 Tryz.underlying54 krf krf krf a1 rfl d0 (a9.rdrw 0 rfl) aoi (by decide) (gi a0 fun d1 a0 => ?_)))))))
  refine w_ldE1 a2 eS a1 1 a4 aoi (a9.rdrw 0 rfl) (str (el a1 a4)) d1 (by decide) krf krf krf (wp 2 (nq (sr (wp 4 (bi a0 fun b0 d2 a0 => wc ent79 a9 (K_L_header_tidy d2 (hG.hp0 a9)) fun e3 b9 => wp 3 ?_)))))
  refine gi a0 fun d3 a0 => ahu a2 a1.length a3 9 1 .i64 a4 Tryz.underlying54 krf krf krf a1 rfl d3 (b9.rdrw 0 rfl) aoi (by decide) (gi a0 fun d4 a0 => w_stE1 b9 0 a8 a2 a3 9 a4 a1 b0.1 rfl aoi (str b0.1) d4 krf krf krf krf fun d5 b2 => ?_)
  replace b2 : Hp w [] [rwt eS 9 1 a8 a2 a3 (zak a1 (zad a4) b0.1)] d5 := b2
  refine wp 1 (nq (sr (wp 1 (afs b0.2 (0 : UInt8) krf krf (nq (cn a0 (fun d6 a0 => ?_) (fun d6 a0 => ?_)))))))
  exact nzz a0
  refine ck (bn (qn (cr (gi a0 fun d7 a0 => aah a4 (1 : Int) krf krf d7 (wp 1 (wl (ql ?_)))))))
  exact ⟨(a7, zak a1 (zad a4) b0.1, a4 + (1 : Int)), _, rfl, (mc krf (mc krf (mc krf (mc (Eq.trans (b := (Vs a2 a1.length a3)) krf (aaj lsy)) (mc (Eq.trans (b := (Vs a2 a1.length a3)) krf (aaj lsy)) (mc krf (mc krf rfl))))))), ⟨b2.kp, lsz, a0⟩, zac _⟩
  refine ace (acd (acq (acf (ql ?_))))
  obtain rfl := oi a0
  exact ⟨a1, _, rfl, by kernel_rfl, a9.kp, lsz, rfl⟩
  rintro a5 d8 G ⟨b3, e4, rfl⟩
  refine sr (wp 1 (gi hr fun d9 hr => aat 80 #[] [(Vs a2 a5.length a3), (str ([44, 32] : Str))] _ ent80 krf krf (sh_Join ([44, 32] : Str) d8 a2 a5.length a3 a5 rfl (b3.rdrw 0 rfl) (b3.rwcap 0 rfl) d9) ?_))
  rintro _ e5 ⟨rfl, c0⟩
  have e0 := b3.call c0; clear c0
  refine wp 2 (nq (ct ?_))
  obtain rfl := oi hr
  exact rv e0.kp
theorem K_L_header_upperByte {fu : Nat} {a0 : UInt8} {w : World} {r : UInt8} (hr : aml fu a0 = some r) (hG : Gl w) : CR Tryz.prog 53 [(bt a0)] w fun v w' => v = (bt r) ∧ Hp w [] [] w' := by
  have hH : Hp w [] [] w := Hp.refl w
  refine enter (k := 12) Tryz.func53 rfl rfl nbe ?_
  unfold aml at hr
  refine sr (wp 1 (nq (cs (bi hr fun v5 a1 hr => agq hH [0, 2, 8] [(8, (Vb v5))] ?_ ?_))))
  refine cr (wp 1 (aja a0 (97 : UInt8) krf krf (wd a1 (fun h6 a1 => ?_) (fun h6 a1 => ?_))))
  refine wp 1 (gy 5 (aiz a0 (122 : UInt8) krf krf (wp 1 (wl (ql ?_)))))
  obtain rfl := oi a1
  exact je hH.kp
  refine wp 3 (wl (ql ?_))
  obtain rfl := oi a1
  exact je hH.kp
  intro w7 G a2
  refine cb hr (fun h9 hr => ?_) (fun h9 hr => ?_)
  refine cr (wp 1 (w8_sub a0 (32 : UInt8) krf krf (wp 1 (nq (sr (wp 2 (wl ?_)))))))
  refine qn (ct ?_)
  obtain rfl := oi hr
  exact rv a2.kp
  refine ck (qn (sr (wp 2 (nq (ct ?_)))))
  obtain rfl := oi hr
  exact rv a2.kp
theorem ahh {fu : Nat} {s_0 : Str} {w : World} {r : Str} (hr : aek fu s_0 = some r) (hG : Gl w) : CR Tryz.prog 52 [(str s_0), (zan (.func 53) #[] #[])] w fun v w' => v = (str r) ∧ Hp w [] [] w' := by
  have hH : Hp w [] [] w := Hp.refl w
  refine enter (k := 26) Tryz.func52 rfl rfl nbe ?_
  unfold aek at hr
  refine sr (wp 1 (nq (sr (wp 1 (w_tobytes hH s_0 5 Tryz.underlying9 Tryz.underlying92 Tryz.underlying5 krf fun a1 cap2 w3 b2 => wp 1 ?_)))))
  refine nq (bi hr fun b1 b3 hr => cut (σ := Str) [4, 5] (fun a4 => []) (fun a4 w' => Hp w [] [brow (Vs a1 s_0.length cap2) s_0.length a4] w' ∧ a4 = b1) ?_ ?_)
  refine sr (wp 3 (nq (ce (lpG (σ := Nat × Str × Int) [1, 4, 5, 10, 11, 12] (fun ⟨a5, a3, a2⟩ => [(12, (Vi .i64 a2))]) (fun ⟨a5, a3, a2⟩ w' => Hp w [] [brow (Vs a1 s_0.length cap2) s_0.length a3] w' ∧ ads fu s_0 a5 a3 a2 = some b1) (fun ⟨a5, a3, a2⟩ => a5) (fu, s_0, (0 : Int)) (by exact ⟨b2.kp, b3⟩) ?_))))
  rintro ⟨_ | a5, a3, a2⟩ c3 G ⟨a6, a0⟩
  · exact nzz a0
  rw [ads.eq_2] at a0
  refine sr (wp 1 (nq (cs (cd a0 (fun b4 a0 => ?_) (fun b4 a0 => ?_)))))
  refine ck (qn (cs (ce (sr (wp 1 (gi a0 fun b5 a0 => ahu a1 s_0.length cap2 5 1 .i64 a2 Tryz.underlying92 krf krf krf a3 (a6.browlen 0 rfl).symm b5 (Rd.ofbytes (a6.rdbrow 0 rfl)) alj (by decide) (gi a0 fun b6 a0 => ?_)))))))
  refine w_ldE1 a1 eB a3 1 a2 alj (Rd.ofbytes (a6.rdbrow 0 rfl)) (bt (at_ a3 a2)) b6 (by decide) krf krf krf (wp 2 (nq (cr (wp 4 (bi a0 fun a7 b7 a0 => wc ent53 a6 (K_L_header_upperByte b7 (hG.hp0 a6)) fun c4 a8 => gi a0 fun b8 a0 => ahu a1 s_0.length cap2 5 1 .i64 a2 Tryz.underlying92 krf krf krf a3 (a8.browlen 0 rfl).symm b8 (Rd.ofbytes (a8.rdbrow 0 rfl)) alj (by decide) ?_)))))
  refine gi a0 fun b9 a0 => w_stB a8 0 a1 s_0.length cap2 a2 a3 a7 rfl b9 krf krf krf fun c0 a9 => ?_
  replace a9 : Hp w [] [brow (Vs a1 s_0.length cap2) s_0.length (zak a3 (zad a2) a7)] c0 := a9
  refine wl (bn (qn (cr (gi a0 fun c1 a0 => aah a2 (1 : Int) krf krf c1 (wp 1 (wl (ql ?_)))))))
  exact ⟨(a5, zak a3 (zad a2) a7, a2 + (1 : Int)), _, rfl, by kernel_rfl, ⟨a9.kp, a0⟩, zac _⟩
  refine ace (acd (acq (acf (ql ?_))))
  obtain rfl := oi a0
  exact ⟨a3, _, rfl, by kernel_rfl, a6.kp, rfl⟩
  rintro a4 c2 G ⟨b0, rfl⟩
  refine sr (wp 1 (aey (v := (str a4)) (w' := c2) rfl rfl (apc a4 a1 s_0.length cap2 5 (Rd.bytes (Rd.ofbytes (b0.rdbrow 0 rfl))) (b0.browlen 0 rfl) Tryz.underlying92 Tryz.underlying9 Tryz.underlying5 krf) (wp 1 (nq (ct ?_)))))
  obtain rfl := oi hr
  exact rv b0.kp
end Go.Proofs
set_option linter.unusedVariables false
set_option linter.unusedSimpArgs false
set_option maxRecDepth 20000
set_option maxHeartbeats 1000000
namespace Go.Proofs
open Go.Wk Go.Px
open Go.Value renaming slice → Vs, int → Vi, bool → Vb, pointer → Vp
open Go.Value renaming agg → zam, tuple → zal
open Int renaming toNat → zad
open List renaming drop → zar, flatMap → zai, take → zaz
open Nat renaming lt_of_lt_of_le → zaj, lt_succ_self → zac
theorem ent15 : Go.Wk.Enters Tryz.prog 15 := ⟨Tryz.f15, _, Tryz.func15, rfl, by kernel_rfl⟩
theorem ent25 : Go.Wk.Enters Tryz.prog 25 := ⟨Tryz.f25, _, Tryz.func25, rfl, by kernel_rfl⟩
theorem ent28 : Go.Wk.Enters Tryz.prog 28 := ⟨Tryz.f28, _, Tryz.func28, rfl, by kernel_rfl⟩
theorem ent32 : Go.Wk.Enters Tryz.prog 32 := ⟨Tryz.f32, _, Tryz.func32, rfl, by kernel_rfl⟩
theorem ent57 : Go.Wk.Enters Tryz.prog 57 := ⟨Tryz.f57, _, Tryz.func57, rfl, by kernel_rfl⟩
theorem ent58 : Go.Wk.Enters Tryz.prog 58 := ⟨Tryz.f58, _, Tryz.func58, rfl, by kernel_rfl⟩
theorem ent86 : Go.Wk.Enters Tryz.prog 86 := ⟨Tryz.f86, _, Tryz.func86, rfl, by kernel_rfl⟩
theorem ent109 : Go.Wk.Enters Tryz.prog 109 := ⟨Tryz.f109, _, Tryz.func109, rfl, by kernel_rfl⟩
theorem K_L_header_cutPort {fu : Nat} {s_0 : Str} {w : World} {r : (Str × Str × Bool)} (hr : ans fu s_0 = some r) (hG : Gl w) : CR Tryz.prog 57 [(str s_0)] w fun v w' => v = (zal #[(str r.1), (str r.2.1), (Vb r.2.2)]) ∧ Hp w [] [] w' := by
  have hH : Hp w [] [] w := Hp.refl w
  refine enter (k := 30) Tryz.func57 rfl rfl nbe ?_
  unfold ans at hr
  refine sr (wp 3 (nq (sr (wp 1 (gi hr fun g4 hr => aat 109 #[] [(str s_0), (bt (58 : UInt8))] _ ent109 krf krf (sh_LastIndexByte s_0 (58 : UInt8) w g4) ?_)))))
  rintro _ w1 ⟨rfl, a2⟩
  have a1 := hH.call a2; clear a2
  refine wp 1 (nq (cs (bi hr fun b4 a0 hr => agq a1 [0, 2, 3, 4, 5, 21] [(21, (Vb false))] ?_ ?_)))
  refine cr (wp 2 (wd a0 (fun a4 a0 => ?_) (fun a4 a0 => ?_)))
  exact nzz a0
  refine wp 2 (gy 10 (gi a0 fun a5 a0 => akv s_0 .i64 (lixb (· == (58 : UInt8)) s_0) Tryz.underlying9 krf krf a5 (gy 10 (gi a0 fun a6 a0 => aat 110 #[] [(str (zaz (zad (lixb (· == (58 : UInt8)) s_0)) s_0)), (str ([91] : Str))] _ ent110 krf krf (sh_Contains (zaz (zad (lixb (· == (58 : UInt8)) s_0)) s_0) ([91] : Str) w1 a6 (hG.hp0 a1)) ?_))))
  rintro _ b5 ⟨rfl, a3⟩
  have a7 := a1.call a3; clear a3
  refine gy 10 (wb a0 (fun a8 a0 => ?_) (fun a8 a0 => ?_))
  exact nzz a0
  refine wp 6 (wl (ql ?_))
  obtain rfl := oi a0
  exact je a7.kp
  intro b6 G a9
  refine c_false krf (ck (qn (cs (gi hr fun b0 hr => gi hr fun b1 hr => gi hr fun b2 hr => cdr 8 a9 (acz acy) fun b7 b3 => rp 6 [0, 1] (rt 2 (str (zaz (zad (lixb (· == (58 : UInt8)) s_0)) s_0)) rfl rfl (abc rfl (by intro w hS_; exact (x_slice_to s_0 .i64 (lixb (· == (58 : UInt8)) s_0) Tryz.underlying9 krf krf b0))) ?_)))))
  refine rp 3 [3, 4] (rt 5 (Vi .i64 ((lixb (· == (58 : UInt8)) s_0) + (1 : Int))) rfl rfl (abc rfl (by intro w hS_; exact (alv (lixb (· == (58 : UInt8)) s_0) (1 : Int) krf krf b1))) (rt 6 (str (zar (zad ((lixb (· == (58 : UInt8)) s_0) + (1 : Int))) s_0)) rfl rfl (abc rfl (by intro w hS_; exact (aou s_0 .i64 ((lixb (· == (58 : UInt8)) s_0) + (1 : Int)) Tryz.underlying9 krf krf b2))) (rp 0 [7] (adi krf (wp 2 (nq (ct ?_)))))))
  obtain rfl := oi hr
  exact rv b3.kp
theorem K_L_lexis_Number {fu : Nat} {s_0 : Str} {w : World} {r : (Int × UInt8)} (hr : anj fu s_0 = some r) (hG : Gl w) : CR Tryz.prog 58 [(str s_0)] w fun v w' => v = (zal #[(Vi .i64 r.1), (bt r.2)]) ∧ Hp w [] [] w' := by
  have hH : Hp w [] [] w := Hp.refl w
  refine enter (k := 41) Tryz.func58 rfl rfl nbe ?_
  unfold anj at hr
  refine sr (wp 2 (nq (cs (bi hr fun v4 a4 hr => agq hH [0, 2, 3, 13] [(13, (Vb (decide ((10 : Int) < (s_0.length : Int)))))] ?_ ?_))))
  refine cr (wp 3 (wd a4 (fun h5 a4 => ?_) (fun h5 a4 => ?_)))
  exact nzz a4
  refine wp 4 (wl (ql ?_))
  obtain rfl := oi a4
  exact je hH.kp
  intro w6 G a6
  refine cd hr (fun h8 hr => ?_) (fun h8 hr => ?_)
  exact nzz hr
  refine ck (qn (sr (wp 1 (nq (bi hr fun a8 a9 hr => agq a6 [2, 3, 4] [(4, (Vi .i64 a8))] ?_ ?_)))))
  refine sr (wp 3 (nq (ce (lpS (fun a7 ⟨a3, a1⟩ => akj fu s_0 a7 a3 a1) ((0 : Int), (0 : Int)) a6 a9 [0, 2, 3, 4, 15, 16] (fun ⟨a3, a1⟩ => [(4, (Vi .i64 a3)), (16, (Vi .i64 a1))]) (fun _ => rfl) ?_))))
  rintro a7 ⟨a3, a1⟩ c2 G a5 a0
  dsimp only at a0
  rw [akj.eq_2] at a0
  refine sr (wp 1 (nq (cs (cd a0 (fun b0 a0 => ?_) (fun b0 a0 => ?_)))))
  refine ck (qn (cs (ce (sr (wp 2 (nq (cs ?_)))))))
  refine bi a0 fun c3 a2 a0 => agq a5 [0, 2, 3, 4, 5, 15, 16, 28] [(28, (Vb (decide ((57 : UInt8) < (at_ s_0 a1)))))] ?_ ?_
  refine cr (wp 2 (gi a2 fun b1 a2 => abp s_0 .i64 a1 Tryz.underlying9 krf krf b1 (w8_lss (at_ s_0 a1) (48 : UInt8) krf krf (wd a2 (fun b2 a2 => ?_) (fun b2 a2 => ?_)))))
  exact nzz a2
  refine wp 2 (gy 23 (gi a2 fun b3 a2 => abp s_0 .i64 a1 Tryz.underlying9 krf krf b3 (gy 23 (w8_gtr (at_ s_0 a1) (57 : UInt8) krf krf (wp 1 (wl (ql ?_)))))))
  obtain rfl := oi a2
  exact je a5.kp
  intro c4 G b4
  refine cd a0 (fun b5 a0 => ?_) (fun b5 a0 => ?_)
  exact nzz a0
  refine ck (qn (cr (wp 1 (gi a0 fun b6 a0 => aoh (10 : Int) a3 krf krf b6 (wp 2 (gi a0 fun b7 a0 => abp s_0 .i64 a1 Tryz.underlying9 krf krf b7 (w8_sub (at_ s_0 a1) (48 : UInt8) krf krf ?_)))))))
  refine w_convx .i64 .u8 (((at_ s_0 a1) - (48 : UInt8)).toNat : Int) Tryz.underlying5 Tryz.underlying2 krf (amw _) (gi a0 fun b8 a0 => aah ((10 : Int) * a3) (((at_ s_0 a1) - (48 : UInt8)).toNat : Int) krf krf b8 (wp 1 (wl (bn (qn (cr (gi a0 fun b9 a0 => aah a1 (1 : Int) krf krf b9 ?_)))))))
  exact wp 1 (wl (ql (le' (((10 : Int) * a3) + (((at_ s_0 a1) - (48 : UInt8)).toNat : Int), a1 + (1 : Int)) b4.kp a0)))
  refine ace (acd (acq (acf (ql ?_))))
  obtain rfl := oi a0
  exact je a5.kp
  intro c5 G c0
  refine cs (sr (wp 2 (nq (cd hr (fun c1 hr => ?_) (fun c1 hr => ?_)))))
  exact nzz hr
  refine ck (qn (sr (wp 3 (nq (ct ?_)))))
  obtain rfl := oi hr
  exact rv c0.kp
theorem K_L_address_Get {fu : Nat} {a0 : List (Str × Str × Bool)} {a8 : Str} (a2 : Option Addr) (a4 : Nat) (a5 : Nat) {w : World} {r : (Str × Bool)} (hr : aqn fu a0 a8 = some r) (hG : Gl w) (b2 : a4 = a0.length) (a9 : Rd w a2 (zai aaa a0)) (c1 : a4 ≤ a5) : CR Tryz.prog 28 [(Vs a2 a4 a5), (str a8)] w fun v w' => v = (zal #[(str r.1), (Vb r.2)]) ∧ Hp w [] [] w' := by
  subst b2
  have hH : Hp w [] [] w := Hp.refl w
  refine enter (k := 24) Tryz.func28 rfl rfl nbe ?_
  unfold aqn at hr
  refine sr (wp 2 (nq (sr (wp 1 (bi hr fun y1 b3 hr => wc ent84 hH (ado b3 (hG.hp0 hH)) fun w3 b4 => ?_)))))
  refine wp 1 (nq (cs (sr (wp 3 (nq (ce ?_))))))
  refine lpS (fun b0 (_ : Unit) => anc fu a0 y1 b0) () b4 hr [1, 4, 5, 10, 11, 12] (fun (_ : Unit) => []) (fun _ => rfl) ?_
  rintro b0 _ c2 G a6 a1
  rw [anc.eq_2] at a1
  refine sr (wp 1 (nq (cs (cd a1 (fun b5 a1 => ?_) (fun b5 a1 => ?_)))))
  refine ck (qn (cs (ce (sr (gi a1 fun b6 a1 => ahu a2 a0.length a5 46 3 .i64 (0 : Int) Tryz.underlying22 krf krf krf a0 rfl b6 (a9.hp a6) aab (by decide) (gi a1 fun b7 a1 => aiy a2 aaa a0 3 (0 : Int) aab (a9.hp a6) [(str ((el a0 (0 : Int)).1)), (str ((el a0 (0 : Int)).2.1)), (Vb ((el a0 (0 : Int)).2.2))] b7 krf krf krf krf (by decide) ?_))))))
  refine adx a6 [(str ([] : Str)), (str ([] : Str)), (Vb false)] 46 (fun b => (Vp (some ⟨b, 0, none⟩))) rfl rfl krf fun a3 c3 b8 => ahl b8 0 a3 0 [(str ([] : Str)), (str ([] : Str)), (Vb false)] [(str ((el a0 (0 : Int)).1)), (str ((el a0 (0 : Int)).2.1)), (Vb ((el a0 (0 : Int)).2.2))] 46 [blk a3 [(str ((el a0 (0 : Int)).1)), (str ((el a0 (0 : Int)).2.1)), (Vb ((el a0 (0 : Int)).2.2))] 46] rfl nbe krf krf rfl krf rfl fun c4 a7 => nq (sr (wp 1 (acr a7 0 a3 0 [(str ((el a0 (0 : Int)).1)), (str ((el a0 (0 : Int)).2.1)), (Vb ((el a0 (0 : Int)).2.2))] 46 (str ((el a0 (0 : Int)).1)) rfl rfl krf krf (bi a1 fun c5 b9 a1 => wc ent84 a7 (ado b9 (hG.hp0 a7)) fun c6 b1 => ?_))))
  refine wp 2 (nq (cd a1 (fun c0 a1 => ?_) (fun c0 a1 => ?_)))
  refine sr (wp 1 (acr b1 0 a3 1 [(str ((el a0 (0 : Int)).1)), (str ((el a0 (0 : Int)).2.1)), (Vb ((el a0 (0 : Int)).2.2))] 46 (str ((el a0 (0 : Int)).2.1)) rfl rfl krf krf (wp 2 (nq (ct (bt_ (st ?_)))))))
  refine adl (bt_ (st ?_))
  obtain rfl := oi a1
  exact rv b1.kp
  exact nzz a1
  exact nzz a1
theorem K_L_header_Via {fu : Nat} {b7 : Str} {w : World} {r : ((Str × Str × Int × Str × (List (Str × Str × Bool))) × UInt8)} (hr : L_header_Via fu b7 = some r) (hG : Gl w) : CR Tryz.prog 15 [(str b7)] w fun v w' => ∃ (o0 : Option Nat), ∃ (a0 : Option Addr), ∃ (cap0 : Nat), v = (zal #[(zam #[(str r.1.1), (str r.1.2.1), (Vi .i64 r.1.2.2.1), (str r.1.2.2.2.1), (Vs a0 r.1.2.2.2.2.length cap0)]), (bt r.2)]) ∧ Hp w [] [rwt aaa 46 3 o0 a0 cap0 r.1.2.2.2.2] w' := by
  have hH : Hp w [] [] w := Hp.refl w
  refine enter (k := 120) Tryz.func15 rfl rfl nbe ?_
  unfold L_header_Via at hr
  refine sr (adx hH [(str ([] : Str)), (str ([] : Str)), (Vi .i64 (0 : Int)), (str ([] : Str)), (Vs none 0 0)] 24 (fun b => (Vp (some ⟨b, 0, none⟩))) rfl rfl krf fun b1 w2 b8 => wp 1 (nq (sr (wp 1 (bi hr fun y4 d3 hr => ?_)))))
  refine wc ent51 b8 (akt d3 (hG.hp0 b8)) fun w6 b6 => wp 1 (nq (cs (bi hr fun d4 b0 hr => agq b6 [0, 2, 3, 30] [(30, (Vb d4))] ?_ ?_)))
  refine cr (wp 3 (wd b0 (fun d5 b0 => ?_) (fun d5 b0 => ?_)))
  exact nzz b0
  refine wp 1 (gy 25 (gi b0 fun d6 b0 => akv y4 .i64 (8 : Int) Tryz.underlying9 krf krf d6 (gy 25 (bi b0 fun h3 d7 b0 => wc ent52 b6 (ahh d7 (hG.hp0 b6)) fun h4 d8 => wp 2 (wl (ql ?_))))))
  obtain rfl := oi b0
  exact je d8.kp
  intro h5 G b9
  refine cb hr (fun d9 hr => ?_) (fun d9 hr => ?_)
  exact nzz hr
  refine ck (qn (sr (wp 1 (bi hr fun c0 e0 hr => wc ent54 b9 (ain e0 (hG.hp0 b9)) fun h6 c1 => wp 1 (nq ?_)))))
  refine sr (wp 2 (bi hr fun a7 e1 hr => wc ent55 c1 (alu e1 (hG.hp0 c1)) fun h7 c2 => wp 1 (nq (cs (bi hr fun h8 b3 hr => agq c2 [0, 2, 3, 4, 5, 43] [(43, (Vb (decide (a7 = c0))))] ?_ ?_)))))
  refine cr (wp 2 (wd b3 (fun e2 b3 => ?_) (fun e2 b3 => ?_)))
  exact nzz b3
  refine wp 4 (wl (ql ?_))
  obtain rfl := oi b3
  exact je c2.kp
  intro h9 G c3
  refine cd hr (fun e3 hr => ?_) (fun e3 hr => ?_)
  exact nzz hr
  refine ck (qn (sr (wp 2 (gi hr fun e4 hr => amx y4 .i64 .i64 (8 : Int) c0 Tryz.underlying9 krf krf krf e4 (bi hr fun a1 e5 hr => wc ent52 c3 (ahh e5 (hG.hp0 c3)) fun i0 e6 => wp 1 ?_)))))
  refine adx e6 [(str ([] : Str)), (str ([] : Str)), (Vi .i64 (0 : Int)), (str ([] : Str)), (Vs none 0 0)] 24 (fun b => (Vp (some ⟨b, 0, none⟩))) rfl rfl krf fun a8 i1 e7 => ahl e7 0 a8 0 [(str ([] : Str)), (str ([] : Str)), (Vi .i64 (0 : Int)), (str ([] : Str)), (Vs none 0 0)] [(str a1), (str ([] : Str)), (Vi .i64 (0 : Int)), (str ([] : Str)), (Vs none 0 0)] 24 [blk a8 [(str a1), (str ([] : Str)), (Vi .i64 (0 : Int)), (str ([] : Str)), (Vs none 0 0)] 24, blk b1 [(str ([] : Str)), (str ([] : Str)), (Vi .i64 (0 : Int)), (str ([] : Str)), (Vs none 0 0)] 24] rfl nbe krf krf rfl krf rfl fun e8 e9 => nq (sr (wp 2 (gi hr fun f0 hr => agl y4 .i64 a7 Tryz.underlying9 krf krf f0 (wp 2 ?_))))
  refine nq (cs (sr (wp 1 (gi hr fun f1 hr => aat 56 #[] [(str (zar (zad a7) y4)), (str ([59, 32, 9] : Str))] _ ent56 krf krf (sh_IndexAny (zar (zad a7) y4) ([59, 32, 9] : Str) e8 f1) ?_))))
  rintro _ i2 ⟨rfl, c4⟩
  have f2 := e9.call c4; clear c4
  refine wp 1 (nq (sr (wp 2 (nq (cd hr (fun f3 hr => ?_) (fun f3 hr => ?_))))))
  refine gi hr fun f4 hr => gi hr fun f5 hr => cdr 7 f2 (acz acy) fun i3 c5 => rp 5 [0, 1] (rt 2 (str (zaz (zad (Lib.indexAny (zar (zad a7) y4) ([59, 32, 9] : Str))) (zar (zad a7) y4))) rfl rfl (abc rfl (by intro w hS_; exact (x_slice_to (zar (zad a7) y4) .i64 (Lib.indexAny (zar (zad a7) y4) ([59, 32, 9] : Str)) Tryz.underlying9 krf krf f4))) (rp 2 [3, 4] (rt 5 (str (zar (zad (Lib.indexAny (zar (zad a7) y4) ([59, 32, 9] : Str))) (zar (zad a7) y4))) rfl rfl (abc rfl (by intro w hS_; exact (aou (zar (zad a7) y4) .i64 (Lib.indexAny (zar (zad a7) y4) ([59, 32, 9] : Str)) Tryz.underlying9 krf krf f5))) (rp 0 [6] (adi krf (wp 1 ?_))))))
  refine nq (sr (wp 1 (bi hr fun i4 f6 hr => wc ent57 c5 (K_L_header_cutPort f6 (hG.hp0 c5)) fun i5 c6 => wp 7 (nq ?_))))
  refine sr (wp 1 (bi hr fun a3 f7 hr => wc ent26 c6 (aic f7 (hG.hp0 c6)) fun i6 f8 => wp 5 (nq (cs (cs ?_)))))
  refine cr (wp 2 (nq (cb hr (fun f9 hr => ?_) (fun f9 hr => ?_))))
  exact nzz hr
  refine ck (qn (sr (wp 2 (aht f8 0 a8 1 [(str a1), (str ([] : Str)), (Vi .i64 (0 : Int)), (str ([] : Str)), (Vs none 0 0)] 24 (str a3.1) [blk a8 [(str a1), (str a3.1), (Vi .i64 (0 : Int)), (str ([] : Str)), (Vs none 0 0)] 24, blk b1 [(str ([] : Str)), (str ([] : Str)), (Vi .i64 (0 : Int)), (str ([] : Str)), (Vs none 0 0)] 24] rfl (zaj (zac _) nbe) krf krf rfl krf rfl fun i7 c7 => nq (cs (cs ?_))))))
  refine cr (wp 1 (nq (cb hr (fun g0 hr => ?_) (fun g0 hr => ?_))))
  refine sr (wp 1 (bi hr fun a2 g1 hr => wc ent58 c7 (K_L_lexis_Number g1 (hG.hp0 c7)) fun i9 c8 => wp 5 (nq (cs (bi hr fun j0 b2 hr => agq c8 [2, 3, 6, 8, 15, 16, 94] [(94, (Vb (decide ((65535 : Int) < a2.1))))] ?_ ?_)))))
  refine cr (wp 1 (acv a2.2 (0 : UInt8) krf krf (wd b2 (fun g2 b2 => ?_) (fun g2 b2 => ?_))))
  refine wp 2 (gy 87 (wd b2 (fun g3 b2 => ?_) (fun g3 b2 => ?_)))
  exact nzz b2
  refine wp 4 (wl (ql ?_))
  obtain rfl := oi b2
  exact je (Hp.front (Hp.front c8 1 _ rfl) 1 _ rfl).kp
  exact nzz b2
  intro j1 G g4
  refine cd hr (fun g5 hr => ?_) (fun g5 hr => ?_)
  exact nzz hr
  refine ck (qn (cs (sr (wp 1 (afs a2.2 (0 : UInt8) krf krf (nq (cn hr (fun g6 hr => ?_) (fun g6 hr => ?_))))))))
  exact nzz hr
  refine ck (qn (cr (wp 2 (aht g4 0 a8 2 [(str a1), (str a3.1), (Vi .i64 (0 : Int)), (str ([] : Str)), (Vs none 0 0)] 24 (Vi .i64 a2.1) [blk a8 [(str a1), (str a3.1), (Vi .i64 a2.1), (str ([] : Str)), (Vs none 0 0)] 24, blk b1 [(str ([] : Str)), (str ([] : Str)), (Vi .i64 (0 : Int)), (str ([] : Str)), (Vs none 0 0)] 24] rfl (zaj (zac _) nbe) krf krf rfl krf rfl fun j2 c9 => nq (sr (wp 1 ?_))))))
  refine bi hr fun a4 g7 hr => aat 59 #[] [(str (zar (zad (Lib.indexAny (zar (zad a7) y4) ([59, 32, 9] : Str))) (zar (zad a7) y4)))] _ ent59 krf krf (ams g7 (hG.hp0 c9)) ?_
  rintro _ g8 ⟨b4, a5, a6, rfl, d0⟩
  have g9 : Hp w [] [rwt aaa 46 3 b4 a5 a6 a4.1, blk a8 [(str a1), (str a3.1), (Vi .i64 a2.1), (str ([] : Str)), (Vs none 0 0)] 24, blk b1 [(str ([] : Str)), (str ([] : Str)), (Vi .i64 (0 : Int)), (str ([] : Str)), (Vs none 0 0)] 24] g8 := Hp.callK (L1 := []) (L2 := [blk a8 [(str a1), (str a3.1), (Vi .i64 a2.1), (str ([] : Str)), (Vs none 0 0)] 24, blk b1 [(str ([] : Str)), (str ([] : Str)), (Vi .i64 (0 : Int)), (str ([] : Str)), (Vs none 0 0)] 24]) c9 d0; clear d0
  refine wp 7 (nq (cs (sr (wp 1 (afs a4.2.2 (0 : UInt8) krf krf (nq (cn hr (fun h0 hr => ?_) (fun h0 hr => ?_))))))))
  exact nzz hr
  refine ck (qn (sr (wp 2 (aht g9 1 a8 4 [(str a1), (str a3.1), (Vi .i64 a2.1), (str ([] : Str)), (Vs none 0 0)] 24 (Vs a5 a4.1.length a6) [rwt aaa 46 3 b4 a5 a6 a4.1, blk a8 [(str a1), (str a3.1), (Vi .i64 a2.1), (str ([] : Str)), (Vs a5 a4.1.length a6)] 24, blk b1 [(str ([] : Str)), (str ([] : Str)), (Vi .i64 (0 : Int)), (str ([] : Str)), (Vs none 0 0)] 24] rfl (zaj (zac _) nbe) krf krf rfl krf rfl fun j3 b5 => nq (sr ?_)))))
  refine wp 1 (bi hr fun a9 h1 hr => wc ent28 b5 (K_L_address_Get a5 a4.1.length a6 h1 (hG.hp0 b5) rfl (b5.rdrw 0 rfl) (b5.rwcap 0 rfl)) fun j4 h2 => wp 4 (aht h2 1 a8 3 [(str a1), (str a3.1), (Vi .i64 a2.1), (str ([] : Str)), (Vs a5 a4.1.length a6)] 24 (str a9.1) [rwt aaa 46 3 b4 a5 a6 a4.1, blk a8 [(str a1), (str a3.1), (Vi .i64 a2.1), (str a9.1), (Vs a5 a4.1.length a6)] 24, blk b1 [(str ([] : Str)), (str ([] : Str)), (Vi .i64 (0 : Int)), (str ([] : Str)), (Vs none 0 0)] 24] rfl (zaj (zac _) nbe) krf krf rfl krf rfl fun j5 d1 => nq (sr (aob d1 1 a8 0 5 [(str a1), (str a3.1), (Vi .i64 a2.1), (str a9.1), (Vs a5 a4.1.length a6)] [(str a1), (str a3.1), (Vi .i64 a2.1), (str a9.1), (Vs a5 a4.1.length a6)] 24 rfl rfl rfl krf krf krf ?_))))
  refine ahl d1 2 b1 0 [(str ([] : Str)), (str ([] : Str)), (Vi .i64 (0 : Int)), (str ([] : Str)), (Vs none 0 0)] [(str a1), (str a3.1), (Vi .i64 a2.1), (str a9.1), (Vs a5 a4.1.length a6)] 24 [rwt aaa 46 3 b4 a5 a6 a4.1, blk a8 [(str a1), (str a3.1), (Vi .i64 a2.1), (str a9.1), (Vs a5 a4.1.length a6)] 24, blk b1 [(str a1), (str a3.1), (Vi .i64 a2.1), (str a9.1), (Vs a5 a4.1.length a6)] 24] rfl nbe krf krf rfl krf rfl fun j6 d2 => wp 1 (nq (ct ?_))
  obtain rfl := oi hr
  refine aor _ [(zam #[(str a1), (str a3.1), (Vi .i64 a2.1), (str a9.1), (Vs a5 a4.1.length a6)]), (bt (0 : UInt8))] (zal #[(zam #[(str a1), (str a3.1), (Vi .i64 a2.1), (str a9.1), (Vs a5 a4.1.length a6)]), (bt (0 : UInt8))]) rfl rfl (abh (ahv d2 2 b1 24 [(str a1), (str a3.1), (Vi .i64 a2.1), (str a9.1), (Vs a5 a4.1.length a6)] rfl krf krf krf) (abh (afe krf) agu)) rfl ?_
  exact ⟨b4, a5, a6, (by first | rfl | (simp; done) | (simp; omega)), d2.kp⟩
  exact nzz hr
  exact nzz hr
theorem K_L_header_numbered {fu : Nat} {s_0 : Str} {w : World} {r : (Int × Str × UInt8)} (hr : amz fu s_0 = some r) (hG : Gl w) : CR Tryz.prog 86 [(str s_0)] w fun v w' => v = (zal #[(Vi .i64 r.1), (str r.2.1), (bt r.2.2)]) ∧ Hp w [] [] w' := by
  have hH : Hp w [] [] w := Hp.refl w
  refine enter (k := 28) Tryz.func86 rfl rfl nbe ?_
  unfold amz at hr
  refine sr (wp 3 (nq (sr (wp 1 (gi hr fun g4 hr => aat 56 #[] [(str s_0), (str ([32, 9] : Str))] _ ent56 krf krf (sh_IndexAny s_0 ([32, 9] : Str) w g4) ?_)))))
  rintro _ w1 ⟨rfl, a0⟩
  have a1 := hH.call a0; clear a0
  refine wp 1 (nq (cs (sr (wp 2 (nq (cd hr (fun h6 hr => ?_) (fun h6 hr => ?_)))))))
  exact nzz hr
  refine ck (qn (sr (wp 2 (gi hr fun g7 hr => akv s_0 .i64 (Lib.indexAny s_0 ([32, 9] : Str)) Tryz.underlying9 krf krf g7 (bi hr fun y8 a4 hr => wc ent58 a1 (K_L_lexis_Number a4 (hG.hp0 a1)) fun a9 a5 => wp 5 ?_)))))
  refine nq (cs (bi hr fun a2 a6 hr => gi hr fun a7 hr => cdr 9 a5 (acz acy) fun b0 a3 => rp 4 [0, 1, 2, 3, 6] (ro 4 rfl (wc ent55 a3 (alu a6 (hG.hp0 a3)) fun b1 a8 => wl ?_))))
  refine abq (by exact trivial) (rt 5 (str (zar (zad a2) s_0)) rfl rfl (abc rfl (by intro w hS_; exact (aou s_0 .i64 a2 Tryz.underlying9 krf krf a7))) (rp 0 [7, 8] (adi krf (wp 1 (nq (ct ?_))))))
  obtain rfl := oi hr
  exact rv a8.kp
theorem K_L_header_CSeq {fu : Nat} {a0 : Str} {w : World} {r : (Int × Str × UInt8)} (hr : aqm fu a0 = some r) (hG : Gl w) : CR Tryz.prog 32 [(str a0)] w fun v w' => v = (zal #[(Vi .i64 r.1), (str r.2.1), (bt r.2.2)]) ∧ Hp w [] [] w' := by
  have hH : Hp w [] [] w := Hp.refl w
  refine enter (k := 23) Tryz.func32 rfl rfl nbe ?_
  unfold aqm at hr
  refine sr (wp 3 (nq (sr (wp 1 (bi hr fun y1 a3 hr => wc ent51 hH (akt a3 (hG.hp0 hH)) fun w3 a1 => ?_)))))
  refine bi hr fun y6 a4 hr => wc ent86 a1 (K_L_header_numbered a4 (hG.hp0 a1)) fun w8 a2 => wp 7 (nq (cs (sr (wp 1 (afs y6.2.2 (0 : UInt8) krf krf ?_)))))
  refine nq (cn hr (fun a5 hr => ?_) (fun a5 hr => ?_))
  exact nzz hr
  refine ck (qn (cs (sr (wp 1 (bi hr fun a9 a6 hr => wc ent69 a2 (agx a6 (hG.hp0 a2)) fun b0 a7 => wp 1 (wl ?_))))))
  refine qn (cb hr (fun a8 hr => ?_) (fun a8 hr => ?_))
  exact nzz hr
  refine ck (qn (sr (wp 5 (nq (ct ?_)))))
  obtain rfl := oi hr
  exact rv a7.kp
theorem K_L_law03_awake {fu : Nat} {w : World} {r : Bool} (hr : amk fu = some r) (hG : Gl w) : CR Tryz.prog 14 [] w fun v w' => v = (Vb r) ∧ Hp w [] [] w' := by
  have hH : Hp w [] [] w := Hp.refl w
  refine enter (k := 77) Tryz.func14 rfl rfl nbe ?_
  unfold amk at hr
  refine sr (wp 1 (nq (sr (bi hr fun y1 b3 hr => wc ent34 hH (K_L_header_Canon b3 (hG.hp0 hH)) fun w3 a7 => wp 5 ?_))))
  refine nq (sr (bi hr fun y6 b4 hr => wc ent25 a7 (K_L_header_Tidy b4 (hG.hp0 a7)) fun w8 a8 => wp 5 (nq (cs ?_))))
  refine cr (bi hr fun a1 b5 hr => aat 15 #[] [(str ([115, 105, 112, 47, 50, 46, 48, 47, 117, 100, 112, 32, 104, 58, 53, 48, 54, 48, 59, 98, 114, 97, 110, 99, 104, 61, 122, 57] : Str))] _ ent15 krf krf (K_L_header_Via b5 (hG.hp0 a8)) ?_)
  rintro _ b6 ⟨a9, a2, a3, rfl, b0⟩
  have b7 : Hp w [] [rwt aaa 46 3 a9 a2 a3 a1.1.2.2.2.2] b6 := Hp.callK (L1 := []) (L2 := []) a8 b0; clear b0
  refine wp 3 (adx b7 [(str ([] : Str)), (str ([] : Str)), (Vi .i64 (0 : Int)), (str ([] : Str)), (Vs none 0 0)] 24 (fun b => (Vp (some ⟨b, 0, none⟩))) rfl rfl krf fun a4 d3 b8 => ahl b8 0 a4 0 [(str ([] : Str)), (str ([] : Str)), (Vi .i64 (0 : Int)), (str ([] : Str)), (Vs none 0 0)] [(str a1.1.1), (str a1.1.2.1), (Vi .i64 a1.1.2.2.1), (str a1.1.2.2.2.1), (Vs a2 a1.1.2.2.2.2.length a3)] 24 [blk a4 [(str a1.1.1), (str a1.1.2.1), (Vi .i64 a1.1.2.2.1), (str a1.1.2.2.2.1), (Vs a2 a1.1.2.2.2.2.length a3)] 24, rwt aaa 46 3 a9 a2 a3 a1.1.2.2.2.2] rfl nbe krf krf rfl krf rfl fun d4 b1 => wp 1 (nq (sr (bi hr fun b2 b9 hr => wc ent32 b1 (K_L_header_CSeq b9 (hG.hp0 b1)) fun d5 a5 => ?_))))
  refine wp 7 (nq (bi hr fun c0 a0 hr => cut (σ := Unit) [0] (fun a6 => [(0, (Vb (decide (b2.2.2 = (0 : UInt8)))))]) (fun a6 w' => Hp w [] [] w' ∧ a6 = c0) ?_ ?_))
  refine cr (wp 1 (acv y1.2 (0 : UInt8) krf krf (wd a0 (fun c1 a0 => ?_) (fun c1 a0 => ?_))))
  refine wp 3 (wd a0 (fun c2 a0 => ?_) (fun c2 a0 => ?_))
  refine wp 1 (gy 33 (acv y6.2 (0 : UInt8) krf krf (wp 1 (wd a0 (fun c3 a0 => ?_) (fun c3 a0 => ?_)))))
  refine wp 3 (wd a0 (fun c4 a0 => ?_) (fun c4 a0 => ?_))
  refine wp 1 (gy 41 (acv a1.2 (0 : UInt8) krf krf (wp 1 (wd a0 (fun c5 a0 => ?_) (fun c5 a0 => ?_)))))
  refine wp 1 (gy 45 (acr a5 0 a4 0 [(str a1.1.1), (str a1.1.2.1), (Vi .i64 a1.1.2.2.1), (str a1.1.2.2.2.1), (Vs a2 a1.1.2.2.2.2.length a3)] 24 (str a1.1.1) rfl rfl krf krf (wp 2 (wd a0 (fun c6 a0 => ?_) (fun c6 a0 => ?_)))))
  refine wp 1 (gy 50 (acr a5 0 a4 1 [(str a1.1.1), (str a1.1.2.1), (Vi .i64 a1.1.2.2.1), (str a1.1.2.2.2.1), (Vs a2 a1.1.2.2.2.2.length a3)] 24 (str a1.1.2.1) rfl rfl krf krf (wp 2 (wd a0 (fun c7 a0 => ?_) (fun c7 a0 => ?_)))))
  refine wp 1 (gy 55 (acr a5 0 a4 2 [(str a1.1.1), (str a1.1.2.1), (Vi .i64 a1.1.2.2.1), (str a1.1.2.2.2.1), (Vs a2 a1.1.2.2.2.2.length a3)] 24 (Vi .i64 a1.1.2.2.1) rfl rfl krf krf (wp 2 (wd a0 (fun c8 a0 => ?_) (fun c8 a0 => ?_)))))
  refine wp 1 (gy 60 (acr a5 0 a4 3 [(str a1.1.1), (str a1.1.2.1), (Vi .i64 a1.1.2.2.1), (str a1.1.2.2.2.1), (Vs a2 a1.1.2.2.2.2.length a3)] 24 (str a1.1.2.2.2.1) rfl rfl krf krf (wp 2 (wd a0 (fun c9 a0 => ?_) (fun c9 a0 => ?_)))))
  refine wp 3 (wd a0 (fun d0 a0 => ?_) (fun d0 a0 => ?_))
  refine wp 3 (wd a0 (fun d1 a0 => ?_) (fun d1 a0 => ?_))
  refine wp 1 (gy 73 (acv b2.2.2 (0 : UInt8) krf krf (wp 2 (wl (ql ?_)))))
  obtain rfl := oi a0
  exact ⟨(), _, rfl, by kernel_rfl, a5.kp, rfl⟩
  exact nzz a0
  exact nzz a0
  exact nzz a0
  exact nzz a0
  exact nzz a0
  exact nzz a0
  exact nzz a0
  exact nzz a0
  exact nzz a0
  exact nzz a0
  exact nzz a0
  rintro a6 d6 G ⟨d2, rfl⟩
  refine ct ?_
  obtain rfl := oi hr
  exact rv d2.kp
theorem K_L_header_Item {fu : Nat} {b0 : Str} {w : World} {r : ((Str × (List (Str × Str × Bool))) × UInt8)} (hr : amm fu b0 = some r) (hG : Gl w) : CR Tryz.prog 20 [(str b0)] w fun v w' => ∃ (o0 : Option Nat), ∃ (a0 : Option Addr), ∃ (cap0 : Nat), v = (zal #[(zam #[(str r.1.1), (Vs a0 r.1.2.length cap0)]), (bt r.2)]) ∧ Hp w [] [rwt aaa 46 3 o0 a0 cap0 r.1.2] w' := by
  have hH : Hp w [] [] w := Hp.refl w
  refine enter (k := 53) Tryz.func20 rfl rfl nbe ?_
  unfold amm at hr
  refine sr (adx hH [(str ([] : Str)), (Vs none 0 0)] 34 (fun b => (Vp (some ⟨b, 0, none⟩))) rfl rfl krf fun b1 w2 b2 => wp 1 (nq (sr (wp 1 (bi hr fun y4 c2 hr => ?_)))))
  refine wc ent51 b2 (akt c2 (hG.hp0 b2)) fun w6 b3 => wp 1 (nq (sr (wp 1 (bi hr fun y9 c3 hr => wc ent54 b3 (ain c3 (hG.hp0 b3)) fun d9 a7 => wp 1 ?_))))
  refine nq (cs (sr (wp 2 (nq (cd hr (fun c4 hr => ?_) (fun c4 hr => ?_))))))
  refine sr (wp 1 (ahl a7 0 b1 0 [(str ([] : Str)), (Vs none 0 0)] [(str ([] : Str)), (Vs none 0 0)] 34 [blk b1 [(str ([] : Str)), (Vs none 0 0)] 34] rfl nbe krf krf rfl krf rfl fun e0 b4 => wp 1 (nq (ct (st ?_)))))
  obtain rfl := oi hr
  refine aor _ [(zam #[(str ([] : Str)), (Vs none 0 0)]), (bt (5 : UInt8))] (zal #[(zam #[(str ([] : Str)), (Vs none 0 0)]), (bt (5 : UInt8))]) rfl rfl (abh (ahv b4 0 b1 34 [(str ([] : Str)), (Vs none 0 0)] rfl krf krf krf) (abh (afe krf) agu)) rfl ?_
  exact ⟨none, none, 0, (by first | rfl | (simp; done) | (simp; omega)), (Hp.nilrw b4 aaa 46 3 none).kp⟩
  refine ck (qn (bi hr fun c5 a1 hr => cut1 a7 c5 [0, 2, 3, 4] (fun a3 => [(4, (Vi .i64 a3))]) ?_ ?_))
  refine bi a1 fun c6 a6 a1 => agq a7 [0, 2, 3, 4, 25] [(25, (Vb c6))] ?_ ?_
  refine cr (wp 4 (wd a6 (fun c7 a6 => ?_) (fun c7 a6 => ?_)))
  refine wp 2 (gy 20 (gi a6 fun c8 a6 => abp y4 .i64 y9 Tryz.underlying9 krf krf c8 (gy 20 (acv (at_ y4 y9) (47 : UInt8) krf krf (wp 1 (wl (ql ?_)))))))
  obtain rfl := oi a6
  exact je a7.kp
  refine wp 5 (wl (ql ?_))
  obtain rfl := oi a6
  exact je a7.kp
  intro e1 G a9
  refine cb a1 (fun c9 a1 => ?_) (fun c9 a1 => ?_)
  refine sr (wp 2 (nq (sr (wp 2 (gi a1 fun d0 a1 => aah y9 (1 : Int) krf krf d0 ?_)))))
  refine bi a1 fun e2 d1 a1 => wc ent54 a9 (ain d1 (hG.hp0 a9)) fun e3 b5 => wp 1 (nq (sr (wp 2 (gi a1 fun d2 a1 => aah y9 (1 : Int) krf krf d2 ?_))))
  refine wp 1 (nq (cd a1 (fun d3 a1 => ?_) (fun d3 a1 => ?_)))
  refine sr (wp 1 (ahl b5 0 b1 0 [(str ([] : Str)), (Vs none 0 0)] [(str ([] : Str)), (Vs none 0 0)] 34 [blk b1 [(str ([] : Str)), (Vs none 0 0)] 34] rfl nbe krf krf rfl krf rfl fun e4 b6 => wp 1 (nq (ct (adl ?_)))))
  obtain rfl := oi a1
  obtain rfl := oi hr
  refine aor _ [(zam #[(str ([] : Str)), (Vs none 0 0)]), (bt (5 : UInt8))] (zal #[(zam #[(str ([] : Str)), (Vs none 0 0)]), (bt (5 : UInt8))]) rfl rfl (abh (ahv b6 0 b1 34 [(str ([] : Str)), (Vs none 0 0)] rfl krf krf krf) (abh (afe krf) agu)) rfl ?_
  exact ⟨none, none, 0, (by first | rfl | (simp; done) | (simp; omega)), (Hp.nilrw b6 aaa 46 3 none).kp⟩
  refine ck (ql ?_)
  obtain rfl := oi a1
  exact je1 rfl b5.kp
  refine ck (ql ?_)
  obtain rfl := oi a1
  exact je1 rfl a9.kp
  rintro a3 e5 G b7 rfl
  refine sr (wp 2 (gi hr fun d4 hr => agl y4 .i64 a3 Tryz.underlying9 krf krf d4 (bi hr fun a2 d5 hr => aat 59 #[] [(str (zar (zad a3) y4))] _ ent59 krf krf (ams d5 (hG.hp0 b7)) ?_)))
  rintro _ d6 ⟨a8, a4, a5, rfl, b8⟩
  have b9 : Hp w [] [rwt aaa 46 3 a8 a4 a5 a2.1, blk b1 [(str ([] : Str)), (Vs none 0 0)] 34] d6 := Hp.callK (L1 := []) (L2 := [blk b1 [(str ([] : Str)), (Vs none 0 0)] 34]) b7 b8; clear b8
  refine wp 7 (nq (cs (sr (wp 1 (afs a2.2.2 (0 : UInt8) krf krf (nq (cn hr (fun d7 hr => ?_) (fun d7 hr => ?_))))))))
  refine sr (wp 2 (ahl b9 1 b1 0 [(str ([] : Str)), (Vs none 0 0)] [(str ([] : Str)), (Vs none 0 0)] 34 [rwt aaa 46 3 a8 a4 a5 a2.1, blk b1 [(str ([] : Str)), (Vs none 0 0)] 34] rfl nbe krf krf rfl krf rfl fun e6 c0 => wp 1 (nq (ct (st ?_)))))
  obtain rfl := oi hr
  refine aor _ [(zam #[(str ([] : Str)), (Vs none 0 0)]), (bt a2.2.2)] (zal #[(zam #[(str ([] : Str)), (Vs none 0 0)]), (bt a2.2.2)]) rfl rfl (abh (ahv c0 1 b1 34 [(str ([] : Str)), (Vs none 0 0)] rfl krf krf krf) (abh (afe krf) agu)) rfl ?_
  exact ⟨none, none, 0, (by first | rfl | (simp; done) | (simp; omega)), (Hp.nilrw c0 aaa 46 3 none).kp⟩
  refine ck (qn (sr (wp 2 (gi hr fun d8 hr => akv y4 .i64 a3 Tryz.underlying9 krf krf d8 (wp 2 (ahl b9 1 b1 0 [(str ([] : Str)), (Vs none 0 0)] [(str (zaz (zad a3) y4)), (Vs a4 a2.1.length a5)] 34 [rwt aaa 46 3 a8 a4 a5 a2.1, blk b1 [(str (zaz (zad a3) y4)), (Vs a4 a2.1.length a5)] 34] rfl nbe krf krf rfl krf rfl fun e7 c1 => wp 1 ?_))))))
  refine nq (ct ?_)
  obtain rfl := oi hr
  refine aor _ [(zam #[(str (zaz (zad a3) y4)), (Vs a4 a2.1.length a5)]), (bt (0 : UInt8))] (zal #[(zam #[(str (zaz (zad a3) y4)), (Vs a4 a2.1.length a5)]), (bt (0 : UInt8))]) rfl rfl (abh (ahv c1 1 b1 34 [(str (zaz (zad a3) y4)), (Vs a4 a2.1.length a5)] rfl krf krf krf) (abh (afe krf) agu)) rfl ?_
  exact ⟨a8, a4, a5, (by first | rfl | (simp; done) | (simp; omega)), c1.kp⟩
end Go.Proofs
set_option linter.unusedVariables false
set_option linter.unusedSimpArgs false
set_option maxRecDepth 20000
set_option maxHeartbeats 1000000
namespace Go.Proofs
open Go.Wk Go.Px
open Go.Value renaming slice → Vs, int → Vi, bool → Vb, pointer → Vp
open Go.Value renaming tuple → zal
open Int renaming toNat → zad
open List renaming drop → zar, set → zak
open Nat renaming lt_succ_self → zac
theorem ent61 : Go.Wk.Enters Tryz.prog 61 := ⟨Tryz.f61, _, Tryz.func61, rfl, by kernel_rfl⟩
theorem ent62 : Go.Wk.Enters Tryz.prog 62 := ⟨Tryz.f62, _, Tryz.func62, rfl, by kernel_rfl⟩
theorem ent64 : Go.Wk.Enters Tryz.prog 64 := ⟨Tryz.f64, _, Tryz.func64, rfl, by kernel_rfl⟩
theorem ent116 : Go.Wk.Enters Tryz.prog 116 := ⟨Tryz.f116, _, Tryz.func116, rfl, by kernel_rfl⟩
theorem K_L_ref01_Blank {fu : Nat} {a1 : UInt8} {w : World} {r : Bool} (hr : akx fu a1 = some r) (hG : Gl w) : CR Tryz.prog 64 [(bt a1)] w fun v w' => v = (Vb r) ∧ Hp w [] [] w' := by
  have hH : Hp w [] [] w := Hp.refl w
  refine enter (k := 9) Tryz.func64 rfl rfl nbe ?_
  unfold akx at hr
  refine sr (wp 1 (nq (bi hr fun v5 a0 hr => agq hH [2] [(2, (Vb v5))] ?_ ?_)))
  refine cr (wp 1 (acv a1 (32 : UInt8) krf krf (wd a0 (fun h6 a0 => ?_) (fun h6 a0 => ?_))))
  refine wp 4 (wl (ql ?_))
  obtain rfl := oi a0
  exact je hH.kp
  refine wp 1 (gy 5 (acv a1 (9 : UInt8) krf krf (wp 2 (wl (ql ?_)))))
  obtain rfl := oi a0
  exact je hH.kp
  intro w7 G a2
  refine ct ?_
  obtain rfl := oi hr
  exact rv a2.kp
theorem aib {fu : Nat} {s_0 : Str} {a3 : Int} {w : World} {r : Int} (hr : agb fu s_0 a3 = some r) (hG : Gl w) : CR Tryz.prog 62 [(str s_0), (Vi .i64 a3)] w fun v w' => v = (Vi .i64 r) ∧ Hp w [] [] w' := by
  have hH : Hp w [] [] w := Hp.refl w
  refine enter (k := 24) Tryz.func62 rfl rfl nbe ?_
  unfold agb at hr
  refine sr (wp 1 (nq (sr (wp 1 (w_max .i64 a3 (0 : Int) krf krf (wp 2 ?_))))))
  refine w_min .i64 (max a3 (0 : Int)) (s_0.length : Int) krf krf (wp 1 (nq (bi hr fun a7 a8 hr => agq hH [4, 5] [(5, (Vi .i64 a7))] ?_ ?_)))
  refine ce (lpS (fun a5 a2 => afk fu s_0 a5 a2) (min (max a3 (0 : Int)) (s_0.length : Int)) hH a8 [0, 4, 5] (fun a2 => [(5, (Vi .i64 a2))]) (fun _ => rfl) ?_)
  rintro a5 a2 b7 G a4 a0
  rw [afk.eq_2] at a0
  refine cs (bi a0 fun a9 a1 a0 => agq a4 [0, 4, 5, 20] [(20, (Vb a9))] ?_ ?_)
  refine cr (wp 4 (wd a1 (fun b0 a1 => ?_) (fun b0 a1 => ?_)))
  refine wp 2 (gy 15 (gi a1 fun b1 a1 => abp s_0 .i64 a2 Tryz.underlying9 krf krf b1 (gy 15 (bi a1 fun b8 b2 a1 => wc ent64 a4 (K_L_ref01_Blank b2 (hG.hp0 a4)) fun b9 b3 => wp 1 (wl (ql ?_))))))
  obtain rfl := oi a1
  exact je b3.kp
  refine wp 5 (wl (ql ?_))
  obtain rfl := oi a1
  exact je a4.kp
  intro c0 G a6
  refine cb a0 (fun b4 a0 => ?_) (fun b4 a0 => ?_)
  refine ck (qn (ce (cr (wp 1 (gi a0 fun b5 a0 => aah a2 (1 : Int) krf krf b5 (wp 1 (wl (bn ?_))))))))
  exact ql (le' (a2 + (1 : Int)) a6.kp a0)
  refine ace (acd (acq (acf (ql ?_))))
  obtain rfl := oi a0
  exact je a6.kp
  intro c1 G b6
  refine sr (wp 2 (nq (ct ?_)))
  obtain rfl := oi hr
  exact rv b6.kp
theorem K_L_ref01_Trim {fu : Nat} {s_0 : Str} {w : World} {r : Str} (hr : anq fu s_0 = some r) (hG : Gl w) : CR Tryz.prog 60 [(str s_0)] w fun v w' => v = (str r) ∧ Hp w [] [] w' := by
  have hH : Hp w [] [] w := Hp.refl w
  refine enter (k := 24) Tryz.func60 rfl rfl nbe ?_
  unfold anq at hr
  refine sr (wp 1 (nq (sr (wp 2 (bi hr fun y1 a8 hr => wc ent62 hH (aib a8 (hG.hp0 hH)) fun w3 a4 => ?_)))))
  refine gi hr fun g6 hr => agl s_0 .i64 y1 Tryz.underlying9 krf krf g6 (wp 1 (nq (sr (wp 3 (nq ?_)))))
  refine bi hr fun a5 a9 hr => agq a4 [0, 2, 3] [(3, (Vi .i64 a5))] ?_ ?_
  refine ce (lpS (fun a6 a2 => aha fu s_0 y1 a6 a2) ((zar (zad y1) s_0).length : Int) a4 a9 [0, 2, 3] (fun a2 => [(3, (Vi .i64 a2))]) (fun _ => rfl) ?_)
  rintro a6 a2 c0 G a3 a1
  rw [aha.eq_2] at a1
  refine cs (bi a1 fun b0 a0 a1 => agq a3 [0, 2, 3, 18] [(18, (Vb b0))] ?_ ?_)
  refine cr (wp 2 (wd a0 (fun b1 a0 => ?_) (fun b1 a0 => ?_)))
  refine wp 2 (gy 12 (gi a0 fun b2 a0 => adg a2 (1 : Int) krf krf b2 (gy 12 (gi a0 fun b3 a0 => abp (zar (zad y1) s_0) .i64 (a2 - (1 : Int)) Tryz.underlying9 krf krf b3 (gy 12 (bi a0 fun c1 b4 a0 => wc ent64 a3 (K_L_ref01_Blank b4 (hG.hp0 a3)) fun c2 b5 => ?_))))))
  refine wp 1 (wl (ql ?_))
  obtain rfl := oi a0
  exact je b5.kp
  refine wp 6 (wl (ql ?_))
  obtain rfl := oi a0
  exact je a3.kp
  intro c3 G a7
  refine cb a1 (fun b6 a1 => ?_) (fun b6 a1 => ?_)
  refine ck (qn (ce (cr (wp 1 (gi a1 fun b7 a1 => adg a2 (1 : Int) krf krf b7 (wp 1 (wl (bn ?_))))))))
  exact ql (le' (a2 - (1 : Int)) a7.kp a1)
  refine ace (acd (acq (acf (ql ?_))))
  obtain rfl := oi a1
  exact je a7.kp
  intro c4 G b8
  refine sr (wp 2 (gi hr fun b9 hr => akv (zar (zad y1) s_0) .i64 a5 Tryz.underlying9 krf krf b9 (wp 1 (nq (ct ?_)))))
  obtain rfl := oi hr
  exact rv b8.kp
theorem K_L_ref01_TokenChar {fu : Nat} {a1 : UInt8} {w : World} {r : Bool} (hr : ajf fu a1 = some r) (hG : Gl w) : CR Tryz.prog 116 [(bt a1)] w fun v w' => v = (Vb r) ∧ Hp w [] [] w' := by
  have hH : Hp w [] [] w := Hp.refl w
  refine enter (k := 40) Tryz.func116 rfl rfl nbe ?_
  unfold ajf at hr
  refine sr (wp 1 (nq (cs (bi hr fun a7 a0 hr => agq hH [0, 2, 26] [(26, (Vb a7))] ?_ ?_))))
  refine cr (wp 1 (aja a1 (65 : UInt8) krf krf (wd a0 (fun a8 a0 => ?_) (fun a8 a0 => ?_))))
  refine wp 1 (gy 7 (aiz a1 (90 : UInt8) krf krf (wp 1 (wd a0 (fun a9 a0 => ?_) (fun a9 a0 => ?_)))))
  refine wp 15 (wl (ql ?_))
  obtain rfl := oi a0
  exact je hH.kp
  refine wp 1 (gy 11 (aja a1 (97 : UInt8) krf krf (gy 11 (wd a0 (fun b0 a0 => ?_) (fun b0 a0 => ?_)))))
  refine wp 1 (gy 14 (aiz a1 (122 : UInt8) krf krf (wp 2 (wd a0 (fun b1 a0 => ?_) (fun b1 a0 => ?_)))))
  refine wp 7 (wl (ql ?_))
  obtain rfl := oi a0
  exact je hH.kp
  refine wp 1 (gy 19 (aja a1 (48 : UInt8) krf krf (gy 19 (wd a0 (fun b2 a0 => ?_) (fun b2 a0 => ?_)))))
  refine wp 1 (gy 22 (aiz a1 (57 : UInt8) krf krf (wp 2 (wl (ql ?_)))))
  obtain rfl := oi a0
  exact je hH.kp
  refine wp 4 (wl (ql ?_))
  obtain rfl := oi a0
  exact je hH.kp
  refine wp 6 (gy 19 (aja a1 (48 : UInt8) krf krf (gy 19 (wd a0 (fun b3 a0 => ?_) (fun b3 a0 => ?_)))))
  refine wp 1 (gy 22 (aiz a1 (57 : UInt8) krf krf (wp 2 (wl (ql ?_)))))
  obtain rfl := oi a0
  exact je hH.kp
  refine wp 4 (wl (ql ?_))
  obtain rfl := oi a0
  exact je hH.kp
  refine wp 5 (gy 11 (aja a1 (97 : UInt8) krf krf (gy 11 (wd a0 (fun b4 a0 => ?_) (fun b4 a0 => ?_)))))
  refine wp 1 (gy 14 (aiz a1 (122 : UInt8) krf krf (wp 2 (wd a0 (fun b5 a0 => ?_) (fun b5 a0 => ?_)))))
  refine wp 7 (wl (ql ?_))
  obtain rfl := oi a0
  exact je hH.kp
  refine wp 1 (gy 19 (aja a1 (48 : UInt8) krf krf (gy 19 (wd a0 (fun b6 a0 => ?_) (fun b6 a0 => ?_)))))
  refine wp 1 (gy 22 (aiz a1 (57 : UInt8) krf krf (wp 2 (wl (ql ?_)))))
  obtain rfl := oi a0
  exact je hH.kp
  refine wp 4 (wl (ql ?_))
  obtain rfl := oi a0
  exact je hH.kp
  refine wp 6 (gy 19 (aja a1 (48 : UInt8) krf krf (gy 19 (wd a0 (fun b7 a0 => ?_) (fun b7 a0 => ?_)))))
  refine wp 1 (gy 22 (aiz a1 (57 : UInt8) krf krf (wp 2 (wl (ql ?_)))))
  obtain rfl := oi a0
  exact je hH.kp
  refine wp 4 (wl (ql ?_))
  obtain rfl := oi a0
  exact je hH.kp
  intro c7 G a4
  refine cb hr (fun b8 hr => ?_) (fun b8 hr => ?_)
  refine sr (wp 1 (nq (ct (st ?_))))
  obtain rfl := oi hr
  exact rv a4.kp
  refine ck (qn (sr (wp 1 (nq (bi hr fun b9 c0 hr => cut1 a4 b9 [0, 2] (fun c1 => []) ?_ ?_)))))
  refine sr (wp 1 (nq (ce (lpS (fun a6 a3 => aig fu a1 a6 a3) (0 : Int) a4 c0 [0, 2, 3, 4] (fun a3 => [(4, (Vi .i64 a3))]) (fun _ => rfl) ?_))))
  rintro a6 a3 c8 G a5 a2
  rw [aig.eq_2] at a2
  refine cs (sr (wp 4 (nq (cd a2 (fun c2 a2 => ?_) (fun c2 a2 => ?_)))))
  refine ck (qn (cs (ce (sr (wp 2 (gi a2 fun c3 a2 => abp ([45, 46, 33, 37, 42, 95, 43, 39, 126] : Str) .i64 a3 Tryz.underlying9 krf krf c3 (wp 1 ?_)))))))
  refine acv (at_ ([45, 46, 33, 37, 42, 95, 43, 39, 126] : Str) a3) a1 krf krf (nq (cd a2 (fun c4 a2 => ?_) (fun c4 a2 => ?_)))
  refine sr (wp 1 (nq (ct (bt_ (st (adl (bt_ ?_)))))))
  refine adl ?_
  obtain rfl := oi a2
  obtain rfl := oi hr
  exact rv a5.kp
  exact ck (bn (qn (cr (wp 1 (gi a2 fun c5 a2 => aah a3 (1 : Int) krf krf c5 (wp 1 (wl (ql (le' (a3 + (1 : Int)) a5.kp a2)))))))))
  refine ace (acd (acq (acf (ql ?_))))
  obtain rfl := oi a2
  exact je1 rfl a5.kp
  rintro c1 c9 G c6 rfl
  refine sr (wp 1 (acv a1 (96 : UInt8) krf krf (wp 1 (nq (ct ?_)))))
  obtain rfl := oi hr
  exact rv c6.kp
theorem aim {fu : Nat} {s_0 : Str} {a3 : Int} {w : World} {r : Int} (hr : afq fu s_0 a3 = some r) (hG : Gl w) : CR Tryz.prog 61 [(str s_0), (Vi .i64 a3)] w fun v w' => v = (Vi .i64 r) ∧ Hp w [] [] w' := by
  have hH : Hp w [] [] w := Hp.refl w
  refine enter (k := 24) Tryz.func61 rfl rfl nbe ?_
  unfold afq at hr
  refine sr (wp 1 (nq (sr (wp 1 (w_max .i64 a3 (0 : Int) krf krf (wp 2 ?_))))))
  refine w_min .i64 (max a3 (0 : Int)) (s_0.length : Int) krf krf (wp 1 (nq (bi hr fun a7 a8 hr => agq hH [4, 5] [(5, (Vi .i64 a7))] ?_ ?_)))
  refine ce (lpS (fun a5 a2 => aff fu s_0 a5 a2) (min (max a3 (0 : Int)) (s_0.length : Int)) hH a8 [0, 4, 5] (fun a2 => [(5, (Vi .i64 a2))]) (fun _ => rfl) ?_)
  rintro a5 a2 b7 G a4 a0
  rw [aff.eq_2] at a0
  refine cs (bi a0 fun a9 a1 a0 => agq a4 [0, 4, 5, 20] [(20, (Vb a9))] ?_ ?_)
  refine cr (wp 4 (wd a1 (fun b0 a1 => ?_) (fun b0 a1 => ?_)))
  refine wp 2 (gy 15 (gi a1 fun b1 a1 => abp s_0 .i64 a2 Tryz.underlying9 krf krf b1 (gy 15 (bi a1 fun b8 b2 a1 => wc ent116 a4 (K_L_ref01_TokenChar b2 (hG.hp0 a4)) fun b9 b3 => wp 1 (wl (ql ?_))))))
  obtain rfl := oi a1
  exact je b3.kp
  refine wp 5 (wl (ql ?_))
  obtain rfl := oi a1
  exact je a4.kp
  intro c0 G a6
  refine cb a0 (fun b4 a0 => ?_) (fun b4 a0 => ?_)
  refine ck (qn (ce (cr (wp 1 (gi a0 fun b5 a0 => aah a2 (1 : Int) krf krf b5 (wp 1 (wl (bn ?_))))))))
  exact ql (le' (a2 + (1 : Int)) a6.kp a0)
  refine ace (acd (acq (acf (ql ?_))))
  obtain rfl := oi a0
  exact je a6.kp
  intro c1 G b6
  refine sr (wp 2 (nq (ct ?_)))
  obtain rfl := oi hr
  exact rv b6.kp
theorem apr {fu : Nat} {s_0 : Str} {w : World} {r : Int} (hr : ajd fu s_0 = some r) (hG : Gl w) : CR Tryz.prog 76 [(str s_0)] w fun v w' => v = (Vi .i64 r) ∧ Hp w [] [] w' := by
  have hH : Hp w [] [] w := Hp.refl w
  refine enter (k := 31) Tryz.func76 rfl rfl nbe ?_
  unfold ajd at hr
  refine sr (wp 1 (nq (sr (wp 1 (bi hr fun y1 a4 hr => wc ent61 hH (aim a4 (hG.hp0 hH)) fun w3 a1 => ?_)))))
  refine wp 1 (nq (cs (bi hr fun a5 a0 hr => agq a1 [0, 2, 3, 20] [(20, (Vb a5))] ?_ ?_)))
  refine cr (wp 2 (wd a0 (fun a6 a0 => ?_) (fun a6 a0 => ?_)))
  refine wp 11 (wl (ql ?_))
  obtain rfl := oi a0
  exact je a1.kp
  refine wp 5 (wd a0 (fun a7 a0 => ?_) (fun a7 a0 => ?_))
  refine wp 5 (wl (ql ?_))
  obtain rfl := oi a0
  exact je a1.kp
  refine wp 2 (gy 15 (gi a0 fun a8 a0 => abp s_0 .i64 y1 Tryz.underlying9 krf krf a8 (gy 15 (afs (at_ s_0 y1) (47 : UInt8) krf krf (wp 1 (wl (ql ?_)))))))
  obtain rfl := oi a0
  exact je a1.kp
  intro b4 G a2
  refine cb hr (fun a9 hr => ?_) (fun a9 hr => ?_)
  refine sr (wp 2 (nq (ct (st ?_))))
  obtain rfl := oi hr
  exact rv a2.kp
  refine ck (qn (sr (wp 2 (gi hr fun b0 hr => aah y1 (1 : Int) krf krf b0 (bi hr fun b5 b1 hr => wc ent61 a2 (aim b1 (hG.hp0 a2)) fun b6 a3 => wp 1 ?_)))))
  refine nq (cs (sr (wp 2 (gi hr fun b2 hr => aah y1 (1 : Int) krf krf b2 (wp 1 (wl ?_))))))
  refine qn (cd hr (fun b3 hr => ?_) (fun b3 hr => ?_))
  refine sr (wp 1 (nq (ct (st ?_))))
  obtain rfl := oi hr
  exact rv a3.kp
  refine ck (qn (sr (wp 2 (nq (ct ?_)))))
  obtain rfl := oi hr
  exact rv a3.kp
theorem afo {fu : Nat} {s_0 : Str} {w : World} {r : Str} (hr : age fu s_0 = some r) (hG : Gl w) : CR Tryz.prog 27 [(str s_0)] w fun v w' => v = (str r) ∧ Hp w [] [] w' := by
  have hH : Hp w [] [] w := Hp.refl w
  refine enter (k := 35) Tryz.func27 rfl rfl nbe ?_
  unfold age at hr
  refine sr (wp 1 (nq (sr (wp 1 (w_tobytes hH s_0 5 Tryz.underlying9 Tryz.underlying92 Tryz.underlying5 krf fun a1 cap2 w3 b2 => wp 1 ?_)))))
  refine nq (bi hr fun b1 b3 hr => cut (σ := Str) [2, 3] (fun a8 => []) (fun a8 w' => Hp w [] [brow (Vs a1 s_0.length cap2) s_0.length a8] w' ∧ a8 = b1) ?_ ?_)
  refine sr (wp 1 (nq (ce (lpG (σ := Nat × Str × Int) [2, 3, 4] (fun ⟨a6, a2, a0⟩ => [(4, (Vi .i64 a0))]) (fun ⟨a6, a2, a0⟩ w' => Hp w [] [brow (Vs a1 s_0.length cap2) s_0.length a2] w' ∧ afv fu s_0 a6 a2 a0 = some b1) (fun ⟨a6, a2, a0⟩ => a6) (fu, s_0, (0 : Int)) (by exact ⟨b2.kp, b3⟩) ?_))))
  rintro ⟨_ | a6, a2, a0⟩ d0 G ⟨a5, a3⟩
  · exact nzz a3
  rw [afv.eq_2] at a3
  refine cs (sr (wp 4 (nq (cd a3 (fun b4 a3 => ?_) (fun b4 a3 => ?_)))))
  refine ck (qn (cs (ce (bi a3 fun b5 a4 a3 => agq a5 [2, 3, 4, 24] [(24, (Vb b5))] ?_ ?_))))
  refine cr (wp 2 (gi a4 fun b6 a4 => ahu a1 s_0.length cap2 5 1 .i64 a0 Tryz.underlying92 krf krf krf a2 (a5.browlen 0 rfl).symm b6 (Rd.ofbytes (a5.rdbrow 0 rfl)) alj (by decide) (gi a4 fun b7 a4 => w_ldE1 a1 eB a2 1 a0 alj (Rd.ofbytes (a5.rdbrow 0 rfl)) (bt (at_ a2 a0)) b7 (by decide) krf krf krf (aja (at_ a2 a0) (65 : UInt8) krf krf (wd a4 (fun b8 a4 => ?_) (fun b8 a4 => ?_))))))
  refine wp 2 (gy 18 (gi a4 fun b9 a4 => ahu a1 s_0.length cap2 5 1 .i64 a0 Tryz.underlying92 krf krf krf a2 (a5.browlen 0 rfl).symm b9 (Rd.ofbytes (a5.rdbrow 0 rfl)) alj (by decide) (gy 18 (gi a4 fun c0 a4 => w_ldE1 a1 eB a2 1 a0 alj (Rd.ofbytes (a5.rdbrow 0 rfl)) (bt (at_ a2 a0)) c0 (by decide) krf krf krf (gy 18 (aiz (at_ a2 a0) (90 : UInt8) krf krf (wp 1 ?_)))))))
  refine wl (ql ?_)
  obtain rfl := oi a4
  exact je a5.kp
  refine wp 6 (wl (ql ?_))
  obtain rfl := oi a4
  exact je a5.kp
  intro d1 G a7
  refine cb a3 (fun c1 a3 => ?_) (fun c1 a3 => ?_)
  refine cr (wp 4 (gi a3 fun c2 a3 => ahu a1 s_0.length cap2 5 1 .i64 a0 Tryz.underlying92 krf krf krf a2 (a7.browlen 0 rfl).symm c2 (Rd.ofbytes (a7.rdbrow 0 rfl)) alj (by decide) (gi a3 fun c3 a3 => w_ldE1 a1 eB a2 1 a0 alj (Rd.ofbytes (a7.rdbrow 0 rfl)) (bt (at_ a2 a0)) c3 (by decide) krf krf krf (w8_add (at_ a2 a0) (32 : UInt8) krf krf (gi a3 fun c4 a3 => ahu a1 s_0.length cap2 5 1 .i64 a0 Tryz.underlying92 krf krf krf a2 (a7.browlen 0 rfl).symm c4 (Rd.ofbytes (a7.rdbrow 0 rfl)) alj (by decide) (gi a3 fun c5 a3 => ?_))))))
  refine w_stB a7 0 a1 s_0.length cap2 a0 a2 ((at_ a2 a0) + (32 : UInt8)) rfl c5 krf krf krf fun c6 a9 => ?_
  replace a9 : Hp w [] [brow (Vs a1 s_0.length cap2) s_0.length (zak a2 (zad a0) ((at_ a2 a0) + (32 : UInt8)))] c6 := a9
  refine wl (bn (qn (cr (wp 1 (gi a3 fun c7 a3 => aah a0 (1 : Int) krf krf c7 (wp 1 (wl (ql ?_))))))))
  exact ⟨(a6, zak a2 (zad a0) ((at_ a2 a0) + (32 : UInt8)), a0 + (1 : Int)), _, rfl, by kernel_rfl, ⟨a9.kp, a3⟩, zac _⟩
  refine ck (bn (qn (cr (wp 1 (gi a3 fun c8 a3 => aah a0 (1 : Int) krf krf c8 (wp 1 (wl (ql ?_))))))))
  exact ⟨(a6, a2, a0 + (1 : Int)), _, rfl, by kernel_rfl, ⟨a7.kp, a3⟩, zac _⟩
  refine ace (acd (acq (acf (ql ?_))))
  obtain rfl := oi a3
  exact ⟨a2, _, rfl, by kernel_rfl, a5.kp, rfl⟩
  rintro a8 c9 G ⟨b0, rfl⟩
  refine sr (wp 1 (aey (v := (str a8)) (w' := c9) rfl rfl (apc a8 a1 s_0.length cap2 5 (Rd.bytes (Rd.ofbytes (b0.rdbrow 0 rfl))) (b0.browlen 0 rfl) Tryz.underlying92 Tryz.underlying9 Tryz.underlying5 krf) (wp 1 (nq (ct ?_)))))
  obtain rfl := oi hr
  exact rv b0.kp
theorem K_L_ref01_opens {fu : Nat} {s_0 : Str} {a2 : Int} {a4 : UInt8} {w : World} {r : (Int × UInt8)} (hr : aod fu s_0 a2 a4 = some r) (hG : Gl w) : CR Tryz.prog 214 [(str s_0), (Vi .i64 a2), (bt a4)] w fun v w' => v = (zal #[(Vi .i64 r.1), (bt r.2)]) ∧ Hp w [] [] w' := by
  have hH : Hp w [] [] w := Hp.refl w
  refine enter (k := 28) Tryz.func214 rfl rfl nbe ?_
  unfold aod at hr
  refine sr (wp 2 (nq (cs (bi hr fun v5 a1 hr => agq hH [0, 1, 2, 6, 7, 15] [(15, (Vb v5))] ?_ ?_))))
  refine cr (wp 2 (wd a1 (fun h6 a1 => ?_) (fun h6 a1 => ?_)))
  refine wp 5 (wl (ql ?_))
  obtain rfl := oi a1
  exact je hH.kp
  refine wp 5 (wl (ql ?_))
  obtain rfl := oi a1
  exact je hH.kp
  intro w7 G a3
  refine cb hr (fun h9 hr => ?_) (fun h9 hr => ?_)
  refine sr (wp 2 (nq (ct (st ?_))))
  obtain rfl := oi hr
  exact rv a3.kp
  refine ck (qn (cs (bi hr fun a6 a0 hr => agq a3 [1, 6, 7, 26] [(26, (Vb a6))] ?_ ?_)))
  refine cr (wp 4 (wd a0 (fun a7 a0 => ?_) (fun a7 a0 => ?_)))
  refine wp 6 (wl (ql ?_))
  obtain rfl := oi a0
  exact je a3.kp
  refine wp 2 (gy 20 (gi a0 fun a8 a0 => abp s_0 .i64 a2 Tryz.underlying9 krf krf a8 (wp 1 (gy 20 (afs (at_ s_0 a2) a4 krf krf (wp 1 (wl (ql ?_))))))))
  obtain rfl := oi a0
  exact je a3.kp
  intro b0 G a5
  refine cb hr (fun a9 hr => ?_) (fun a9 hr => ?_)
  refine sr (wp 3 (nq (ct (st ?_))))
  obtain rfl := oi hr
  exact rv a5.kp
  refine ck (qn (sr (wp 2 (nq (ct ?_)))))
  obtain rfl := oi hr
  exact rv a5.kp
end Go.Proofs
set_option linter.unusedVariables false
set_option linter.unusedSimpArgs false
set_option maxRecDepth 20000
set_option maxHeartbeats 1000000
namespace Go.Proofs
open Go.Wk Go.Px
open Go.Value renaming slice → Vs, int → Vi, bool → Vb, pointer → Vp
open Go.Value renaming tuple → zal
open Int renaming toNat → zad
open List renaming drop → zar, length_take → zah
open Nat renaming lt_succ_self → zac
theorem ent27 : Go.Wk.Enters Tryz.prog 27 := ⟨Tryz.f27, _, Tryz.func27, rfl, by kernel_rfl⟩
theorem ent118 : Go.Wk.Enters Tryz.prog 118 := ⟨Tryz.f118, _, Tryz.func118, rfl, by kernel_rfl⟩
theorem ent180 : Go.Wk.Enters Tryz.prog 180 := ⟨Tryz.f180, _, Tryz.func180, rfl, by kernel_rfl⟩
theorem ent189 : Go.Wk.Enters Tryz.prog 189 := ⟨Tryz.f189, _, Tryz.func189, rfl, by kernel_rfl⟩
theorem ent213 : Go.Wk.Enters Tryz.prog 213 := ⟨Tryz.f213, _, Tryz.func213, rfl, by kernel_rfl⟩
theorem ent214 : Go.Wk.Enters Tryz.prog 214 := ⟨Tryz.f214, _, Tryz.func214, rfl, by kernel_rfl⟩
theorem ent215 : Go.Wk.Enters Tryz.prog 215 := ⟨Tryz.f215, _, Tryz.func215, rfl, by kernel_rfl⟩
theorem ent245 : Go.Wk.Enters Tryz.prog 245 := ⟨Tryz.f245, _, Tryz.func245, rfl, by kernel_rfl⟩
theorem ane {fu : Nat} {a1 : UInt8} {w : World} {r : Bool} (hr : ahn fu a1 = some r) (hG : Gl w) : CR Tryz.prog 189 [(bt a1)] w fun v w' => v = (Vb r) ∧ Hp w [] [] w' := by
  have hH : Hp w [] [] w := Hp.refl w
  refine enter (k := 13) Tryz.func189 rfl rfl nbe ?_
  unfold ahn at hr
  refine sr (wp 1 (nq (bi hr fun v6 a0 hr => agq hH [2] [(2, (Vb v6))] ?_ ?_)))
  refine cr (wp 1 (w8_lss a1 (32 : UInt8) krf krf (wd a0 (fun h7 a0 => ?_) (fun h7 a0 => ?_))))
  refine wp 1 (gy 5 (afs a1 (9 : UInt8) krf krf (wp 1 (wn a0 (fun h8 a0 => ?_) (fun h8 a0 => ?_)))))
  refine wp 4 (wl (ql ?_))
  obtain rfl := oi a0
  exact je hH.kp
  refine wp 1 (gy 9 (acv a1 (127 : UInt8) krf krf (wp 2 (wl (ql ?_)))))
  obtain rfl := oi a0
  exact je hH.kp
  refine wp 5 (gy 9 (acv a1 (127 : UInt8) krf krf (wp 2 (wl (ql ?_)))))
  obtain rfl := oi a0
  exact je hH.kp
  intro w9 G a2
  refine ct ?_
  obtain rfl := oi hr
  exact rv a2.kp
theorem K_L_ref01_step {fu : Nat} {s_0 : Str} {a1 : Int} {w : World} {r : (Int × Int × UInt8)} (hr : anp fu s_0 a1 = some r) (hG : Gl w) : CR Tryz.prog 215 [(str s_0), (Vi .i64 a1)] w fun v w' => v = (zal #[(Vi .i64 r.1), (Vi .i64 r.2.1), (bt r.2.2)]) ∧ Hp w [] [] w' := by
  have hH : Hp w [] [] w := Hp.refl w
  refine enter (k := 42) Tryz.func215 rfl rfl nbe ?_
  unfold anp at hr
  refine sr (wp 3 (nq (cs (sr (wp 4 (wl ?_))))))
  refine qn (cd hr (fun h1 hr => ?_) (fun h1 hr => ?_))
  refine sr (wp 5 (nq (ct (st ?_))))
  obtain rfl := oi hr
  exact rv hH.kp
  refine ck (qn (cs (sr (wp 2 (gi hr fun g2 hr => abp s_0 .i64 a1 Tryz.underlying9 krf krf g2 (bi hr fun y3 a4 hr => wc ent189 hH (ane a4 (hG.hp0 hH)) fun w5 a2 => ?_))))))
  refine nq (cb hr (fun h8 hr => ?_) (fun h8 hr => ?_))
  refine sr (wp 4 (nq (ct (st ?_))))
  obtain rfl := oi hr
  exact rv a2.kp
  refine ck (qn (cs (sr (wp 2 (gi hr fun g9 hr => abp s_0 .i64 a1 Tryz.underlying9 krf krf g9 (afs (at_ s_0 a1) (92 : UInt8) krf krf (wl ?_)))))))
  refine qn (cn hr (fun a5 hr => ?_) (fun a5 hr => ?_))
  refine sr (wp 3 (nq (ct (st ?_))))
  obtain rfl := oi hr
  exact rv a2.kp
  refine ck (qn (cs (sr (wp 1 (gi hr fun a6 hr => aah a1 (1 : Int) krf krf a6 (wp 3 (wl ?_)))))))
  refine qn (cd hr (fun a7 hr => ?_) (fun a7 hr => ?_))
  refine sr (wp 5 (nq (ct (st ?_))))
  obtain rfl := oi hr
  exact rv a2.kp
  refine ck (qn (cs (bi hr fun a8 a0 hr => agq a2 [1, 4, 5, 6, 40] [(40, (Vb a8))] ?_ ?_)))
  refine cr (wp 2 (gi a0 fun a9 a0 => aah a1 (1 : Int) krf krf a9 (gi a0 fun b0 a0 => abp s_0 .i64 (a1 + (1 : Int)) Tryz.underlying9 krf krf b0 (w8_lss (at_ s_0 (a1 + (1 : Int))) (32 : UInt8) krf krf (wd a0 (fun b1 a0 => ?_) (fun b1 a0 => ?_))))))
  refine wp 6 (wl (ql ?_))
  obtain rfl := oi a0
  exact je a2.kp
  refine wp 2 (gy 34 (gi a0 fun b2 a0 => aah a1 (1 : Int) krf krf b2 (gy 34 (gi a0 fun b3 a0 => abp s_0 .i64 (a1 + (1 : Int)) Tryz.underlying9 krf krf b3 (gy 34 (w8_gtr (at_ s_0 (a1 + (1 : Int))) (126 : UInt8) krf krf (wp 1 ?_)))))))
  refine wl (ql ?_)
  obtain rfl := oi a0
  exact je a2.kp
  intro b5 G a3
  refine cb hr (fun b4 hr => ?_) (fun b4 hr => ?_)
  refine sr (wp 4 (nq (ct (st ?_))))
  obtain rfl := oi hr
  exact rv a3.kp
  refine ck (qn (sr (wp 3 (nq (ct ?_)))))
  obtain rfl := oi hr
  exact rv a3.kp
theorem K_L_ref01_Unquote {fu : Nat} {s_0 : Str} {a9 : Int} {w : World} {r : (Str × Int × UInt8)} (hr : akp fu s_0 a9 = some r) (hG : Gl w) : CR Tryz.prog 181 [(str s_0), (Vi .i64 a9)] w fun v w' => v = (zal #[(str r.1), (Vi .i64 r.2.1), (bt r.2.2)]) ∧ Hp w [] [] w' := by
  have hH : Hp w [] [] w := Hp.refl w
  refine enter (k := 61) Tryz.func181 rfl rfl nbe ?_
  unfold akp at hr
  refine sr (wp 3 (nq (sr (wp 2 (bi hr fun y1 c0 hr => wc ent214 hH (K_L_ref01_opens c0 (hG.hp0 hH)) fun w3 b4 => ?_)))))
  refine wp 5 (nq (cs (sr (wp 1 (afs y1.2 (0 : UInt8) krf krf (nq (cn hr (fun h6 hr => ?_) (fun h6 hr => ?_))))))))
  refine sr (wp 5 (nq (ct (st ?_))))
  obtain rfl := oi hr
  exact rv b4.kp
  refine ck (qn (sr (wp 1 (nq (sr (wp 1 ?_))))))
  refine gi hr fun g7 hr => aah a9 (1 : Int) krf krf g7 (wp 1 (nq (ce (lpG (σ := Nat × (List UInt8) × Int × (Option Nat) × (Option Addr) × Nat) [0, 4, 5, 6, 9, 10] (fun ⟨a7, a2, a1, a8, a4, a5⟩ => [(9, (Vs a4 a2.length a5)), (10, (Vi .i64 a1))]) (fun ⟨a7, a2, a1, a8, a4, a5⟩ w' => Hp w [] [rwt eB 5 1 a8 a4 a5 a2] w' ∧ acu fu s_0 a7 a2 a1 = some r) (fun ⟨a7, a2, a1, a8, a4, a5⟩ => a7) (fu, ([] : List UInt8), a9 + (1 : Int), none, none, 0) (by exact ⟨(Hp.nilrw b4 eB 5 1 none).kp, hr⟩) ?_ (mc krf (mc krf (mc krf (mc krf (mc (Eq.trans (b := (Vs none 0 0)) krf (aaj lsy)) (mc krf rfl))))))))))
  rintro ⟨_ | a7, a2, a1, a8, a4, a5⟩ d5 G ⟨b5, a0⟩
  · exact nzz a0
  rw [acu.eq_2] at a0
  refine ce (sr (wp 2 (bi a0 fun a3 c1 a0 => wc ent215 b5 (K_L_ref01_step c1 (hG.hp0 b5)) fun d6 b0 => wp 7 (nq (cs ?_)))))
  refine sr (wp 1 (afs a3.2.2 (0 : UInt8) krf krf (nq (cn a0 (fun c2 a0 => ?_) (fun c2 a0 => ?_)))))
  refine sr (wp 5 (nq (ct (st (bt_ (adl (bt_ ?_)))))))
  obtain rfl := oi a0
  exact rv b0.kp
  refine ck (qn (cs (bi a0 fun c3 a6 a0 => agq b0 [0, 4, 5, 6, 9, 10, 11, 44] [(44, (Vb c3))] ?_ ?_)))
  refine cr (wp 2 (wd a6 (fun c4 a6 => ?_) (fun c4 a6 => ?_)))
  refine wp 2 (gy 39 (gi a6 fun c5 a6 => abp s_0 .i64 a1 Tryz.underlying9 krf krf c5 (gy 39 (acv (at_ s_0 a1) (34 : UInt8) krf krf (wp 1 (wl (ql ?_)))))))
  obtain rfl := oi a6
  exact je b0.kp
  refine wp 5 (wl (ql ?_))
  obtain rfl := oi a6
  exact je b0.kp
  intro c6 G b1
  refine cb a0 (fun c7 a0 => ?_) (fun c7 a0 => ?_)
  refine sr (wp 1 (aey (v := (str a2)) (w' := c6) rfl rfl (apc a2 a4 a2.length a5 5 (Rd.bytes (b1.rdrw 0 rfl)) (by first | rfl | (simp; done) | omega | (simp; omega) | (rw [zah]; omega)) Tryz.underlying92 Tryz.underlying9 Tryz.underlying5 krf) (wp 1 (gi a0 fun c8 a0 => aah a1 (1 : Int) krf krf c8 (wp 3 (nq ?_))))))
  refine ct (st (bt_ (adl (bt_ ?_))))
  obtain rfl := oi a0
  exact rv b1.kp
  refine ck (qn (sr (wp 4 (gi a0 fun c9 a0 => aah a1 a3.1 krf krf c9 (gi a0 fun d0 a0 => adg (a1 + a3.1) (1 : Int) krf krf d0 (gi a0 fun d1 a0 => ?_))))))
  refine abp s_0 .i64 ((a1 + a3.1) - (1 : Int)) Tryz.underlying9 krf krf d1 (adx b1 [(bt (at_ s_0 ((a1 + a3.1) - (1 : Int))))] 5 (fun b => (Vs (some ⟨b, 0, none⟩) 1 1)) rfl rfl krf fun b2 d7 b6 => gi a0 fun d2 a0 => adz b6 1 a8 a4 (some ⟨b2, 0, none⟩) a5 1 5 1 1 a2 ([at_ s_0 ((a1 + a3.1) - (1 : Int))] : List UInt8) alj rfl Tryz.underlying92 (by unfold TI; kernel_rfl) (by decide) (by decide) krf (Eq.trans (b := (Vs (some ⟨b2, 0, none⟩) 1 1)) krf (aaj (by first | rfl | (simp; done) | omega | (simp; omega) | (rw [zah]; omega)))) (b6.rdblk 0 rfl) d2 fun b7 b8 b9 d3 b3 => ?_)
  replace b3 : Hp w [] [blk b2 [(bt (at_ s_0 ((a1 + a3.1) - (1 : Int))))] 5, rwt eB 5 1 b7 b8 b9 (a2 ++ ([at_ s_0 ((a1 + a3.1) - (1 : Int))] : List UInt8))] d3 := b3
  refine wp 1 (nq (cr (wp 2 (gi a0 fun d4 a0 => aah a1 a3.1 krf krf d4 (wp 1 (wl (bn ?_)))))))
  refine ql ?_
  exact ⟨(a7, a2 ++ ([at_ s_0 ((a1 + a3.1) - (1 : Int))] : List UInt8), a1 + a3.1, b7, b8, b9), _, rfl, by kernel_rfl, ⟨(Hp.front b3 1 _ rfl).kp, a0⟩, zac _⟩
theorem K_L_ref02_pieces {fu : Nat} {s_0 : Str} {b2 : UInt8} {w : World} {r : List Str} (hr : ajz fu s_0 b2 = some r) (hG : Gl w) : CR Tryz.prog 118 [(str s_0), (bt b2)] w fun v w' => ∃ (o0 : Option Nat), ∃ (a0 : Option Addr), ∃ (cap0 : Nat), v = (Vs a0 r.length cap0) ∧ Hp w [] [rwt eS 9 1 o0 a0 cap0 r] w' := by
  have hH : Hp w [] [] w := Hp.refl w
  refine enter (k := 34) Tryz.func118 rfl rfl nbe ?_
  unfold ajz at hr
  refine sr (wp 1 (nq (sr (wp 1 (nq ?_)))))
  refine sr (wp 1 (nq (bi hr fun c1 c8 hr => cut (σ := ((List Str) × Int) × (Option Nat) × (Option Addr) × Nat) [0, 4, 5, 6] (fun ⟨a3, b3, b0, b1⟩ => [(5, (Vs b0 a3.1.length b1)), (6, (Vi .i64 a3.2))]) (fun ⟨a3, b3, b0, b1⟩ w' => Hp w [] [rwt eS 9 1 b3 b0 b1 a3.1] w' ∧ a3 = c1) ?_ ?_)))
  refine sr (wp 1 (nq (ce (lpG (σ := Nat × (List Str) × Int × Int × (Option Nat) × (Option Addr) × Nat) [0, 1, 4, 5, 6, 7] (fun ⟨a8, a5, a4, a2, a9, a6, a7⟩ => [(5, (Vs a6 a5.length a7)), (6, (Vi .i64 a4)), (7, (Vi .i64 a2))]) (fun ⟨a8, a5, a4, a2, a9, a6, a7⟩ w' => Hp w [] [rwt eS 9 1 a9 a6 a7 a5] w' ∧ aer fu s_0 b2 a8 a5 a4 a2 = some c1) (fun ⟨a8, a5, a4, a2, a9, a6, a7⟩ => a8) (fu, ([] : List Str), (0 : Int), (0 : Int), none, none, 0) (by exact ⟨(Hp.nilrw hH eS 9 1 none).kp, c8⟩) ?_ (mc krf (mc krf (mc krf (mc (Eq.trans (b := (Vs none 0 0)) krf (aaj lsy)) (mc krf (mc krf rfl))))))))))
  rintro ⟨_ | a8, a5, a4, a2, a9, a6, a7⟩ e2 G ⟨b4, a1⟩
  · exact nzz a1
  rw [aer.eq_2] at a1
  refine cs (sr (wp 4 (nq (cd a1 (fun c9 a1 => ?_) (fun c9 a1 => ?_)))))
  refine ck (qn (cs (ce (sr (wp 2 (gi a1 fun d0 a1 => abp s_0 .i64 a2 Tryz.underlying9 krf krf d0 (wp 1 ?_)))))))
  refine acv (at_ s_0 a2) b2 krf krf (nq (cd a1 (fun d1 a1 => ?_) (fun d1 a1 => ?_)))
  refine sr (wp 4 (gi a1 fun d2 a1 => amx s_0 .i64 .i64 a4 a2 Tryz.underlying9 krf krf krf d2 (adx b4 [(str (sub s_0 a4 a2))] 9 (fun b => (Vs (some ⟨b, 0, none⟩) 1 1)) rfl rfl krf fun b5 e3 c2 => gi a1 fun d3 a1 => adz c2 1 a9 a6 (some ⟨b5, 0, none⟩) a7 1 9 1 16 a5 ([sub s_0 a4 a2] : List Str) aoi rfl Tryz.underlying54 (by unfold TI; kernel_rfl) (by decide) (by decide) krf (Eq.trans (b := (Vs (some ⟨b5, 0, none⟩) 1 1)) krf (aaj (by first | rfl | (simp; done) | omega | (simp; omega) | (rw [zah]; omega)))) (c2.rdblk 0 rfl) d3 fun c3 c4 c5 d4 b6 => ?_)))
  replace b6 : Hp w [] [blk b5 [(str (sub s_0 a4 a2))] 9, rwt eS 9 1 c3 c4 c5 (a5 ++ ([sub s_0 a4 a2] : List Str))] d4 := b6
  refine wp 1 (nq (cr (wp 1 (gi a1 fun d5 a1 => aah a2 (1 : Int) krf krf d5 (wp 1 (wl (bn ?_)))))))
  refine qn (cr (wp 1 (gi a1 fun d6 a1 => aah a2 (1 : Int) krf krf d6 (wp 1 (wl (ql ?_))))))
  exact ⟨(a8, a5 ++ ([sub s_0 a4 a2] : List Str), a2 + (1 : Int), a2 + (1 : Int), c3, c4, c5), _, rfl, by kernel_rfl, ⟨(Hp.front b6 1 _ rfl).kp, a1⟩, zac _⟩
  refine ck (bn (qn (cr (wp 1 (gi a1 fun d7 a1 => aah a2 (1 : Int) krf krf d7 (wp 1 (wl (ql ?_))))))))
  exact ⟨(a8, a5, a4, a2 + (1 : Int), a9, a6, a7), _, rfl, by kernel_rfl, ⟨b4.kp, a1⟩, zac _⟩
  refine ace (acd (acq (acf (ql ?_))))
  obtain rfl := oi a1
  exact ⟨((a5, a4), a9, a6, a7), _, rfl, by kernel_rfl, b4.kp, rfl⟩
  rintro ⟨a3, b3, b0, b1⟩ e4 G ⟨d8, rfl⟩
  refine sr (wp 3 (gi hr fun d9 hr => agl s_0 .i64 a3.2 Tryz.underlying9 krf krf d9 (adx d8 [(str (zar (zad a3.2) s_0))] 9 (fun b => (Vs (some ⟨b, 0, none⟩) 1 1)) rfl rfl krf fun b7 e5 c6 => gi hr fun e0 hr => adz c6 1 b3 b0 (some ⟨b7, 0, none⟩) b1 1 9 1 16 a3.1 ([zar (zad a3.2) s_0] : List Str) aoi rfl Tryz.underlying54 (by unfold TI; kernel_rfl) (by decide) (by decide) krf (Eq.trans (b := (Vs (some ⟨b7, 0, none⟩) 1 1)) krf (aaj (by first | rfl | (simp; done) | omega | (simp; omega) | (rw [zah]; omega)))) (c6.rdblk 0 rfl) e0 fun c7 b8 b9 e1 c0 => ?_)))
  replace c0 : Hp w [] [blk b7 [(str (zar (zad a3.2) s_0))] 9, rwt eS 9 1 c7 b8 b9 (a3.1 ++ ([zar (zad a3.2) s_0] : List Str))] e1 := c0
  refine wp 1 (nq (ct ?_))
  obtain rfl := oi hr
  refine r_one (Vs b8 ((a3.1 ++ ([zar (zad a3.2) s_0] : List Str)).length) b9) rfl krf ?_
  exact ⟨c7, b8, b9, (by first | rfl | (simp; done) | (simp; omega)), (Hp.front c0 1 _ rfl).kp⟩
theorem amq {fu : Nat} {a1 : UInt8} {w : World} {r : Bool} (hr : ahd fu a1 = some r) (hG : Gl w) : CR Tryz.prog 180 [(bt a1)] w fun v w' => v = (Vb r) ∧ Hp w [] [] w' := by
  have hH : Hp w [] [] w := Hp.refl w
  refine enter (k := 9) Tryz.func180 rfl rfl nbe ?_
  unfold ahd at hr
  refine sr (wp 1 (nq (bi hr fun v5 a0 hr => agq hH [2] [(2, (Vb v5))] ?_ ?_)))
  refine cr (wp 1 (aja a1 (48 : UInt8) krf krf (wd a0 (fun h6 a0 => ?_) (fun h6 a0 => ?_))))
  refine wp 1 (gy 5 (aiz a1 (57 : UInt8) krf krf (wp 2 (wl (ql ?_)))))
  obtain rfl := oi a0
  exact je hH.kp
  refine wp 4 (wl (ql ?_))
  obtain rfl := oi a0
  exact je hH.kp
  intro w7 G a2
  refine ct ?_
  obtain rfl := oi hr
  exact rv a2.kp
theorem K_L_ref02_hex {fu : Nat} {a0 : UInt8} {w : World} {r : Int} (hr : aol fu a0 = some r) (hG : Gl w) : CR Tryz.prog 245 [(bt a0)] w fun v w' => v = (Vi .i64 r) ∧ Hp w [] [] w' := by
  have hH : Hp w [] [] w := Hp.refl w
  refine enter (k := 28) Tryz.func245 rfl rfl nbe ?_
  unfold aol at hr
  refine sr (wp 1 (nq (cs (sr (wp 1 (bi hr fun y1 a6 hr => ?_))))))
  refine wc ent180 hH (amq a6 (hG.hp0 hH)) fun w3 a3 => nq (cb hr (fun h6 hr => ?_) (fun h6 hr => ?_))
  refine sr (wp 1 (w8_sub a0 (48 : UInt8) krf krf (w_convx .i64 .u8 ((a0 - (48 : UInt8)).toNat : Int) Tryz.underlying5 Tryz.underlying3 krf (amw _) (wp 1 (nq (ct (st ?_)))))))
  obtain rfl := oi hr
  exact rv a3.kp
  refine ck (qn (cs (bi hr fun a7 a1 hr => agq a3 [0, 2, 13] [(13, (Vb a7))] ?_ ?_)))
  refine cr (wp 1 (aja a0 (65 : UInt8) krf krf (wd a1 (fun a8 a1 => ?_) (fun a8 a1 => ?_))))
  refine wp 1 (gy 10 (aiz a0 (70 : UInt8) krf krf (wp 1 (wl (ql ?_)))))
  obtain rfl := oi a1
  exact je a3.kp
  refine wp 3 (wl (ql ?_))
  obtain rfl := oi a1
  exact je a3.kp
  intro b5 G a4
  refine cb hr (fun a9 hr => ?_) (fun a9 hr => ?_)
  refine sr (wp 1 (w8_sub a0 (65 : UInt8) krf krf (w_convx .i64 .u8 ((a0 - (65 : UInt8)).toNat : Int) Tryz.underlying5 Tryz.underlying3 krf (amw _) (gi hr fun b0 hr => aah ((a0 - (65 : UInt8)).toNat : Int) (10 : Int) krf krf b0 (wp 1 (nq ?_))))))
  refine ct (st ?_)
  obtain rfl := oi hr
  exact rv a4.kp
  refine ck (qn (cs (bi hr fun b1 a2 hr => agq a4 [0, 2, 23] [(23, (Vb b1))] ?_ ?_)))
  refine cr (wp 1 (aja a0 (97 : UInt8) krf krf (wd a2 (fun b2 a2 => ?_) (fun b2 a2 => ?_))))
  refine wp 1 (gy 20 (aiz a0 (102 : UInt8) krf krf (wp 1 (wl (ql ?_)))))
  obtain rfl := oi a2
  exact je a4.kp
  refine wp 3 (wl (ql ?_))
  obtain rfl := oi a2
  exact je a4.kp
  intro b6 G a5
  refine cb hr (fun b3 hr => ?_) (fun b3 hr => ?_)
  refine sr (wp 1 (w8_sub a0 (97 : UInt8) krf krf (w_convx .i64 .u8 ((a0 - (97 : UInt8)).toNat : Int) Tryz.underlying5 Tryz.underlying3 krf (amw _) (gi hr fun b4 hr => aah ((a0 - (97 : UInt8)).toNat : Int) (10 : Int) krf krf b4 (wp 1 (nq ?_))))))
  refine ct (st ?_)
  obtain rfl := oi hr
  exact rv a5.kp
  refine ck (qn (sr (wp 1 (nq (ct ?_)))))
  obtain rfl := oi hr
  exact rv a5.kp
theorem K_L_ref02_group {fu : Nat} {s_0 : Str} {w : World} {r : (Str × Bool)} (hr : ami fu s_0 = some r) (hG : Gl w) : CR Tryz.prog 213 [(str s_0)] w fun v w' => v = (zal #[(str r.1), (Vb r.2)]) ∧ Hp w [] [] w' := by
  have hH : Hp w [] [] w := Hp.refl w
  refine enter (k := 36) Tryz.func213 rfl rfl nbe ?_
  unfold ami at hr
  refine sr (wp 2 (nq (cs (bi hr fun v5 a5 hr => agq hH [0, 2, 3, 12] [(12, (Vb v5))] ?_ ?_))))
  refine cr (wp 3 (wd a5 (fun h6 a5 => ?_) (fun h6 a5 => ?_)))
  refine wp 4 (wl (ql ?_))
  obtain rfl := oi a5
  exact je hH.kp
  refine wp 4 (wl (ql ?_))
  obtain rfl := oi a5
  exact je hH.kp
  intro w7 G a6
  refine cb hr (fun h9 hr => ?_) (fun h9 hr => ?_)
  refine sr (wp 2 (nq (ct (st ?_))))
  obtain rfl := oi hr
  exact rv a6.kp
  refine ck (qn (bi hr fun b5 b6 hr => cut1 a6 b5 [0, 2, 3] (fun b7 => []) ?_ ?_))
  refine sr (wp 1 (nq (ce (lpS (fun a9 a3 => afu fu s_0 a9 a3) (0 : Int) a6 b6 [0, 2, 3, 4] (fun a3 => [(4, (Vi .i64 a3))]) (fun _ => rfl) ?_))))
  rintro a9 a3 d2 G a7 a0
  rw [afu.eq_2] at a0
  refine cs (sr (wp 4 (nq (cd a0 (fun b8 a0 => ?_) (fun b8 a0 => ?_)))))
  refine ck (qn (cs (ce (sr (wp 2 (gi a0 fun b9 a0 => abp s_0 .i64 a3 Tryz.underlying9 krf krf b9 (bi a0 fun d3 c0 a0 => ?_)))))))
  refine wc ent245 a7 (K_L_ref02_hex c0 (hG.hp0 a7)) fun d4 b0 => wp 1 (nq (cd a0 (fun c1 a0 => ?_) (fun c1 a0 => ?_)))
  refine sr (wp 2 (nq (ct (bt_ (st (adl (bt_ ?_)))))))
  refine adl ?_
  obtain rfl := oi a0
  obtain rfl := oi hr
  exact rv b0.kp
  exact ck (bn (qn (cr (wp 1 (gi a0 fun c2 a0 => aah a3 (1 : Int) krf krf c2 (wp 1 (wl (ql (le' (a3 + (1 : Int)) b0.kp a0)))))))))
  refine ace (acd (acq (acf (ql ?_))))
  obtain rfl := oi a0
  exact je1 rfl a7.kp
  rintro b7 d5 G b1 rfl
  refine bi hr fun c3 c4 hr => agq b1 [0, 2, 3] [(0, (str c3))] ?_ ?_
  refine ce (lpS (fun b2 a2 => agr fu b2 a2) s_0 b1 c4 [0, 2, 3] (fun a2 => [(0, (str a2))]) (fun _ => rfl) ?_)
  rintro b2 a2 d6 G a8 a1
  rw [agr.eq_2] at a1
  refine cs (bi a1 fun c5 a4 a1 => agq a8 [0, 2, 3, 31] [(31, (Vb c5))] ?_ ?_)
  refine cr (wp 3 (wd a4 (fun c6 a4 => ?_) (fun c6 a4 => ?_)))
  refine wp 1 (gy 27 (gi a4 fun c7 a4 => abp a2 .i64 (0 : Int) Tryz.underlying9 krf krf c7 (gy 27 (acv (at_ a2 (0 : Int)) (48 : UInt8) krf krf (wp 1 (wl (ql ?_)))))))
  obtain rfl := oi a4
  exact je a8.kp
  refine wp 4 (wl (ql ?_))
  obtain rfl := oi a4
  exact je a8.kp
  intro d7 G b3
  refine cb a1 (fun c8 a1 => ?_) (fun c8 a1 => ?_)
  refine ck (qn (ce (cr (wp 1 (gi a1 fun c9 a1 => agl a2 .i64 (1 : Int) Tryz.underlying9 krf krf c9 (wp 1 (wl (bn ?_))))))))
  exact ql (le' (zar (zad (1 : Int)) a2) b3.kp a1)
  refine ace (acd (acq (acf (ql ?_))))
  obtain rfl := oi a1
  exact je b3.kp
  intro d8 G b4
  refine sr (wp 1 (bi hr fun d9 d0 hr => wc ent27 b4 (afo d0 (hG.hp0 b4)) fun e0 d1 => wp 2 (nq (ct ?_))))
  obtain rfl := oi hr
  exact rv d1.kp
theorem anv {fu : Nat} {s_0 : Str} {w : World} {r : (Str × Int × Bool)} (hr : aip fu s_0 = some r) (hG : Gl w) : CR Tryz.prog 178 [(str s_0)] w fun v w' => v = (zal #[(str r.1), (Vi .i64 r.2.1), (Vb r.2.2)]) ∧ Hp w [] [] w' := by
  have hH : Hp w [] [] w := Hp.refl w
  refine enter (k := 40) Tryz.func178 rfl rfl nbe ?_
  unfold aip at hr
  refine sr (wp 3 (nq (cs (sr (wp 2 (wl ?_))))))
  refine qn (cd hr (fun h1 hr => ?_) (fun h1 hr => ?_))
  refine sr (wp 3 (nq (ct (st ?_))))
  obtain rfl := oi hr
  exact rv hH.kp
  refine ck (qn (sr (wp 1 (bi hr fun y2 b3 hr => aat 118 #[] [(str s_0), (bt (58 : UInt8))] _ ent118 krf krf (K_L_ref02_pieces b3 (hG.hp0 hH)) ?_))))
  rintro _ w4 ⟨o7, a8, cap9, rfl, a7⟩
  have a9 : Hp w [] [rwt eS 9 1 o7 a8 cap9 y2] w4 := Hp.callK (L1 := []) (L2 := []) hH a7; clear a7
  refine wp 1 (nq (sr (wp 1 (nq (bi hr fun b4 b5 hr => cut1 a9 b4 [2, 3, 4, 5, 6] (fun b0 => [(6, (str b0))]) ?_ ?_)))))
  refine sr (wp 1 (nq (ce (lpS (fun b1 ⟨a3, a1⟩ => afh fu y2 b1 a3 a1) (([] : Str), (0 : Int)) a9 b5 [2, 3, 4, 5, 6, 7] (fun ⟨a3, a1⟩ => [(6, (str a3)), (7, (Vi .i64 a1))]) (fun _ => rfl) ?_))))
  rintro b1 ⟨a3, a1⟩ c7 G a4 a0
  dsimp only at a0
  rw [afh.eq_2] at a0
  refine cs (sr (wp 4 (nq (cd a0 (fun b6 a0 => ?_) (fun b6 a0 => ?_)))))
  refine ck (qn (cs (ce (sr (wp 2 (gi a0 fun b7 a0 => ahu a8 y2.length cap9 9 1 .i64 a1 Tryz.underlying54 krf krf krf y2 rfl b7 (a4.rdrw 0 rfl) aoi (by decide) (gi a0 fun b8 a0 => ?_)))))))
  refine w_ldE1 a8 eS y2 1 a1 aoi (a4.rdrw 0 rfl) (str (el y2 a1)) b8 (by decide) krf krf krf (bi a0 fun b2 b9 a0 => wc ent213 a4 (K_L_ref02_group b9 (hG.hp0 a4)) fun c8 a5 => wp 5 (nq (cs (sr (wp 2 ?_)))))
  refine nq (cb a0 (fun c0 a0 => ?_) (fun c0 a0 => ?_))
  refine sr (wp 3 (nq (ct (st (bt_ (st (adl ?_)))))))
  refine bt_ (adl ?_)
  obtain rfl := oi a0
  obtain rfl := oi hr
  exact rv a5.kp
  refine ck (qn (bi a0 fun a6 a2 a0 => agq a5 [2, 3, 4, 5, 6, 7, 8] [(6, (str a6))] ?_ ?_))
  refine sr (wp 2 (nq (cd a2 (fun c1 a2 => ?_) (fun c1 a2 => ?_))))
  refine cr (wp 1 (gi a2 fun c2 a2 => aej a3 ([58] : Str) krf krf c2 (wp 1 (wl (ql ?_)))))
  obtain rfl := oi a2
  exact je a5.kp
  refine ck (ql ?_)
  obtain rfl := oi a2
  exact je a5.kp
  intro c9 G c3
  refine cr (wp 2 (gi a0 fun c4 a0 => aej a6 b2.1 krf krf c4 (wp 1 (wl (bn (qn (cr (wp 1 ?_))))))))
  exact gi a0 fun c5 a0 => aah a1 (1 : Int) krf krf c5 (wp 1 (wl (ql (le' (a6 ++ b2.1, a1 + (1 : Int)) c3.kp a0))))
  refine ace (acd (acq (acf (ql ?_))))
  obtain rfl := oi a0
  exact je1 rfl a4.kp
  rintro b0 d0 G c6 rfl
  refine sr (wp 6 (nq (ct ?_)))
  obtain rfl := oi hr
  exact rv c6.kp
end Go.Proofs
set_option linter.unusedVariables false
set_option linter.unusedSimpArgs false
set_option maxRecDepth 20000
set_option maxHeartbeats 1000000
namespace Go.Proofs
open Go.Wk Go.Px
open Go.Value renaming slice → Vs, int → Vi, bool → Vb, pointer → Vp
open Go.Value renaming tuple → zal
open List renaming flatMap → zai
theorem ent65 : Go.Wk.Enters Tryz.prog 65 := ⟨Tryz.f65, _, Tryz.func65, rfl, by kernel_rfl⟩
theorem ent117 : Go.Wk.Enters Tryz.prog 117 := ⟨Tryz.f117, _, Tryz.func117, rfl, by kernel_rfl⟩
theorem ent119 : Go.Wk.Enters Tryz.prog 119 := ⟨Tryz.f119, _, Tryz.func119, rfl, by kernel_rfl⟩
theorem ent120 : Go.Wk.Enters Tryz.prog 120 := ⟨Tryz.f120, _, Tryz.func120, rfl, by kernel_rfl⟩
theorem ent124 : Go.Wk.Enters Tryz.prog 124 := ⟨Tryz.f124, _, Tryz.func124, rfl, by kernel_rfl⟩
theorem ent178 : Go.Wk.Enters Tryz.prog 178 := ⟨Tryz.f178, _, Tryz.func178, rfl, by kernel_rfl⟩
theorem ent179 : Go.Wk.Enters Tryz.prog 179 := ⟨Tryz.f179, _, Tryz.func179, rfl, by kernel_rfl⟩
theorem ent181 : Go.Wk.Enters Tryz.prog 181 := ⟨Tryz.f181, _, Tryz.func181, rfl, by kernel_rfl⟩
theorem K_L_ref02_six {fu : Nat} {s_0 : Str} {w : World} {r : (Str × Bool)} (hr : aok fu s_0 = some r) (hG : Gl w) : CR Tryz.prog 117 [(str s_0)] w fun v w' => v = (zal #[(str r.1), (Vb r.2)]) ∧ Hp w [] [] w' := by
  have hH : Hp w [] [] w := Hp.refl w
  refine enter (k := 77) Tryz.func117 rfl rfl nbe ?_
  unfold aok at hr
  refine sr (wp 2 (nq (bi hr fun b5 b6 hr => cut1 hH b5 [0, 2, 3] (fun b7 => []) ?_ ?_)))
  refine sr (wp 1 (nq (ce (lpS (fun b0 a1 => agc fu s_0 b0 a1) (0 : Int) hH b6 [0, 2, 3, 4] (fun a1 => [(4, (Vi .i64 a1))]) (fun _ => rfl) ?_))))
  rintro b0 a1 e4 G a5 a0
  rw [agc.eq_2] at a0
  refine cs (sr (wp 1 (gi a0 fun b8 a0 => aah a1 (1 : Int) krf krf b8 (wp 3 (nq (cd a0 (fun b9 a0 => ?_) (fun b9 a0 => ?_)))))))
  refine ck (qn (cs (ce (cs (bi a0 fun c0 a2 a0 => agq a5 [0, 2, 3, 4, 31] [(31, (Vb c0))] ?_ ?_)))))
  refine cr (wp 2 (gi a2 fun c1 a2 => abp s_0 .i64 a1 Tryz.underlying9 krf krf c1 (afs (at_ s_0 a1) (58 : UInt8) krf krf (wn a2 (fun c2 a2 => ?_) (fun c2 a2 => ?_)))))
  refine wp 6 (wl (ql ?_))
  obtain rfl := oi a2
  exact je a5.kp
  refine wp 2 (gy 25 (gi a2 fun c3 a2 => aah a1 (1 : Int) krf krf c3 (gy 25 (gi a2 fun c4 a2 => abp s_0 .i64 (a1 + (1 : Int)) Tryz.underlying9 krf krf c4 (gy 25 (afs (at_ s_0 (a1 + (1 : Int))) (58 : UInt8) krf krf (wp 1 ?_)))))))
  refine wl (ql ?_)
  obtain rfl := oi a2
  exact je a5.kp
  intro e5 G a7
  refine cb a0 (fun c5 a0 => ?_) (fun c5 a0 => ?_)
  refine ace (acd (acf (qn (cr (wp 1 (gi a0 fun c6 a0 => aah a1 (1 : Int) krf krf c6 (wp 1 (wl ?_))))))))
  exact ql (le' (a1 + (1 : Int)) a7.kp a0)
  refine ck (qn (sr (wp 2 (gi a0 fun c7 a0 => akv s_0 .i64 a1 Tryz.underlying9 krf krf c7 (bi a0 fun a8 c8 a0 => wc ent178 a7 (anv c8 (hG.hp0 a7)) fun e6 b1 => wp 7 ?_)))))
  refine nq (sr (wp 2 (gi a0 fun c9 a0 => aah a1 (2 : Int) krf krf c9 (gi a0 fun d0 a0 => agl s_0 .i64 (a1 + (2 : Int)) Tryz.underlying9 krf krf d0 (bi a0 fun b2 d1 a0 => ?_)))))
  refine wc ent178 b1 (anv d1 (hG.hp0 b1)) fun e7 a6 => wp 7 (nq (cs (bi a0 fun d2 a3 a0 => agq a6 [0, 2, 3, 4, 5, 8, 60] [(60, (Vb d2))] ?_ ?_)))
  refine cr (wp 2 (wb a3 (fun d3 a3 => ?_) (fun d3 a3 => ?_)))
  refine wp 9 (wl (ql ?_))
  obtain rfl := oi a3
  exact je a6.kp
  refine wp 3 (wb a3 (fun d4 a3 => ?_) (fun d4 a3 => ?_))
  refine wp 5 (wl (ql ?_))
  obtain rfl := oi a3
  exact je a6.kp
  refine wp 2 (gy 55 (gi a3 fun d5 a3 => aah a8.2.1 b2.2.1 krf krf d5 (wp 2 (wl (ql ?_)))))
  obtain rfl := oi a3
  exact je a6.kp
  intro e8 G b3
  refine cb a0 (fun d6 a0 => ?_) (fun d6 a0 => ?_)
  refine sr (wp 2 (nq (ct (st (bt_ (st (adl ?_)))))))
  refine bt_ (adl ?_)
  obtain rfl := oi a0
  obtain rfl := oi hr
  exact rv b3.kp
  refine ck (qn (sr (wp 1 (gi a0 fun d7 a0 => aej a8.1 ([58, 58] : Str) krf krf d7 (wp 1 (gi a0 fun d8 a0 => aej (a8.1 ++ ([58, 58] : Str)) b2.1 krf krf d8 ?_))))))
  refine wp 2 (nq (ct (bt_ (st (adl (bt_ (adl ?_)))))))
  obtain rfl := oi a0
  obtain rfl := oi hr
  exact rv b3.kp
  refine ace (acd (acq (acf (ql ?_))))
  obtain rfl := oi a0
  exact je1 rfl a5.kp
  rintro b7 e9 G b4 rfl
  refine sr (wp 1 (bi hr fun d9 e0 hr => wc ent178 b4 (anv e0 (hG.hp0 b4)) fun f0 a9 => wp 7 (nq (bi hr fun e1 a4 hr => agq a9 [2, 3] [(2, (str d9.1)), (3, (Vb e1))] ?_ ?_))))
  refine cr (wp 2 (wb a4 (fun e2 a4 => ?_) (fun e2 a4 => ?_)))
  refine wp 5 (wl (ql ?_))
  obtain rfl := oi a4
  exact je a9.kp
  refine wp 5 (wl (ql ?_))
  obtain rfl := oi a4
  exact je a9.kp
  intro f1 G e3
  refine ct ?_
  obtain rfl := oi hr
  exact rv e3.kp
theorem K_L_ref02_letter {fu : Nat} {a1 : UInt8} {w : World} {r : Bool} (hr : aln fu a1 = some r) (hG : Gl w) : CR Tryz.prog 179 [(bt a1)] w fun v w' => v = (Vb r) ∧ Hp w [] [] w' := by
  have hH : Hp w [] [] w := Hp.refl w
  refine enter (k := 17) Tryz.func179 rfl rfl nbe ?_
  unfold aln at hr
  refine sr (wp 1 (nq (bi hr fun v8 a0 hr => agq hH [2] [(2, (Vb v8))] ?_ ?_)))
  refine cr (wp 1 (aja a1 (65 : UInt8) krf krf (wd a0 (fun h9 a0 => ?_) (fun h9 a0 => ?_))))
  refine wp 1 (gy 5 (aiz a1 (90 : UInt8) krf krf (wp 1 (wd a0 (fun a2 a0 => ?_) (fun a2 a0 => ?_)))))
  refine wp 8 (wl (ql ?_))
  obtain rfl := oi a0
  exact je hH.kp
  refine wp 1 (gy 9 (aja a1 (97 : UInt8) krf krf (gy 9 (wd a0 (fun a3 a0 => ?_) (fun a3 a0 => ?_)))))
  refine wp 1 (gy 12 (aiz a1 (122 : UInt8) krf krf (wp 3 (wl (ql ?_)))))
  obtain rfl := oi a0
  exact je hH.kp
  refine wp 5 (wl (ql ?_))
  obtain rfl := oi a0
  exact je hH.kp
  refine wp 5 (gy 9 (aja a1 (97 : UInt8) krf krf (gy 9 (wd a0 (fun a4 a0 => ?_) (fun a4 a0 => ?_)))))
  refine wp 1 (gy 12 (aiz a1 (122 : UInt8) krf krf (wp 3 (wl (ql ?_)))))
  obtain rfl := oi a0
  exact je hH.kp
  refine wp 5 (wl (ql ?_))
  obtain rfl := oi a0
  exact je hH.kp
  intro a6 G a5
  refine ct ?_
  obtain rfl := oi hr
  exact rv a5.kp
theorem K_L_ref02_label {fu : Nat} {s_0 : Str} {w : World} {r : (Bool × Bool)} (hr : amh fu s_0 = some r) (hG : Gl w) : CR Tryz.prog 119 [(str s_0)] w fun v w' => v = (zal #[(Vb r.1), (Vb r.2)]) ∧ Hp w [] [] w' := by
  have hH : Hp w [] [] w := Hp.refl w
  refine enter (k := 60) Tryz.func119 rfl rfl nbe ?_
  unfold amh at hr
  refine sr (wp 2 (nq (cs (bi hr fun b2 a1 hr => agq hH [0, 2, 3, 26] [(26, (Vb b2))] ?_ ?_))))
  refine cr (wp 3 (wd a1 (fun b3 a1 => ?_) (fun b3 a1 => ?_)))
  refine wp 17 (wl (ql ?_))
  obtain rfl := oi a1
  exact je hH.kp
  refine wp 4 (wd a1 (fun b4 a1 => ?_) (fun b4 a1 => ?_))
  refine wp 12 (wl (ql ?_))
  obtain rfl := oi a1
  exact je hH.kp
  refine wp 1 (gy 14 (gi a1 fun b5 a1 => abp s_0 .i64 (0 : Int) Tryz.underlying9 krf krf b5 (gy 14 (acv (at_ s_0 (0 : Int)) (45 : UInt8) krf krf (wp 1 (wd a1 (fun b6 a1 => ?_) (fun b6 a1 => ?_)))))))
  refine wp 7 (wl (ql ?_))
  obtain rfl := oi a1
  exact je hH.kp
  refine wp 3 (gy 19 (gi a1 fun b7 a1 => adg (s_0.length : Int) (1 : Int) krf krf b7 (gy 19 (gi a1 fun b8 a1 => abp s_0 .i64 ((s_0.length : Int) - (1 : Int)) Tryz.underlying9 krf krf b8 (gy 19 (acv (at_ s_0 ((s_0.length : Int) - (1 : Int))) (45 : UInt8) krf krf (wp 1 ?_)))))))
  refine wl (ql ?_)
  obtain rfl := oi a1
  exact je hH.kp
  intro e0 G a7
  refine cb hr (fun b9 hr => ?_) (fun b9 hr => ?_)
  refine sr (wp 2 (nq (ct (st ?_))))
  obtain rfl := oi hr
  exact rv a7.kp
  refine ck (qn (sr (wp 1 (nq (bi hr fun c0 c1 hr => cut1 a7 c0 [2, 3, 4] (fun a9 => [(4, (Vb a9))]) ?_ ?_)))))
  refine sr (wp 1 (nq (ce (lpS (fun b0 ⟨a4, a3⟩ => adn fu s_0 b0 a4 a3) (false, (0 : Int)) a7 c1 [0, 2, 3, 4, 5] (fun ⟨a4, a3⟩ => [(4, (Vb a4)), (5, (Vi .i64 a3))]) (fun _ => rfl) ?_))))
  rintro b0 ⟨a4, a3⟩ e1 G a5 a0
  dsimp only at a0
  rw [adn.eq_2] at a0
  refine cs (sr (wp 4 (nq (cd a0 (fun c2 a0 => ?_) (fun c2 a0 => ?_)))))
  refine ck (qn (cs (ce (cs (bi a0 fun c3 a2 a0 => agq a5 [0, 2, 3, 4, 5, 50] [(50, (Vb c3))] ?_ ?_)))))
  refine cr (wp 2 (gi a2 fun c4 a2 => abp s_0 .i64 a3 Tryz.underlying9 krf krf c4 (bi a2 fun e2 c5 a2 => wc ent179 a5 (K_L_ref02_letter c5 (hG.hp0 a5)) fun e3 a8 => wp 1 (wb a2 (fun c6 a2 => ?_) (fun c6 a2 => ?_)))))
  refine wp 2 (gy 38 (gi a2 fun c7 a2 => abp s_0 .i64 a3 Tryz.underlying9 krf krf c7 (gy 38 (bi a2 fun e4 c8 a2 => wc ent180 a8 (amq c8 (hG.hp0 a8)) fun e5 b1 => wp 2 (wb a2 (fun c9 a2 => ?_) (fun c9 a2 => ?_))))))
  refine wp 2 (gy 45 (gi a2 fun d0 a2 => abp s_0 .i64 a3 Tryz.underlying9 krf krf d0 (gy 45 (afs (at_ s_0 a3) (45 : UInt8) krf krf (wp 1 (wl (ql ?_)))))))
  obtain rfl := oi a2
  exact je b1.kp
  refine wp 5 (wl (ql ?_))
  obtain rfl := oi a2
  exact je b1.kp
  refine wp 12 (wl (ql ?_))
  obtain rfl := oi a2
  exact je a8.kp
  intro e6 G a6
  refine cb a0 (fun d1 a0 => ?_) (fun d1 a0 => ?_)
  refine sr (wp 2 (nq (ct (st (bt_ (st (adl ?_)))))))
  refine bt_ (adl ?_)
  obtain rfl := oi a0
  obtain rfl := oi hr
  exact rv a6.kp
  refine ck (qn (cr (wp 1 (wb a0 (fun d2 a0 => ?_) (fun d2 a0 => ?_)))))
  refine wp 7 (wl (bn (qn (cr (wp 1 (gi a0 fun d3 a0 => aah a3 (1 : Int) krf krf d3 (wp 1 (wl ?_))))))))
  exact ql (le' (true, a3 + (1 : Int)) a6.kp a0)
  refine wp 2 (gy 52 (gi a0 fun d4 a0 => abp s_0 .i64 a3 Tryz.underlying9 krf krf d4 (gy 52 (bi a0 fun d5 d6 a0 => wc ent180 a6 (amq d6 (hG.hp0 a6)) fun e7 d7 => wp 3 (wl (bn ?_))))))
  exact qn (cr (wp 1 (gi a0 fun d8 a0 => aah a3 (1 : Int) krf krf d8 (wp 1 (wl (ql (le' ((!d5), a3 + (1 : Int)) d7.kp a0)))))))
  refine ace (acd (acq (acf (ql ?_))))
  obtain rfl := oi a0
  exact je1 rfl a5.kp
  rintro a9 e8 G d9 rfl
  refine sr (wp 3 (nq (ct ?_)))
  obtain rfl := oi hr
  exact rv d9.kp
theorem K_L_ref02_number {fu : Nat} {s_0 : Str} {w : World} {r : Bool} (hr : alm fu s_0 = some r) (hG : Gl w) : CR Tryz.prog 120 [(str s_0)] w fun v w' => v = (Vb r) ∧ Hp w [] [] w' := by
  have hH : Hp w [] [] w := Hp.refl w
  refine enter (k := 44) Tryz.func120 rfl rfl nbe ?_
  unfold alm at hr
  refine sr (wp 1 (nq (cs (bi hr fun v8 a1 hr => agq hH [0, 2, 22] [(22, (Vb v8))] ?_ ?_))))
  refine cr (wp 3 (wd a1 (fun h9 a1 => ?_) (fun h9 a1 => ?_)))
  refine wp 14 (wl (ql ?_))
  obtain rfl := oi a1
  exact je hH.kp
  refine wp 4 (wd a1 (fun a9 a1 => ?_) (fun a9 a1 => ?_))
  refine wp 9 (wl (ql ?_))
  obtain rfl := oi a1
  exact je hH.kp
  refine wp 3 (gy 13 (wd a1 (fun b0 a1 => ?_) (fun b0 a1 => ?_)))
  refine wp 1 (gy 17 (gi a1 fun b1 a1 => abp s_0 .i64 (0 : Int) Tryz.underlying9 krf krf b1 (gy 17 (acv (at_ s_0 (0 : Int)) (48 : UInt8) krf krf (wp 2 (wl (ql ?_)))))))
  obtain rfl := oi a1
  exact je hH.kp
  refine wp 5 (wl (ql ?_))
  obtain rfl := oi a1
  exact je hH.kp
  intro c4 G a4
  refine cb hr (fun b2 hr => ?_) (fun b2 hr => ?_)
  refine sr (wp 1 (nq (ct (st ?_))))
  obtain rfl := oi hr
  exact rv a4.kp
  refine ck (qn (sr (wp 1 (nq (bi hr fun b3 b4 hr => cut1 a4 b3 [2, 3] (fun a6 => [(3, (Vi .i64 a6))]) ?_ ?_)))))
  refine sr (wp 1 (nq (ce (lpS (fun a7 ⟨a3, a2⟩ => aes fu s_0 a7 a3 a2) ((0 : Int), (0 : Int)) a4 b4 [0, 2, 3, 4] (fun ⟨a3, a2⟩ => [(3, (Vi .i64 a3)), (4, (Vi .i64 a2))]) (fun _ => rfl) ?_))))
  rintro a7 ⟨a3, a2⟩ c5 G a5 a0
  dsimp only at a0
  rw [aes.eq_2] at a0
  refine cs (sr (wp 4 (nq (cd a0 (fun b5 a0 => ?_) (fun b5 a0 => ?_)))))
  refine ck (qn (cs (ce (cs (sr (wp 2 (gi a0 fun b6 a0 => abp s_0 .i64 a2 Tryz.underlying9 krf krf b6 ?_)))))))
  refine bi a0 fun c6 b7 a0 => wc ent180 a5 (amq b7 (hG.hp0 a5)) fun c7 a8 => wp 1 (nq (cb a0 (fun b8 a0 => ?_) (fun b8 a0 => ?_)))
  refine sr (wp 1 (nq (ct (st (bt_ (st (adl ?_)))))))
  refine bt_ (adl ?_)
  obtain rfl := oi a0
  obtain rfl := oi hr
  exact rv a8.kp
  refine ck (qn (cr (wp 1 (gi a0 fun b9 a0 => aoh (10 : Int) a3 krf krf b9 (wp 2 (gi a0 fun c0 a0 => abp s_0 .i64 a2 Tryz.underlying9 krf krf c0 (w8_sub (at_ s_0 a2) (48 : UInt8) krf krf ?_)))))))
  refine w_convx .i64 .u8 (((at_ s_0 a2) - (48 : UInt8)).toNat : Int) Tryz.underlying5 Tryz.underlying3 krf (amw _) (gi a0 fun c1 a0 => aah ((10 : Int) * a3) (((at_ s_0 a2) - (48 : UInt8)).toNat : Int) krf krf c1 (wp 1 (wl (bn (qn (cr (wp 1 (gi a0 fun c2 a0 => ?_))))))))
  exact aah a2 (1 : Int) krf krf c2 (wp 1 (wl (ql (le' (((10 : Int) * a3) + (((at_ s_0 a2) - (48 : UInt8)).toNat : Int), a2 + (1 : Int)) a8.kp a0))))
  refine ace (acd (acq (acf (ql ?_))))
  obtain rfl := oi a0
  exact je1 rfl a5.kp
  rintro a6 c8 G c3 rfl
  refine sr (wp 3 (nq (ct ?_)))
  obtain rfl := oi hr
  exact rv c3.kp
theorem K_L_ref02_Host {fu : Nat} {s_0 : Str} {w : World} {r : (Str × Bool)} (hr : alz fu s_0 = some r) (hG : Gl w) : CR Tryz.prog 65 [(str s_0)] w fun v w' => v = (zal #[(str r.1), (Vb r.2)]) ∧ Hp w [] [] w' := by
  have hH : Hp w [] [] w := Hp.refl w
  refine enter (k := 87) Tryz.func65 rfl rfl nbe ?_
  unfold alz at hr
  refine sr (wp 2 (nq (sr (wp 3 (nq ?_)))))
  refine cs (bi hr fun v9 a1 hr => agq hH [0, 2, 3, 4, 28] [(28, (Vb v9))] ?_ ?_)
  refine cr (wp 2 (wd a1 (fun c2 a1 => ?_) (fun c2 a1 => ?_)))
  refine wp 1 (gy 17 (gi a1 fun c3 a1 => abp s_0 .i64 (0 : Int) Tryz.underlying9 krf krf c3 (gy 17 (acv (at_ s_0 (0 : Int)) (91 : UInt8) krf krf (wp 1 (wd a1 (fun c4 a1 => ?_) (fun c4 a1 => ?_)))))))
  refine wp 2 (gy 22 (gi a1 fun c5 a1 => adg (s_0.length : Int) (1 : Int) krf krf c5 (gy 22 (gi a1 fun c6 a1 => abp s_0 .i64 ((s_0.length : Int) - (1 : Int)) Tryz.underlying9 krf krf c6 (gy 22 (acv (at_ s_0 ((s_0.length : Int) - (1 : Int))) (93 : UInt8) krf krf (wp 1 ?_)))))))
  refine wl (ql ?_)
  obtain rfl := oi a1
  exact je hH.kp
  refine wp 6 (wl (ql ?_))
  obtain rfl := oi a1
  exact je hH.kp
  refine wp 11 (wl (ql ?_))
  obtain rfl := oi a1
  exact je hH.kp
  intro g0 G b2
  refine cb hr (fun c7 hr => ?_) (fun c7 hr => ?_)
  refine sr (wp 2 (gi hr fun c8 hr => adg (s_0.length : Int) (1 : Int) krf krf c8 (gi hr fun c9 hr => amx s_0 .i64 .i64 (1 : Int) ((s_0.length : Int) - (1 : Int)) Tryz.underlying9 krf krf krf c9 (bi hr fun b8 d0 hr => wc ent117 b2 (K_L_ref02_six d0 (hG.hp0 b2)) fun g1 b9 => wp 5 ?_))))
  refine nq (cs (sr (wp 2 (nq (cb hr (fun d1 hr => ?_) (fun d1 hr => ?_))))))
  refine sr (wp 2 (nq (ct (st (st ?_)))))
  obtain rfl := oi hr
  exact rv b9.kp
  refine ck (qn (sr (wp 1 (gi hr fun d2 hr => aej ([91] : Str) b8.1 krf krf d2 (gi hr fun d3 hr => aej (([91] : Str) ++ b8.1) ([93] : Str) krf krf d3 (wp 2 ?_))))))
  refine nq (ct (st ?_))
  obtain rfl := oi hr
  exact rv b9.kp
  refine ck (qn (sr (wp 1 (bi hr fun a3 d4 hr => aat 118 #[] [(str s_0), (bt (46 : UInt8))] _ ent118 krf krf (K_L_ref02_pieces d4 (hG.hp0 b2)) ?_))))
  rintro _ d5 ⟨d6, a5, b5, rfl, c0⟩
  have d7 : Hp w [] [rwt eS 9 1 d6 a5 b5 a3] d5 := Hp.callK (L1 := []) (L2 := []) b2 c0; clear c0
  refine wp 1 (nq (sr (wp 5 (nq (bi hr fun d8 d9 hr => cut (σ := (Bool × Bool)) [0, 2, 3, 4, 8, 9] (fun a6 => [(8, (Vb a6.1)), (9, (Vb a6.2))]) (fun a6 w' => Hp w [] [] w' ∧ .inl a6 = d8) ?_ ?_)))))
  refine sr (wp 1 (nq (ce (lpS (fun c1 ⟨a7, a8, a2⟩ => afp fu a3 c1 a7 a8 a2) ((decide ((a3.length : Int) = (4 : Int))), false, (0 : Int)) d7 d9 [0, 2, 3, 4, 7, 8, 9, 10] (fun ⟨a7, a8, a2⟩ => [(8, (Vb a7)), (9, (Vb a8)), (10, (Vi .i64 a2))]) (fun _ => rfl) ?_))))
  rintro c1 ⟨a7, a8, a2⟩ g2 G a9 a0
  dsimp only at a0
  rw [afp.eq_2] at a0
  refine cs (sr (wp 4 (nq (cd a0 (fun e0 a0 => ?_) (fun e0 a0 => ?_)))))
  refine ck (qn (cs (ce (sr (wp 2 (gi a0 fun e1 a0 => ahu a5 a3.length b5 9 1 .i64 a2 Tryz.underlying54 krf krf krf a3 rfl e1 (a9.rdrw 0 rfl) aoi (by decide) (gi a0 fun e2 a0 => ?_)))))))
  refine w_ldE1 a5 eS a3 1 a2 aoi (a9.rdrw 0 rfl) (str (el a3 a2)) e2 (by decide) krf krf krf (bi a0 fun g3 e3 a0 => wc ent119 a9 (K_L_ref02_label e3 (hG.hp0 a9)) fun g4 b3 => wp 5 (nq (cs (sr (wp 2 ?_)))))
  refine nq (cb a0 (fun e4 a0 => ?_) (fun e4 a0 => ?_))
  refine sr (wp 2 (nq (ct (st (bt_ (st (adl ?_)))))))
  refine bt_ (adl ?_)
  obtain rfl := oi a0
  obtain rfl := oi hr
  exact rv b3.kp
  refine ck (qn (bi a0 fun b6 b0 a0 => agq b3 [0, 2, 3, 4, 7, 8, 9, 10] [(9, (Vb b6))] ?_ ?_))
  refine cr (wp 1 (wb b0 (fun e5 b0 => ?_) (fun e5 b0 => ?_)))
  refine wp 3 (wl (ql ?_))
  obtain rfl := oi b0
  exact je b3.kp
  refine wp 3 (wl (ql ?_))
  obtain rfl := oi b0
  exact je b3.kp
  intro g5 G b1
  refine cr (wp 1 (wb a0 (fun e6 a0 => ?_) (fun e6 a0 => ?_)))
  refine wp 2 (gy 68 (gi a0 fun e7 a0 => ahu a5 a3.length b5 9 1 .i64 a2 Tryz.underlying54 krf krf krf a3 rfl e7 (b1.rdrw 0 rfl) aoi (by decide) (gy 68 (gi a0 fun e8 a0 => w_ldE1 a5 eS a3 1 a2 aoi (b1.rdrw 0 rfl) (str (el a3 a2)) e8 (by decide) krf krf krf (gy 68 (bi a0 fun e9 f0 a0 => wc ent120 b1 (K_L_ref02_number f0 (hG.hp0 b1)) fun g6 f1 => ?_))))))
  refine wp 2 (wl (bn (qn (cr (wp 1 (gi a0 fun f2 a0 => aah a2 (1 : Int) krf krf f2 (wp 1 (wl ?_))))))))
  exact ql (le' (e9, b6, a2 + (1 : Int)) f1.kp a0)
  refine wp 7 (wl (bn (qn (cr (wp 1 (gi a0 fun f3 a0 => aah a2 (1 : Int) krf krf f3 (wp 1 (wl ?_))))))))
  exact ql (le' (false, b6, a2 + (1 : Int)) b1.kp a0)
  refine ace (acd (acq (acf (ql ?_))))
  obtain rfl := oi a0
  exact ⟨(a7, a8), _, rfl, by kernel_rfl, a9.kp, rfl⟩
  rintro a6 g7 G ⟨b4, rfl⟩
  refine cs (bi hr fun f4 a4 hr => agq b4 [0, 2, 3, 84] [(84, (Vb f4))] ?_ ?_)
  refine cr (wp 2 (wd a4 (fun f5 a4 => ?_) (fun f5 a4 => ?_)))
  refine wp 7 (wl (ql ?_))
  obtain rfl := oi a4
  exact je b4.kp
  refine wp 2 (gy 77 (wb a4 (fun f6 a4 => ?_) (fun f6 a4 => ?_)))
  refine wp 4 (wl (ql ?_))
  obtain rfl := oi a4
  exact je b4.kp
  refine wp 4 (wl (ql ?_))
  obtain rfl := oi a4
  exact je b4.kp
  intro g8 G b7
  refine cb hr (fun f7 hr => ?_) (fun f7 hr => ?_)
  refine sr (wp 2 (nq (ct (st ?_))))
  obtain rfl := oi hr
  exact rv b7.kp
  refine ck (qn (sr (wp 1 (bi hr fun g9 f8 hr => wc ent27 b7 (afo f8 (hG.hp0 b7)) fun h0 f9 => wp 2 (nq ?_)))))
  refine ct ?_
  obtain rfl := oi hr
  exact rv f9.kp
theorem K_L_ref02_value {fu : Nat} {s_0 : Str} {a2 : Int} {w : World} {r : (Str × Int × UInt8)} (hr : amg fu s_0 a2 = some r) (hG : Gl w) : CR Tryz.prog 122 [(str s_0), (Vi .i64 a2)] w fun v w' => v = (zal #[(str r.1), (Vi .i64 r.2.1), (bt r.2.2)]) ∧ Hp w [] [] w' := by
  have hH : Hp w [] [] w := Hp.refl w
  refine enter (k := 80) Tryz.func122 rfl rfl nbe ?_
  unfold amg at hr
  refine sr (wp 3 (nq (cs (bi hr fun v6 a4 hr => agq hH [0, 1, 4, 5, 6, 20] [(20, (Vb v6))] ?_ ?_))))
  refine cr (wp 4 (wd a4 (fun h7 a4 => ?_) (fun h7 a4 => ?_)))
  refine wp 2 (gy 15 (gi a4 fun g8 a4 => abp s_0 .i64 a2 Tryz.underlying9 krf krf g8 (gy 15 (acv (at_ s_0 a2) (34 : UInt8) krf krf (wp 1 (wl (ql ?_)))))))
  obtain rfl := oi a4
  exact je hH.kp
  refine wp 5 (wl (ql ?_))
  obtain rfl := oi a4
  exact je hH.kp
  intro w9 G a7
  refine cb hr (fun b7 hr => ?_) (fun b7 hr => ?_)
  refine sr (wp 2 (bi hr fun e1 b8 hr => wc ent181 a7 (K_L_ref01_Unquote b8 (hG.hp0 a7)) fun e2 b9 => wp 6 (nq (ct (st ?_)))))
  obtain rfl := oi hr
  exact rv b9.kp
  refine ck (qn (bi hr fun c0 a0 hr => cut1 a7 c0 [0, 1, 4, 5, 6] (fun c1 => []) ?_ ?_))
  refine bi a0 fun c2 a5 a0 => agq a7 [0, 1, 4, 5, 6, 36] [(36, (Vb c2))] ?_ ?_
  refine cr (wp 4 (wd a5 (fun c3 a5 => ?_) (fun c3 a5 => ?_)))
  refine wp 2 (gy 31 (gi a5 fun c4 a5 => abp s_0 .i64 a2 Tryz.underlying9 krf krf c4 (gy 31 (acv (at_ s_0 a2) (91 : UInt8) krf krf (wp 1 (wl (ql ?_)))))))
  obtain rfl := oi a5
  exact je a7.kp
  refine wp 5 (wl (ql ?_))
  obtain rfl := oi a5
  exact je a7.kp
  intro e3 G a9
  refine cb a0 (fun c5 a0 => ?_) (fun c5 a0 => ?_)
  refine sr (wp 2 (nq (bi a0 fun a8 c6 a0 => agq a9 [0, 1, 4, 5, 6, 7] [(7, (Vi .i64 a8))] ?_ ?_)))
  refine ce (lpS (fun b1 a3 => aez fu s_0 b1 a3) a2 a9 c6 [0, 1, 4, 5, 6, 7] (fun a3 => [(7, (Vi .i64 a3))]) (fun _ => rfl) ?_)
  rintro b1 a3 e4 G b0 a1
  rw [aez.eq_2] at a1
  refine cs (bi a1 fun c7 a6 a1 => agq b0 [0, 1, 4, 5, 6, 7, 47] [(47, (Vb c7))] ?_ ?_)
  refine cr (wp 4 (wd a6 (fun c8 a6 => ?_) (fun c8 a6 => ?_)))
  refine wp 2 (gy 42 (gi a6 fun c9 a6 => abp s_0 .i64 a3 Tryz.underlying9 krf krf c9 (gy 42 (afs (at_ s_0 a3) (93 : UInt8) krf krf (wp 1 (wl (ql ?_)))))))
  obtain rfl := oi a6
  exact je b0.kp
  refine wp 5 (wl (ql ?_))
  obtain rfl := oi a6
  exact je b0.kp
  intro e5 G b2
  refine cb a1 (fun d0 a1 => ?_) (fun d0 a1 => ?_)
  refine ck (qn (ce (cr (wp 1 (gi a1 fun d1 a1 => aah a3 (1 : Int) krf krf d1 (wp 1 (wl (bn ?_))))))))
  exact ql (le' (a3 + (1 : Int)) b2.kp a1)
  refine ace (acd (acq (acf (ql ?_))))
  obtain rfl := oi a1
  exact je b2.kp
  intro e6 G b3
  refine sr (wp 3 (gi a0 fun d2 a0 => aah a8 (1 : Int) krf krf d2 (wp 2 (w_min .i64 (a8 + (1 : Int)) (s_0.length : Int) krf krf (gi a0 fun d3 a0 => amx s_0 .i64 .i64 a2 (min (a8 + (1 : Int)) (s_0.length : Int)) Tryz.underlying9 krf krf krf d3 (bi a0 fun e7 d4 a0 => ?_))))))
  refine wc ent65 b3 (K_L_ref02_Host d4 (hG.hp0 b3)) fun e8 b4 => wp 5 (nq (cs (sr (wp 2 (nq (cb a0 (fun d5 a0 => ?_) (fun d5 a0 => ?_)))))))
  refine sr (wp 4 (nq (ct (st (adl ?_)))))
  obtain rfl := oi a0
  obtain rfl := oi hr
  exact rv b4.kp
  refine ck (qn (sr (wp 2 (gi a0 fun d6 a0 => aah a8 (1 : Int) krf krf d6 (wp 3 (nq ?_))))))
  refine ct (adl ?_)
  obtain rfl := oi a0
  obtain rfl := oi hr
  exact rv b4.kp
  refine ck (ql ?_)
  obtain rfl := oi a0
  exact je1 rfl a9.kp
  rintro c1 e9 G b5 rfl
  refine sr (wp 2 (bi hr fun d7 d8 hr => wc ent61 b5 (aim d8 (hG.hp0 b5)) fun f0 b6 => wp 1 (nq (cs (cs ?_)))))
  refine cr (wp 3 (nq (cd hr (fun d9 hr => ?_) (fun d9 hr => ?_))))
  refine sr (wp 4 (nq (ct (st ?_))))
  obtain rfl := oi hr
  exact rv b6.kp
  refine ck (qn (sr (wp 3 (gi hr fun e0 hr => amx s_0 .i64 .i64 a2 d7 Tryz.underlying9 krf krf krf e0 (wp 4 (nq ?_))))))
  refine ct ?_
  obtain rfl := oi hr
  exact rv b6.kp
theorem K_L_ref02_find {fu : Nat} {a2 : List (Str × Str × Bool)} {a5 : Str} (a3 : Option Addr) (a6 : Nat) (a7 : Nat) {w : World} {r : Int} (hr : ano fu a2 a5 = some r) (hG : Gl w) (b2 : a6 = a2.length) (a8 : Rd w a3 (zai aaa a2)) (c4 : a6 ≤ a7) : CR Tryz.prog 124 [(Vs a3 a6 a7), (str a5)] w fun v w' => v = (Vi .i64 r) ∧ Hp w [] [] w' := by
  subst b2
  have hH : Hp w [] [] w := Hp.refl w
  refine enter (k := 22) Tryz.func124 rfl rfl nbe ?_
  unfold ano at hr
  refine sr (wp 1 (nq (bi hr fun b3 b4 hr => cut1 hH b3 [4] (fun b5 => []) ?_ ?_)))
  refine sr (wp 1 (nq (ce (lpS (fun a9 a1 => agm fu a2 a5 a9 a1) (0 : Int) hH b4 [0, 1, 4, 5] (fun a1 => [(5, (Vi .i64 a1))]) (fun _ => rfl) ?_))))
  rintro a9 a1 c5 G a4 a0
  rw [agm.eq_2] at a0
  refine cs (sr (wp 4 (nq (cd a0 (fun b6 a0 => ?_) (fun b6 a0 => ?_)))))
  refine ck (qn (cs (ce (sr (wp 2 (gi a0 fun b7 a0 => ahu a3 a2.length a7 46 3 .i64 a1 Tryz.underlying22 krf krf krf a2 rfl b7 (a8.hp a4) aab (by decide) (w_fldE a3 ((a1).toNat * 3) 0 krf krf ?_)))))))
  refine gi a0 fun b8 a0 => w_ldF a3 aaa a2 3 a1 0 aab (a8.hp a4) (str ((el a2 a1).1)) b8 (by decide) krf krf krf (bi a0 fun c6 b9 a0 => wc ent27 a4 (afo b9 (hG.hp0 a4)) fun c7 b0 => wp 1 (bi a0 fun c8 c0 a0 => wc ent27 b0 (afo c0 (hG.hp0 b0)) fun c9 b1 => wp 1 (nq (cd a0 (fun c1 a0 => ?_) (fun c1 a0 => ?_)))))
  refine sr (wp 2 (nq (ct (bt_ (st (adl (bt_ ?_)))))))
  refine adl ?_
  obtain rfl := oi a0
  obtain rfl := oi hr
  exact rv b1.kp
  exact ck (bn (qn (cr (wp 1 (gi a0 fun c2 a0 => aah a1 (1 : Int) krf krf c2 (wp 1 (wl (ql (le' (a1 + (1 : Int)) b1.kp a0)))))))))
  refine ace (acd (acq (acf (ql ?_))))
  obtain rfl := oi a0
  exact je1 rfl a4.kp
  rintro b5 d0 G c3 rfl
  refine sr (wp 1 (nq (ct ?_)))
  obtain rfl := oi hr
  exact rv c3.kp
theorem api {fu : Nat} {a0 : List (Str × Str × Bool)} {a5 : Str} (a1 : Option Addr) (a2 : Nat) (a3 : Nat) {w : World} {r : UInt8} (hr : ahf fu a0 a5 = some r) (hG : Gl w) (a6 : a2 = a0.length) (a7 : Rd w a1 (zai aaa a0)) (a8 : a2 ≤ a3) : CR Tryz.prog 123 [(Vs a1 a2 a3), (str a5)] w fun v w' => v = (bt r) ∧ Hp w [] [] w' := by
  subst a6
  have hH : Hp w [] [] w := Hp.refl w
  refine enter (k := 12) Tryz.func123 rfl rfl nbe ?_
  unfold ahf at hr
  refine sr (wp 1 (nq (cs (sr (wp 2 (bi hr fun y1 a9 hr => ?_))))))
  refine wc ent124 hH (K_L_ref02_find a1 a0.length a3 a9 (hG.hp0 hH) rfl (a7.hp hH) a8) fun w3 a4 => wp 1 (nq (cd hr (fun h6 hr => ?_) (fun h6 hr => ?_)))
  refine sr (wp 1 (nq (ct (st ?_))))
  obtain rfl := oi hr
  exact rv a4.kp
  refine ck (qn (cs (sr (wp 3 (nq (cd hr (fun h7 hr => ?_) (fun h7 hr => ?_)))))))
  refine sr (wp 1 (nq (ct (st ?_))))
  obtain rfl := oi hr
  exact rv a4.kp
  refine ck (qn (sr (wp 1 (nq (ct ?_)))))
  obtain rfl := oi hr
  exact rv a4.kp
end Go.Proofs
set_option linter.unusedVariables false
set_option linter.unusedSimpArgs false
set_option maxRecDepth 20000
set_option maxHeartbeats 1000000
namespace Go.Proofs
open Go.Wk Go.Px
open Go.Value renaming slice → Vs, int → Vi, bool → Vb, pointer → Vp
open Go.Value renaming agg → zam, func → zan, tuple → zal
open Int renaming toNat → zad
open List renaming drop → zar, flatMap → zai, length_take → zah, take → zaz
open Nat renaming lt_of_lt_of_le → zaj, lt_succ_self → zac
theorem ent60 : Go.Wk.Enters Tryz.prog 60 := ⟨Tryz.f60, _, Tryz.func60, rfl, by kernel_rfl⟩
theorem ent67 : Go.Wk.Enters Tryz.prog 67 := ⟨Tryz.f67, _, Tryz.func67, rfl, by kernel_rfl⟩
theorem ent76 : Go.Wk.Enters Tryz.prog 76 := ⟨Tryz.f76, _, Tryz.func76, rfl, by kernel_rfl⟩
theorem ent122 : Go.Wk.Enters Tryz.prog 122 := ⟨Tryz.f122, _, Tryz.func122, rfl, by kernel_rfl⟩
theorem ent123 : Go.Wk.Enters Tryz.prog 123 := ⟨Tryz.f123, _, Tryz.func123, rfl, by kernel_rfl⟩
theorem ent186 : Go.Wk.Enters Tryz.prog 186 := ⟨Tryz.f186, _, Tryz.func186, rfl, by kernel_rfl⟩
theorem ent218 : Go.Wk.Enters Tryz.prog 218 := ⟨Tryz.f218, _, Tryz.func218, rfl, by kernel_rfl⟩
theorem K_L_ref02_Params {fu : Nat} {s_0 : Str} {w : World} {r : ((List (Str × Str × Bool)) × Int × UInt8)} (hr : alp fu s_0 = some r) (hG : Gl w) : CR Tryz.prog 67 [(str s_0)] w fun v w' => ∃ (o0 : Option Nat), ∃ (a0 : Option Addr), ∃ (cap0 : Nat), v = (zal #[(Vs a0 r.1.length cap0), (Vi .i64 r.2.1), (bt r.2.2)]) ∧ Hp w [] [rwt aaa 46 3 o0 a0 cap0 r.1] w' := by
  have hH : Hp w [] [] w := Hp.refl w
  refine enter (k := 88) Tryz.func67 rfl rfl nbe ?_
  unfold alp at hr
  refine sr (wp 3 (nq (sr (wp 1 (nq ?_)))))
  refine sr (wp 1 (bi hr fun y1 d9 hr => wc ent62 hH (aib d9 (hG.hp0 hH)) fun w3 e0 => wp 1 (nq (bi hr fun c8 e1 hr => cut (σ := (List (Str × Str × Bool)) × (Option Nat) × (Option Addr) × Nat) [2, 3, 4, 5] (fun ⟨b3, b8, b4, b5⟩ => [(5, (Vs b4 b3.length b5))]) (fun ⟨b3, b8, b4, b5⟩ w' => Hp w [] [rwt aaa 46 3 b8 b4 b5 b3] w' ∧ .inl b3 = c8) ?_ ?_))))
  refine ce (lpG (σ := Nat × (List (Str × Str × Bool)) × Int × (Option Nat) × (Option Addr) × Nat) [0, 2, 3, 4, 5, 6] (fun ⟨b6, a5, b0, a8, a6, a7⟩ => [(5, (Vs a6 a5.length a7)), (6, (Vi .i64 b0))]) (fun ⟨b6, a5, b0, a8, a6, a7⟩ w' => Hp w [] [rwt aaa 46 3 a8 a6 a7 a5] w' ∧ afj fu s_0 b6 a5 b0 = some c8) (fun ⟨b6, a5, b0, a8, a6, a7⟩ => b6) (fu, ([] : List (Str × Str × Bool)), y1, none, none, 0) (by exact ⟨(Hp.nilrw e0 aaa 46 3 none).kp, e1⟩) ?_ (mc krf (mc krf (mc krf (mc krf (mc (Eq.trans (b := (Vs none 0 0)) krf (aaj lsy)) (mc krf rfl)))))))
  rintro ⟨_ | b6, a5, b0, a8, a6, a7⟩ h3 G ⟨b9, a1⟩
  · exact nzz a1
  rw [afj.eq_2] at a1
  refine cs (sr (wp 4 (nq (cd a1 (fun e2 a1 => ?_) (fun e2 a1 => ?_)))))
  refine ck (qn (ce (cs (sr (wp 2 (gi a1 fun e3 a1 => abp s_0 .i64 b0 Tryz.underlying9 krf krf e3 (afs (at_ s_0 b0) (59 : UInt8) krf krf ?_)))))))
  refine nq (cn a1 (fun e4 a1 => ?_) (fun e4 a1 => ?_))
  refine sr (wp 4 (nq (ct (st (bt_ (adl (bt_ ?_)))))))
  refine adl ?_
  obtain rfl := oi a1
  obtain rfl := oi hr
  refine apg (Vs none 0 0) (Vi .i64 b0) (bt (5 : UInt8)) rfl krf krf krf ?_
  exact ⟨none, none, 0, (by first | rfl | (simp; done) | (simp; omega)), (Hp.nilrw b9 aaa 46 3 none).kp⟩
  refine ck (qn (sr (wp 2 (gi a1 fun e5 a1 => aah b0 (1 : Int) krf krf e5 (bi a1 fun c1 e6 a1 => wc ent62 b9 (aib e6 (hG.hp0 b9)) fun h4 c9 => wp 1 ?_)))))
  refine nq (sr (wp 2 (bi a1 fun e7 e8 a1 => wc ent61 c9 (aim e8 (hG.hp0 c9)) fun h5 c2 => wp 1 (nq ?_))))
  refine cs (sr (wp 3 (nq (cd a1 (fun e9 a1 => ?_) (fun e9 a1 => ?_)))))
  refine sr (wp 4 (nq (ct (st (bt_ (adl (bt_ ?_)))))))
  refine adl ?_
  obtain rfl := oi a1
  obtain rfl := oi hr
  refine apg (Vs none 0 0) (Vi .i64 c1) (bt (5 : UInt8)) rfl krf krf krf ?_
  exact ⟨none, none, 0, (by first | rfl | (simp; done) | (simp; omega)), (Hp.nilrw c2 aaa 46 3 none).kp⟩
  refine ck (qn (sr (wp 3 (gi a1 fun f0 a1 => amx s_0 .i64 .i64 c1 e7 Tryz.underlying9 krf krf krf f0 (bi a1 fun a4 f1 a1 => wc ent27 c2 (afo f1 (hG.hp0 c2)) fun h6 f2 => wp 1 ?_)))))
  refine adx f2 [(str ([] : Str)), (str ([] : Str)), (Vb false)] 46 (fun b => (Vp (some ⟨b, 0, none⟩))) rfl rfl krf fun a9 h7 f3 => ahl f3 0 a9 0 [(str ([] : Str)), (str ([] : Str)), (Vb false)] [(str a4), (str ([] : Str)), (Vb false)] 46 [blk a9 [(str a4), (str ([] : Str)), (Vb false)] 46, rwt aaa 46 3 a8 a6 a7 a5] rfl nbe krf krf rfl krf rfl fun h8 d0 => nq (sr (wp 2 (bi a1 fun c0 f4 a1 => wc ent62 d0 (aib f4 (hG.hp0 d0)) fun h9 c3 => wp 1 ?_)))
  refine nq (bi a1 fun f5 a3 a1 => cut (σ := (Int × Str × Bool)) [0, 2, 3, 4, 5, 6, 7, 9] (fun a2 => [(6, (Vi .i64 a2.1))]) (fun a2 w' => Hp w [] [blk a9 [(str a4), (str a2.2.1), (Vb a2.2.2)] 46, rwt aaa 46 3 a8 a6 a7 a5] w' ∧ .inl a2 = f5) ?_ ?_)
  refine bi a3 fun f6 b2 a3 => agq c3 [0, 2, 3, 4, 5, 6, 7, 9, 54] [(54, (Vb f6))] ?_ ?_
  refine cr (wp 4 (wd b2 (fun f7 b2 => ?_) (fun f7 b2 => ?_)))
  refine wp 2 (gy 49 (gi b2 fun f8 b2 => abp s_0 .i64 c0 Tryz.underlying9 krf krf f8 (gy 49 (acv (at_ s_0 c0) (61 : UInt8) krf krf (wp 1 (wl (ql ?_)))))))
  obtain rfl := oi b2
  exact je (Hp.front (Hp.front c3 1 _ rfl) 1 _ rfl).kp
  refine wp 5 (wl (ql ?_))
  obtain rfl := oi b2
  exact je (Hp.front (Hp.front c3 1 _ rfl) 1 _ rfl).kp
  intro i0 G c4
  refine cb a3 (fun f9 a3 => ?_) (fun f9 a3 => ?_)
  refine sr (wp 3 (gi a3 fun g0 a3 => aah c0 (1 : Int) krf krf g0 (bi a3 fun i1 g1 a3 => wc ent62 c4 (aib g1 (hG.hp0 c4)) fun i2 d1 => bi a3 fun b1 g2 a3 => wc ent122 d1 (K_L_ref02_value g2 (hG.hp0 d1)) fun i3 d2 => wp 7 ?_)))
  refine nq (cs (sr (wp 1 (afs b1.2.2 (0 : UInt8) krf krf (nq (cn a3 (fun g3 a3 => ?_) (fun g3 a3 => ?_)))))))
  refine sr (wp 5 (nq (ct (st (adl ?_)))))
  obtain rfl := oi a3
  refine bt_ (adl (bt_ (adl ?_)))
  obtain rfl := oi a1
  obtain rfl := oi hr
  refine apg (Vs none 0 0) (Vi .i64 b1.2.1) (bt b1.2.2) rfl krf krf krf ?_
  exact ⟨none, none, 0, (by first | rfl | (simp; done) | (simp; omega)), (Hp.nilrw d2 aaa 46 3 none).kp⟩
  refine ck (qn (sr (wp 2 (aht d2 0 a9 1 [(str a4), (str ([] : Str)), (Vb false)] 46 (str b1.1) [blk a9 [(str a4), (str b1.1), (Vb false)] 46, rwt aaa 46 3 a8 a6 a7 a5] rfl (zaj (zac _) nbe) krf krf rfl krf rfl fun i4 g4 => nq (sr ?_)))))
  refine wp 1 (aht g4 0 a9 2 [(str a4), (str b1.1), (Vb false)] 46 (Vb true) [blk a9 [(str a4), (str b1.1), (Vb true)] 46, rwt aaa 46 3 a8 a6 a7 a5] rfl (zaj (zac _) nbe) krf krf rfl krf rfl fun i5 d3 => nq (cr (wp 2 (bi a3 fun g5 g6 a3 => wc ent62 d3 (aib g6 (hG.hp0 d3)) fun i6 g7 => wp 1 (wl ?_)))))
  refine ql ?_
  obtain rfl := oi a3
  exact ⟨(g5, b1.1, true), _, rfl, by kernel_rfl, (Hp.front (Hp.front g7 1 _ rfl) 1 _ rfl).kp, rfl⟩
  refine ck (ql ?_)
  obtain rfl := oi a3
  exact ⟨(c0, ([] : Str), false), _, rfl, by kernel_rfl, (Hp.front (Hp.front c4 1 _ rfl) 1 _ rfl).kp, rfl⟩
  rintro a2 i7 G ⟨b7, rfl⟩
  refine sr (wp 2 (acr b7 0 a9 0 [(str a4), (str a2.2.1), (Vb a2.2.2)] 46 (str a4) rfl rfl krf krf (bi a1 fun d4 g8 a1 => wc ent123 b7 (api a6 a5.length a7 g8 (hG.hp0 b7) rfl (b7.rdrw 1 rfl) (b7.rwcap 1 rfl)) fun i9 c5 => wp 1 (nq (cs ?_)))))
  refine sr (wp 1 (afs d4 (0 : UInt8) krf krf (nq (cn a1 (fun g9 a1 => ?_) (fun g9 a1 => ?_)))))
  refine sr (wp 5 (nq (ct (st (bt_ (adl (bt_ ?_)))))))
  refine adl ?_
  obtain rfl := oi a1
  obtain rfl := oi hr
  refine apg (Vs none 0 0) (Vi .i64 c1) (bt d4) rfl krf krf krf ?_
  exact ⟨none, none, 0, (by first | rfl | (simp; done) | (simp; omega)), (Hp.nilrw c5 aaa 46 3 none).kp⟩
  refine ck (qn (cr (wp 1 (aob c5 0 a9 0 3 [(str a4), (str a2.2.1), (Vb a2.2.2)] [(str a4), (str a2.2.1), (Vb a2.2.2)] 46 rfl rfl rfl krf krf krf (adx c5 [(str a4), (str a2.2.1), (Vb a2.2.2)] 46 (fun b => (Vs (some ⟨b, 0, none⟩) 1 1)) rfl rfl krf fun c6 j0 d5 => gi a1 fun h0 a1 => adz d5 2 a8 a6 (some ⟨c6, 0, none⟩) a7 1 46 3 40 a5 ([(a4, a2.2.1, a2.2.2)] : List (Str × Str × Bool)) aab rfl Tryz.underlying22 (by unfold TI; kernel_rfl) (by decide) (by decide) krf (Eq.trans (b := (Vs (some ⟨c6, 0, none⟩) 1 1)) krf (aaj (by first | rfl | (simp; done) | omega | (simp; omega) | (rw [zah]; omega)))) (d5.rdblk 0 rfl) h0 fun d6 d7 d8 h1 c7 => ?_)))))
  replace c7 : Hp w [] [blk c6 [(str a4), (str a2.2.1), (Vb a2.2.2)] 46, blk a9 [(str a4), (str a2.2.1), (Vb a2.2.2)] 46, rwt aaa 46 3 d6 d7 d8 (a5 ++ ([(a4, a2.2.1, a2.2.2)] : List (Str × Str × Bool)))] h1 := c7
  refine wp 1 (wl (bn (ql ?_)))
  exact ⟨(b6, a5 ++ ([(a4, a2.2.1, a2.2.2)] : List (Str × Str × Bool)), a2.1, d6, d7, d8), _, rfl, by kernel_rfl, ⟨(Hp.front c7 2 _ rfl).kp, a1⟩, zac _⟩
  refine ace (acd (acq (acf (ql ?_))))
  obtain rfl := oi a1
  exact ⟨(a5, a8, a6, a7), _, rfl, by kernel_rfl, b9.kp, rfl⟩
  rintro ⟨b3, b8, b4, b5⟩ j1 G ⟨h2, rfl⟩
  refine sr (wp 4 (nq (ct ?_)))
  obtain rfl := oi hr
  refine apg (Vs b4 b3.length b5) (Vi .i64 (0 : Int)) (bt (0 : UInt8)) rfl krf krf krf ?_
  exact ⟨b8, b4, b5, (by first | rfl | (simp; done) | (simp; omega)), h2.kp⟩
theorem K_L_ref03_Item {fu : Nat} {a6 : Str} {w : World} {r : ((Str × (List (Str × Str × Bool))) × UInt8)} (hr : ann fu a6 = some r) (hG : Gl w) : CR Tryz.prog 21 [(str a6)] w fun v w' => ∃ (o0 : Option Nat), ∃ (a0 : Option Addr), ∃ (cap0 : Nat), v = (zal #[(zam #[(str r.1.1), (Vs a0 r.1.2.length cap0)]), (bt r.2)]) ∧ Hp w [] [rwt aaa 46 3 o0 a0 cap0 r.1.2] w' := by
  have hH : Hp w [] [] w := Hp.refl w
  refine enter (k := 33) Tryz.func21 rfl rfl nbe ?_
  unfold ann at hr
  refine sr (adx hH [(str ([] : Str)), (Vs none 0 0)] 34 (fun b => (Vp (some ⟨b, 0, none⟩))) rfl rfl krf fun b1 w2 a7 => wp 1 (nq (sr (wp 1 (bi hr fun y4 b5 hr => ?_)))))
  refine wc ent60 a7 (K_L_ref01_Trim b5 (hG.hp0 a7)) fun w6 a8 => wp 1 (nq (sr (wp 1 (bi hr fun y9 b6 hr => wc ent76 a8 (apr b6 (hG.hp0 a8)) fun c3 a5 => wp 1 ?_))))
  refine nq (cs (sr (wp 2 (nq (cd hr (fun b7 hr => ?_) (fun b7 hr => ?_))))))
  refine sr (wp 1 (ahl a5 0 b1 0 [(str ([] : Str)), (Vs none 0 0)] [(str ([] : Str)), (Vs none 0 0)] 34 [blk b1 [(str ([] : Str)), (Vs none 0 0)] 34] rfl nbe krf krf rfl krf rfl fun c4 a9 => wp 1 (nq (ct (st ?_)))))
  obtain rfl := oi hr
  refine aor _ [(zam #[(str ([] : Str)), (Vs none 0 0)]), (bt (5 : UInt8))] (zal #[(zam #[(str ([] : Str)), (Vs none 0 0)]), (bt (5 : UInt8))]) rfl rfl (abh (ahv a9 0 b1 34 [(str ([] : Str)), (Vs none 0 0)] rfl krf krf krf) (abh (afe krf) agu)) rfl ?_
  exact ⟨none, none, 0, (by first | rfl | (simp; done) | (simp; omega)), (Hp.nilrw a9 aaa 46 3 none).kp⟩
  refine ck (qn (sr (wp 2 (gi hr fun b8 hr => agl y4 .i64 y9 Tryz.underlying9 krf krf b8 (bi hr fun a1 b9 hr => aat 67 #[] [(str (zar (zad y9) y4))] _ ent67 krf krf (K_L_ref02_Params b9 (hG.hp0 a5)) ?_)))))
  rintro _ c0 ⟨a4, a2, a3, rfl, b0⟩
  have b2 : Hp w [] [rwt aaa 46 3 a4 a2 a3 a1.1, blk b1 [(str ([] : Str)), (Vs none 0 0)] 34] c0 := Hp.callK (L1 := []) (L2 := [blk b1 [(str ([] : Str)), (Vs none 0 0)] 34]) a5 b0; clear b0
  refine wp 7 (nq (cs (sr (wp 1 (afs a1.2.2 (0 : UInt8) krf krf (nq (cn hr (fun c1 hr => ?_) (fun c1 hr => ?_))))))))
  refine sr (wp 2 (ahl b2 1 b1 0 [(str ([] : Str)), (Vs none 0 0)] [(str ([] : Str)), (Vs none 0 0)] 34 [rwt aaa 46 3 a4 a2 a3 a1.1, blk b1 [(str ([] : Str)), (Vs none 0 0)] 34] rfl nbe krf krf rfl krf rfl fun c5 b3 => wp 1 (nq (ct (st ?_)))))
  obtain rfl := oi hr
  refine aor _ [(zam #[(str ([] : Str)), (Vs none 0 0)]), (bt a1.2.2)] (zal #[(zam #[(str ([] : Str)), (Vs none 0 0)]), (bt a1.2.2)]) rfl rfl (abh (ahv b3 1 b1 34 [(str ([] : Str)), (Vs none 0 0)] rfl krf krf krf) (abh (afe krf) agu)) rfl ?_
  exact ⟨none, none, 0, (by first | rfl | (simp; done) | (simp; omega)), (Hp.nilrw b3 aaa 46 3 none).kp⟩
  refine ck (qn (sr (wp 2 (gi hr fun c2 hr => akv y4 .i64 y9 Tryz.underlying9 krf krf c2 (wp 2 (ahl b2 1 b1 0 [(str ([] : Str)), (Vs none 0 0)] [(str (zaz (zad y9) y4)), (Vs a2 a1.1.length a3)] 34 [rwt aaa 46 3 a4 a2 a3 a1.1, blk b1 [(str (zaz (zad y9) y4)), (Vs a2 a1.1.length a3)] 34] rfl nbe krf krf rfl krf rfl fun c6 b4 => wp 1 ?_))))))
  refine nq (ct ?_)
  obtain rfl := oi hr
  refine aor _ [(zam #[(str (zaz (zad y9) y4)), (Vs a2 a1.1.length a3)]), (bt (0 : UInt8))] (zal #[(zam #[(str (zaz (zad y9) y4)), (Vs a2 a1.1.length a3)]), (bt (0 : UInt8))]) rfl rfl (abh (ahv b4 1 b1 34 [(str (zaz (zad y9) y4)), (Vs a2 a1.1.length a3)] rfl krf krf krf) (abh (afe krf) agu)) rfl ?_
  exact ⟨a4, a2, a3, (by first | rfl | (simp; done) | (simp; omega)), b4.kp⟩
theorem aqo {fu : Nat} {s_0 : List (Str × Str × Bool)} (a0 : Option Addr) (a2 : Nat) (a1 : Nat) {w : World} {r : List (Str × Str × Bool)} (hr : agv fu s_0 = some r) (hG : Gl w) (a3 : a2 = s_0.length) (a5 : Rd w a0 (zai aaa s_0)) (a6 : a2 ≤ a1) : CR Tryz.prog 129 [(Vs a0 a2 a1)] w fun v w' => ∃ (b0 : Nat), v = (zan (.func 186) #[] #[(Vp (some ⟨b0, 0, none⟩))]) ∧ Hp w [] [blk b0 [(Vs a0 s_0.length a1)] 22] w' := by
  subst a3
  have hH : Hp w [] [] w := Hp.refl w
  refine enter (k := 4) Tryz.func129 rfl rfl nbe ?_
  unfold agv at hr
  refine sr (adx hH [(Vs a0 s_0.length a1)] 22 (fun b => (Vp (some ⟨b, 0, none⟩))) rfl rfl krf fun b1 w2 a4 => wp 1 (nq (sr (wp 2 (wl ?_)))))
  refine qn (ct ?_)
  obtain rfl := oi hr
  refine r_one (zan (.func 186) #[] #[(Vp (some ⟨b1, 0, none⟩))]) rfl krf ?_
  exact ⟨b1, (by first | rfl | (simp; done) | (simp; omega)), a4.kp⟩
theorem aga {fu : Nat} {a3 : List (Str × Str × Bool)} {a1 : List (Str × Str × Bool)} (a4 : Nat) (a8 : Loop) (a9 : Nat) (b6 : Option Nat) (a5 : Option Addr) (a6 : Nat) (b1 : Nat) (a7 : Option Addr) (d2 : Nat) (b0 : Nat) {w : World} {r : ((List (Str × Str × Bool)) × Nat)} (hr : abg fu a3 a1 = some r) (hG : Gl w) (e0 : d2 = a1.length) (d3 : Rd w a7 (zai aaa a1)) (f4 : d2 ≤ b0) (hM : Hp w (abf [agk a4 0 a8, blk a9 [(Vs a5 a3.length a6)] 22, blk b1 [(Vs a7 a1.length b0)] 22, rwt aaa 46 3 b6 a5 a6 a3]) [agk a4 0 a8, blk a9 [(Vs a5 a3.length a6)] 22, blk b1 [(Vs a7 a1.length b0)] 22, rwt aaa 46 3 b6 a5 a6 a3] w) (hS : ∀ b ∈ abf [agk a4 0 a8, blk a9 [(Vs a5 a3.length a6)] 22, blk b1 [(Vs a7 a1.length b0)] 22, rwt aaa 46 3 b6 a5 a6 a3], 9 ≤ b) (d4 : zai aaa a1 ≠ [] → ∀ p, a7 = some p → p.block ∉ abf [agk a4 0 a8, blk a9 [(Vs a5 a3.length a6)] 22, blk b1 [(Vs a7 a1.length b0)] 22, rwt aaa 46 3 b6 a5 a6 a3]) (e1 : ∀  (c4 : (Str × Str × Bool)) (c1 : List (Str × Str × Bool)) (d5 : Option Nat) (c5 : Option Addr) (c6 : Nat) (w_ : World), Hp w (abf [agk a4 0 a8, blk a9 [(Vs a5 a3.length a6)] 22, blk b1 [(Vs a7 a1.length b0)] 22, rwt aaa 46 3 b6 a5 a6 a3]) [agk a4 0 a8, blk a9 [(Vs c5 c1.length c6)] 22, rwt aaa 46 3 d5 c5 c6 c1] w_ → ∀ (yr : (Nat × (List (Str × Str × Bool)))), acw fu c4 c1 = some yr → YR Tryz.prog a4 [(zam #[(str c4.1), (str c4.2.1), (Vb c4.2.2)])] w_ fun v e2 => ∃ (e3 : Option Nat), ∃ (d6 : Option Addr), ∃ (rcap0 : Nat), v = Vb (decide (yr.1 = 0)) ∧ Hp w_ (abf [agk a4 0 a8, blk a9 [(Vs c5 c1.length c6)] 22, rwt aaa 46 3 d5 c5 c6 c1]) [agk a4 yr.1 a8, blk a9 [(Vs d6 yr.2.length rcap0)] 22, rwt aaa 46 3 e3 d6 rcap0 yr.2] e2) : CR Tryz.prog 186 [(zan (.yield a4) #[] #[]), (Vp (some ⟨b1, 0, none⟩))] w fun v w' => ∃ (o0 : Option Nat), ∃ (a0 : Option Addr), ∃ (cap0 : Nat), v = (zal #[]) ∧ Hp w (abf [agk a4 0 a8, blk a9 [(Vs a5 a3.length a6)] 22, blk b1 [(Vs a7 a1.length b0)] 22, rwt aaa 46 3 b6 a5 a6 a3]) [blk a9 [(Vs a0 r.1.length cap0)] 22, blk b1 [(Vs a7 a1.length b0)] 22, rwt aaa 46 3 o0 a0 cap0 r.1, agk a4 r.2 a8] w' := by
  subst e0
  have hH : Hp w (abf [agk a4 0 a8, blk a9 [(Vs a5 a3.length a6)] 22, blk b1 [(Vs a7 a1.length b0)] 22, rwt aaa 46 3 b6 a5 a6 a3]) [agk a4 0 a8, blk a9 [(Vs a5 a3.length a6)] 22, blk b1 [(Vs a7 a1.length b0)] 22, rwt aaa 46 3 b6 a5 a6 a3] w := hM
  refine enterF (k := 16) Tryz.func186 rfl rfl nbe ?_
  unfold abg at hr
  refine sr (acr hH 2 b1 0 [(Vs a7 a1.length b0)] 22 (Vs a7 a1.length b0) rfl rfl krf krf (wp 2 (nq (ce (lpG (σ := Nat × Int × (List (Str × Str × Bool)) × (Option Nat) × (Option Addr) × Nat) [0, 5, 6, 7] (fun ⟨c0, a2, b2, b7, b3, b4⟩ => [(7, (Vi .i64 a2))]) (fun ⟨c0, a2, b2, b7, b3, b4⟩ w' => Hp w (abf [agk a4 0 a8, blk a9 [(Vs a5 a3.length a6)] 22, blk b1 [(Vs a7 a1.length b0)] 22, rwt aaa 46 3 b6 a5 a6 a3]) [agk a4 0 a8, blk a9 [(Vs b3 b2.length b4)] 22, blk b1 [(Vs a7 a1.length b0)] 22, rwt aaa 46 3 b7 b3 b4 b2] w' ∧ aag fu a1 c0 a2 b2 = some r) (fun ⟨c0, a2, b2, b7, b3, b4⟩ => c0) (fu, (0 : Int), a3, b6, a5, a6) (by exact ⟨(Hp.front (Hp.front (Hp.front (Hp.front hH 3 _ rfl) 3 _ rfl) 3 _ rfl) 3 _ rfl).kp, hr⟩) ?_)))))
  rintro ⟨_ | c0, a2, b2, b7, b3, b4⟩ f5 G ⟨c7, b5⟩
  · exact nzz b5
  rw [aag.eq_2] at b5
  refine sr (wp 1 (nq (cs (cd b5 (fun e4 b5 => ?_) (fun e4 b5 => ?_)))))
  refine ck (qn (cs (ce (sr (gi b5 fun e5 b5 => ahu a7 a1.length b0 46 3 .i64 a2 Tryz.underlying22 krf krf krf a1 rfl e5 (d3.hpN c7 d4) aab (by decide) (gi b5 fun e6 b5 => aiy a7 aaa a1 3 a2 aab (d3.hpN c7 d4) [(str ((el a1 a2).1)), (str ((el a1 a2).2.1)), (Vb ((el a1 a2).2.2))] e6 krf krf krf krf (by decide) ?_))))))
  refine adx c7 [(str ([] : Str)), (str ([] : Str)), (Vb false)] 46 (fun b => (Vp (some ⟨b, 0, none⟩))) rfl rfl krf fun b8 f6 e7 => ahl e7 0 b8 0 [(str ([] : Str)), (str ([] : Str)), (Vb false)] [(str ((el a1 a2).1)), (str ((el a1 a2).2.1)), (Vb ((el a1 a2).2.2))] 46 [blk b8 [(str ((el a1 a2).1)), (str ((el a1 a2).2.1)), (Vb ((el a1 a2).2.2))] 46, agk a4 0 a8, blk a9 [(Vs b3 b2.length b4)] 22, blk b1 [(Vs a7 a1.length b0)] 22, rwt aaa 46 3 b7 b3 b4 b2] rfl nbe krf krf rfl krf rfl fun c2 d7 => nq (sr (wp 1 (aob d7 0 b8 0 3 [(str ((el a1 a2).1)), (str ((el a1 a2).2.1)), (Vb ((el a1 a2).2.2))] [(str ((el a1 a2).1)), (str ((el a1 a2).2.1)), (Vb ((el a1 a2).2.2))] 46 rfl rfl rfl krf krf krf (bi b5 fun b9 e8 b5 => ?_))))
  have e9 : Hp w (abf [agk a4 0 a8, blk a9 [(Vs a5 a3.length a6)] 22, blk b1 [(Vs a7 a1.length b0)] 22, rwt aaa 46 3 b6 a5 a6 a3]) [rwt aaa 46 3 b7 b3 b4 b2, blk b8 [(str ((el a1 a2).1)), (str ((el a1 a2).2.1)), (Vb ((el a1 a2).2.2))] 46, agk a4 0 a8, blk a9 [(Vs b3 b2.length b4)] 22, blk b1 [(Vs a7 a1.length b0)] 22] c2 := d7.front 4 _ rfl
  have f0 : Hp w (abf [agk a4 0 a8, blk a9 [(Vs a5 a3.length a6)] 22, blk b1 [(Vs a7 a1.length b0)] 22, rwt aaa 46 3 b6 a5 a6 a3]) [blk a9 [(Vs b3 b2.length b4)] 22, rwt aaa 46 3 b7 b3 b4 b2, blk b8 [(str ((el a1 a2).1)), (str ((el a1 a2).2.1)), (Vb ((el a1 a2).2.2))] 46, agk a4 0 a8, blk b1 [(Vs a7 a1.length b0)] 22] c2 := e9.front 3 _ rfl
  have d8 : Hp w (abf [agk a4 0 a8, blk a9 [(Vs a5 a3.length a6)] 22, blk b1 [(Vs a7 a1.length b0)] 22, rwt aaa 46 3 b6 a5 a6 a3]) [agk a4 0 a8, blk a9 [(Vs b3 b2.length b4)] 22, rwt aaa 46 3 b7 b3 b4 b2, blk b8 [(str ((el a1 a2).1)), (str ((el a1 a2).2.1)), (Vb ((el a1 a2).2.2))] 46, blk b1 [(Vs a7 a1.length b0)] 22] c2 := f0.front 3 _ rfl
  have f1 : Hp w (abf [agk a4 0 a8, blk a9 [(Vs a5 a3.length a6)] 22, blk b1 [(Vs a7 a1.length b0)] 22, rwt aaa 46 3 b6 a5 a6 a3]) [agk a4 0 a8, blk a9 [(Vs b3 b2.length b4)] 22, rwt aaa 46 3 b7 b3 b4 b2] c2 := Hp.keep (L1 := [agk a4 0 a8, blk a9 [(Vs b3 b2.length b4)] 22, rwt aaa 46 3 b7 b3 b4 b2]) (L2 := [blk b8 [(str ((el a1 a2).1)), (str ((el a1 a2).2.1)), (Vb ((el a1 a2).2.2))] 46, blk b1 [(Vs a7 a1.length b0)] 22]) d8
  refine w_yield a4 [(zam #[(str ((el a1 a2).1)), (str ((el a1 a2).2.1)), (Vb ((el a1 a2).2.2))])] _ krf krf (e1 ((el a1 a2).1, (el a1 a2).2.1, ((el a1 a2).2.2)) b2 b7 b3 b4 c2 f1 b9 e8) ?_
  rintro _ f2 ⟨d0, c8, c9, rfl, d9⟩
  have d1 : Hp w (abf [agk a4 0 a8, blk a9 [(Vs a5 a3.length a6)] 22, blk b1 [(Vs a7 a1.length b0)] 22, rwt aaa 46 3 b6 a5 a6 a3]) [agk a4 b9.1 a8, blk a9 [(Vs c8 b9.2.length c9)] 22, rwt aaa 46 3 d0 c8 c9 b9.2, blk b8 [(str ((el a1 a2).1)), (str ((el a1 a2).2.1)), (Vb ((el a1 a2).2.2))] 46, blk b1 [(Vs a7 a1.length b0)] 22] f2 := Hp.callK (L1 := [agk a4 0 a8, blk a9 [(Vs b3 b2.length b4)] 22, rwt aaa 46 3 b7 b3 b4 b2]) (L2 := [blk b8 [(str ((el a1 a2).1)), (str ((el a1 a2).2.1)), (Vb ((el a1 a2).2.2))] 46, blk b1 [(Vs a7 a1.length b0)] 22]) d8 d9; clear d9
  by_cases c3 : b9.1 = 0
  replace b5 := ift c3 b5
  rw [c3] at d1
  rw [show decide (b9.1 = 0) = true from (decide_eq_true c3)]
  refine wp 1 (nq (c_false krf (ck (bn (qn (cr (gi b5 fun f3 b5 => aah a2 (1 : Int) krf krf f3 ?_)))))))
  refine wp 1 (wl (ql ?_))
  exact ⟨(c0, a2 + (1 : Int), b9.2, d0, c8, c9), _, rfl, by kernel_rfl, ⟨(Hp.front (Hp.front (Hp.front (Hp.front d1 2 _ rfl) 4 _ rfl) 3 _ rfl) 3 _ rfl).kp, b5⟩, zac _⟩
  replace b5 := ifn c3 b5
  rw [show decide (b9.1 = 0) = false from (decide_eq_false c3)]
  refine wp 1 (nq (c_true krf (ct (bt_ (st (adl (bt_ ?_)))))))
  obtain rfl := oi b5
  refine r_none  rfl  ?_
  exact ⟨d0, c8, c9, (by first | rfl | (simp; done) | (simp; omega)), (Hp.front (Hp.front (Hp.front d1 2 _ rfl) 4 _ rfl) 3 _ rfl).kp⟩
  refine ace (acd (acq (acf ?_)))
  obtain rfl := oi b5
  refine ajb  rfl  ?_
  exact ⟨b7, b3, b4, (by first | rfl | (simp; done) | (simp; omega)), (Hp.front (Hp.front (Hp.front c7 3 _ rfl) 3 _ rfl) 3 _ rfl).kp⟩
theorem ald {fu : Nat} {s_0 : List (Str × Str × Bool)} {a4 : List (Str × Str × Bool)} (a9 : Option Nat) (a2 : Option Addr) (a3 : Nat) (a5 : Nat) (a6 : Option Addr) (d2 : Nat) (a7 : Nat) {w : World} {r : List (Str × Str × Bool)} (hr : aec fu s_0 a4 = some r) (hG : Gl w) (e1 : d2 = a4.length) (d3 : Rd w a6 (zai aaa a4)) (e2 : d2 ≤ a7) (hM : Hp w (abf [blk a5 [(Vs a6 a4.length a7)] 22, rwt aaa 46 3 a9 a2 a3 s_0]) [blk a5 [(Vs a6 a4.length a7)] 22, rwt aaa 46 3 a9 a2 a3 s_0] w) (hS : ∀ b ∈ abf [blk a5 [(Vs a6 a4.length a7)] 22, rwt aaa 46 3 a9 a2 a3 s_0], 9 ≤ b) (d4 : zai aaa a4 ≠ [] → ∀ p, a6 = some p → p.block ∉ abf [blk a5 [(Vs a6 a4.length a7)] 22, rwt aaa 46 3 a9 a2 a3 s_0]) : CR Tryz.prog 218 [(Vs a2 s_0.length a3), (zan (.func 186) #[] #[(Vp (some ⟨a5, 0, none⟩))])] w fun v w' => ∃ (o0 : Option Nat), ∃ (a0 : Option Addr), ∃ (cap0 : Nat), v = (Vs a0 r.length cap0) ∧ Hp w (abf [blk a5 [(Vs a6 a4.length a7)] 22, rwt aaa 46 3 a9 a2 a3 s_0]) [blk a5 [(Vs a6 a4.length a7)] 22, rwt aaa 46 3 o0 a0 cap0 r] w' := by
  subst e1
  have hH : Hp w (abf [blk a5 [(Vs a6 a4.length a7)] 22, rwt aaa 46 3 a9 a2 a3 s_0]) [blk a5 [(Vs a6 a4.length a7)] 22, rwt aaa 46 3 a9 a2 a3 s_0] w := hM
  refine enterM (k := 13) Tryz.func218 rfl rfl nbe ?_
  unfold aec at hr
  refine sr (adx hH [(Vs a2 s_0.length a3)] 22 (fun b => (Vp (some ⟨b, 0, none⟩))) rfl rfl krf fun b1 w2 e3 => wp 1 (nq (cs (sr (wp 1 ?_)))))
  refine nq (ce (c_rangeFunc e3 186 [(Vp (some ⟨a5, 0, none⟩))] krf ent186 fun b5 l4 b0 c0 e4 e5 e6 e7 e8 => bi hr fun b4 e9 hr => ?_))
  have f0 : Hp w (abf [blk a5 [(Vs a6 a4.length a7)] 22, rwt aaa 46 3 a9 a2 a3 s_0]) [rwt aaa 46 3 a9 a2 a3 s_0, agk l4 0 b0, dfr b5, blk b1 [(Vs a2 s_0.length a3)] 22, blk a5 [(Vs a6 a4.length a7)] 22] c0 := e8.front 4 _ rfl
  have f1 : Hp w (abf [blk a5 [(Vs a6 a4.length a7)] 22, rwt aaa 46 3 a9 a2 a3 s_0]) [blk a5 [(Vs a6 a4.length a7)] 22, rwt aaa 46 3 a9 a2 a3 s_0, agk l4 0 b0, dfr b5, blk b1 [(Vs a2 s_0.length a3)] 22] c0 := f0.front 4 _ rfl
  have f2 : Hp w (abf [blk a5 [(Vs a6 a4.length a7)] 22, rwt aaa 46 3 a9 a2 a3 s_0]) [blk b1 [(Vs a2 s_0.length a3)] 22, blk a5 [(Vs a6 a4.length a7)] 22, rwt aaa 46 3 a9 a2 a3 s_0, agk l4 0 b0, dfr b5] c0 := f1.front 4 _ rfl
  have b9 : Hp w (abf [blk a5 [(Vs a6 a4.length a7)] 22, rwt aaa 46 3 a9 a2 a3 s_0]) [agk l4 0 b0, blk b1 [(Vs a2 s_0.length a3)] 22, blk a5 [(Vs a6 a4.length a7)] 22, rwt aaa 46 3 a9 a2 a3 s_0, dfr b5] c0 := f2.front 3 _ rfl
  have HY6 : ∀  (a1 : (Str × Str × Bool)) (a8 : List (Str × Str × Bool)) (b8 : Option Nat) (b2 : Option Addr) (b3 : Nat) (w_ : World), Hp c0 (abf [agk l4 0 b0, blk b1 [(Vs a2 s_0.length a3)] 22, blk a5 [(Vs a6 a4.length a7)] 22, rwt aaa 46 3 a9 a2 a3 s_0]) [agk l4 0 b0, blk b1 [(Vs b2 a8.length b3)] 22, rwt aaa 46 3 b8 b2 b3 a8] w_ → ∀ (yr : (Nat × (List (Str × Str × Bool)))), acw fu a1 a8 = some yr → YR Tryz.prog l4 [(zam #[(str a1.1), (str a1.2.1), (Vb a1.2.2)])] w_ fun v f3 => ∃ (f4 : Option Nat), ∃ (d5 : Option Addr), ∃ (rcap0 : Nat), v = Vb (decide (yr.1 = 0)) ∧ Hp w_ (abf [agk l4 0 b0, blk b1 [(Vs b2 a8.length b3)] 22, rwt aaa 46 3 b8 b2 b3 a8]) [agk l4 yr.1 b0, blk b1 [(Vs d5 yr.2.length rcap0)] 22, rwt aaa 46 3 f4 d5 rcap0 yr.2] f3 := by
    intro a1 a8 b8 b2 b3 c7 c4 yr hyr
    have hH0_ := Hp.callK (L1 := [agk l4 0 b0, blk b1 [(Vs a2 s_0.length a3)] 22, blk a5 [(Vs a6 a4.length a7)] 22, rwt aaa 46 3 a9 a2 a3 s_0]) (L2 := [dfr b5]) b9 c4
    have hG0_ := hG; replace hG := hG.hp hH0_ hS
    have hS_ := Hp.highs hH0_ hG0_ hS 3 rfl
    unfold acw at hyr
    refine yr_intro (Hp.hand (L1 := [agk l4 0 b0, blk b1 [(Vs b2 a8.length b3)] 22, rwt aaa 46 3 b8 b2 b3 a8]) (L2 := []) (by simpa using c4)) 0 rfl e4 e5 e6 e7 rfl ?_
    have hH : Hp c7 (abf [agk l4 0 b0, blk b1 [(Vs b2 a8.length b3)] 22, rwt aaa 46 3 b8 b2 b3 a8]) [agk l4 0 b0, blk b1 [(Vs b2 a8.length b3)] 22, rwt aaa 46 3 b8 b2 b3 a8] c7 := Hp.hand (L1 := [agk l4 0 b0, blk b1 [(Vs b2 a8.length b3)] 22, rwt aaa 46 3 b8 b2 b3 a8]) (L2 := []) (by simpa using c4)
    clear hH0_ c4
    refine cr (adx hH [(str ([] : Str)), (str ([] : Str)), (Vb false)] 46 (fun b => (Vp (some ⟨b, 0, none⟩))) rfl rfl krf fun c1 g4 f5 => ahl f5 0 c1 0 [(str ([] : Str)), (str ([] : Str)), (Vb false)] [(str a1.1), (str a1.2.1), (Vb a1.2.2)] 46 [blk c1 [(str a1.1), (str a1.2.1), (Vb a1.2.2)] 46, agk l4 0 b0, blk b1 [(Vs b2 a8.length b3)] 22, rwt aaa 46 3 b8 b2 b3 a8] rfl nbe krf krf rfl krf rfl fun g5 f6 => wl (asg_next f6 1 rfl fun g6 c8 => ce (cr (acr c8 2 b1 0 [(Vs b2 a8.length b3)] 22 (Vs b2 a8.length b3) rfl rfl krf krf (aob c8 0 c1 0 3 [(str a1.1), (str a1.2.1), (Vb a1.2.2)] [(str a1.1), (str a1.2.1), (Vb a1.2.2)] 46 rfl rfl rfl krf krf krf (adx c8 [(str a1.1), (str a1.2.1), (Vb a1.2.2)] 46 (fun b => (Vs (some ⟨b, 0, none⟩) 1 1)) rfl rfl krf fun c5 g7 d6 => ?_))))))
    refine gi hyr fun f7 hyr => adz d6 4 b8 b2 (some ⟨c5, 0, none⟩) b3 1 46 3 40 a8 ([a1] : List (Str × Str × Bool)) aab rfl Tryz.underlying22 (by unfold TI; kernel_rfl) (by decide) (by decide) krf (Eq.trans (b := (Vs (some ⟨c5, 0, none⟩) 1 1)) krf (aaj (by first | rfl | (simp; done) | omega | (simp; omega) | (rw [zah]; omega)))) (d6.rdblk 0 rfl) f7 fun c9 c2 c3 f8 d0 => ?_
    replace d0 : Hp c7 (abf [agk l4 0 b0, blk b1 [(Vs b2 a8.length b3)] 22, rwt aaa 46 3 b8 b2 b3 a8]) [blk c5 [(str a1.1), (str a1.2.1), (Vb a1.2.2)] 46, blk c1 [(str a1.1), (str a1.2.1), (Vb a1.2.2)] 46, lbusy l4 b0, blk b1 [(Vs b2 a8.length b3)] 22, rwt aaa 46 3 c9 c2 c3 (a8 ++ ([a1] : List (Str × Str × Bool)))] f8 := d0
    refine aht d0 3 b1 0 [(Vs b2 a8.length b3)] 22 (Vs c2 ((a8 ++ ([a1] : List (Str × Str × Bool))).length) c3) [blk c5 [(str a1.1), (str a1.2.1), (Vb a1.2.2)] 46, blk c1 [(str a1.1), (str a1.2.1), (Vb a1.2.2)] 46, lbusy l4 b0, blk b1 [(Vs c2 ((a8 ++ ([a1] : List (Str × Str × Bool))).length) c3)] 22, rwt aaa 46 3 c9 c2 c3 (a8 ++ ([a1] : List (Str × Str × Bool)))] rfl (zaj (zac _) nbe) krf krf rfl krf rfl fun g8 f9 => wl (bn ?_)
    obtain rfl := oi hyr
    refine rnd_normal f9 2 rfl fun g9 g0 => ?_
    exact ⟨c9, c2, c3, (by first | rfl | (simp; done) | (simp; omega)), (Hp.front (Hp.front (Hp.front g0 4 _ rfl) 4 _ rfl) 4 _ rfl).kp⟩
  refine CR.mono (aga l4 b0 b1 a9 a2 a3 a5 a6 a4.length a7 e9 (hG.hp b9 hS) rfl (d3.hpN b9 d4) e2 (b9.hand (L1 := [agk l4 0 b0, blk b1 [(Vs a2 s_0.length a3)] 22, blk a5 [(Vs a6 a4.length a7)] 22, rwt aaa 46 3 a9 a2 a3 s_0]) (L2 := [dfr b5])) (b9.highs hG hS 4 rfl) (b9.apartRd 4 d3 d4 rfl) HY6) ?_
  rintro _ d7 ⟨c6, b6, b7, rfl, d8⟩
  have g1 : Hp w (abf [blk a5 [(Vs a6 a4.length a7)] 22, rwt aaa 46 3 a9 a2 a3 s_0]) [blk b1 [(Vs b6 b4.1.length b7)] 22, blk a5 [(Vs a6 a4.length a7)] 22, rwt aaa 46 3 c6 b6 b7 b4.1, agk l4 b4.2 b0, dfr b5] d7 := Hp.callK (L1 := [agk l4 0 b0, blk b1 [(Vs a2 s_0.length a3)] 22, blk a5 [(Vs a6 a4.length a7)] 22, rwt aaa 46 3 a9 a2 a3 s_0]) (L2 := [dfr b5]) b9 d8; clear d8
  have g2 : Hp w (abf [blk a5 [(Vs a6 a4.length a7)] 22, rwt aaa 46 3 a9 a2 a3 s_0]) [agk l4 b4.2 b0, blk b1 [(Vs b6 b4.1.length b7)] 22, blk a5 [(Vs a6 a4.length a7)] 22, rwt aaa 46 3 c6 b6 b7 b4.1, dfr b5] d7 := g1.front 3 _ rfl
  refine ⟨b4.2, [blk b1 [(Vs b6 b4.1.length b7)] 22, blk a5 [(Vs a6 a4.length a7)] 22, rwt aaa 46 3 c6 b6 b7 b4.1, dfr b5], g2, ?_⟩
  intro h0 d9
  by_cases d1 : b4.2 = 0
  replace hr := ift d1 hr
  refine rg0 d1 (bn (qn (sr (acr d9 0 b1 0 [(Vs b6 b4.1.length b7)] 22 (Vs b6 b4.1.length b7) rfl rfl krf krf (wp 1 (nq (ct ?_)))))))
  obtain rfl := oi hr
  refine m_fin1 d9 3 b5 rfl _ [(Vs b6 b4.1.length b7)] (Vs b6 b4.1.length b7) rfl rfl (fun g3 e0 => (abh (afe krf) agu)) rfl fun g3 e0 => ?_
  exact ⟨c6, b6, b7, (by first | rfl | (simp; done) | (simp; omega)), (Hp.front (Hp.front e0 2 _ rfl) 2 _ rfl).kp⟩
  replace hr := ifn d1 hr
  exact nzz hr
theorem alq {fu : Nat} {a1 : List (Str × Str × Bool)} (a2 : Nat) (a3 : Option Addr) (a9 : Nat) (a4 : Nat) {w : World} {r : List (Str × Str × Bool)} (hr : adj fu a1 = some r) (hG : Gl w) (b3 : a9 = a1.length) (b0 : Rd w a3 (zai aaa a1)) (b4 : a9 ≤ a4) (hM : Hp w (abf [blk a2 [(Vs a3 a1.length a4)] 22]) [blk a2 [(Vs a3 a1.length a4)] 22] w) (hS : ∀ b ∈ abf [blk a2 [(Vs a3 a1.length a4)] 22], 9 ≤ b) (b1 : zai aaa a1 ≠ [] → ∀ p, a3 = some p → p.block ∉ abf [blk a2 [(Vs a3 a1.length a4)] 22]) : CR Tryz.prog 185 [(zan (.func 186) #[] #[(Vp (some ⟨a2, 0, none⟩))])] w fun v w' => ∃ (o0 : Option Nat), ∃ (a0 : Option Addr), ∃ (cap0 : Nat), v = (Vs a0 r.length cap0) ∧ Hp w (abf [blk a2 [(Vs a3 a1.length a4)] 22]) [blk a2 [(Vs a3 a1.length a4)] 22, rwt aaa 46 3 o0 a0 cap0 r] w' := by
  subst b3
  have hH : Hp w (abf [blk a2 [(Vs a3 a1.length a4)] 22]) [blk a2 [(Vs a3 a1.length a4)] 22] w := hM
  refine enter (k := 5) Tryz.func185 rfl rfl nbe ?_
  unfold adj at hr
  refine sr (wp 1 (nq (sr (wp 1 ?_))))
  have a6 := hH.nilrw aaa 46 3 none
  replace a6 : Hp w (abf [blk a2 [(Vs a3 a1.length a4)] 22]) [rwt aaa 46 3 none none 0 ([] : List (Str × Str × Bool)), blk a2 [(Vs a3 a1.length a4)] 22] w := a6
  refine bi hr fun y1 b5 hr => ?_
  have a5 : Hp w (abf [blk a2 [(Vs a3 a1.length a4)] 22]) [blk a2 [(Vs a3 a1.length a4)] 22, rwt aaa 46 3 none none 0 ([] : List (Str × Str × Bool))] w := a6.front 1 _ rfl
  refine aat 218 #[] [(Vs none 0 0), (zan (.func 186) #[] #[(Vp (some ⟨a2, 0, none⟩))])] _ ent218 krf krf (ald (s_0 := ([] : List (Str × Str × Bool))) none none 0 a2 a3 a1.length a4 b5 (hG.hp a5 hS) rfl (b0.hpN a5 b1) b4 (a5.hand (L1 := [blk a2 [(Vs a3 a1.length a4)] 22, rwt aaa 46 3 none none 0 ([] : List (Str × Str × Bool))]) (L2 := [])) (a5.highs hG hS 2 rfl) (a5.apartRd 2 b0 b1 rfl)) ?_
  rintro _ w3 ⟨o9, a7, a8, rfl, b2⟩
  have b6 : Hp w (abf [blk a2 [(Vs a3 a1.length a4)] 22]) [blk a2 [(Vs a3 a1.length a4)] 22, rwt aaa 46 3 o9 a7 a8 y1] w3 := Hp.callK (L1 := [blk a2 [(Vs a3 a1.length a4)] 22, rwt aaa 46 3 none none 0 ([] : List (Str × Str × Bool))]) (L2 := []) a5 b2; clear b2
  refine wp 1 (nq (ct ?_))
  obtain rfl := oi hr
  refine r_one (Vs a7 y1.length a8) rfl krf ?_
  exact ⟨o9, a7, a8, (by first | rfl | (simp; done) | (simp; omega)), (Hp.front (Hp.front b6 1 _ rfl) 1 _ rfl).kp⟩
theorem ajw {fu : Nat} {a0 : (Str × Str × Bool)} {a1 : (Str × Str × Bool)} {w : World} {r : Int} (hr : afw fu a0 a1 = some r) (hG : Gl w) : CR Tryz.prog 130 [(zam #[(str a0.1), (str a0.2.1), (Vb a0.2.2)]), (zam #[(str a1.1), (str a1.2.1), (Vb a1.2.2)])] w fun v w' => v = (Vi .i64 r) ∧ Hp w [] [] w' := by
  have hH : Hp w [] [] w := Hp.refl w
  refine enter (k := 10) Tryz.func130 rfl rfl nbe ?_
  unfold afw at hr
  refine sr (adx hH [(str a0.1), (str a0.2.1), (Vb a0.2.2)] 46 (fun b => (Vp (some ⟨b, 0, none⟩))) rfl rfl krf fun b1 w2 a3 => adx a3 [(str a1.1), (str a1.2.1), (Vb a1.2.2)] 46 (fun b => (Vp (some ⟨b, 0, none⟩))) rfl rfl krf fun b4 w5 a2 => wp 1 (nq (sr (wp 1 ?_))))
  refine acr a2 1 b1 0 [(str a0.1), (str a0.2.1), (Vb a0.2.2)] 46 (str a0.1) rfl rfl krf krf (wp 1 (acr a2 0 b4 0 [(str a1.1), (str a1.2.1), (Vb a1.2.2)] 46 (str a1.1) rfl rfl krf krf (bi hr fun y7 a4 hr => wc ent131 a2 (amv a4 (hG.hp0 a2)) fun w9 a5 => wp 1 (nq (ct ?_)))))
  obtain rfl := oi hr
  exact rv a5.kp
end Go.Proofs
