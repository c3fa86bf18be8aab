/-
  The law HeaderVias holds, second form: for every value and every Via of at most 1048576 values and letters the call returns true; no condition beyond the statement's own (part 8 of 8).
-/
import Derived.Test.YtpbfkeakaefenaaGreatDoorHq7
import Derived.Test.YtpbfkeakaefenaaGreatDoorRows
import Derived.ProofKit
import Derived.OpenShut
import Derived.Deep.DeepHandedRow
import Derived.Lib.LaidTab
import Derived.Shelf.Vars
import Derived.ChangeSame
import Derived.WalkKit
import Derived.SevenTiedAt
import Derived.Deep.Slices
import Derived.ReadAgain
import Derived.Test.YtpbfkeakaefenaaGreatDoorCards
import Derived.Test.YtpbfkeakaefenaaGreatDoorTie
import Derived.ChangeMaps5
set_option linter.unusedVariables false
set_option linter.unusedSimpArgs false
set_option maxRecDepth 20000
namespace Go.Proofs
open Go.Wk Go.Px Go.RowKit
theorem lenOf {s : ByteArray} (h : s.size ≤ maxLen) : s.data.toList.length ≤ 9223372036854775807 := Nat.le_trans (by rw [Array.length_toList]; exact h) (show maxLen ≤ 9223372036854775807 by decide)
theorem laidAt {P : Program} {w : World} : ∀ {l : List (String × DataW Unit)} {ps : List MemPlace}, DataW.LaidVars P w l ps → ∀ (i : Nat) {n : String} {d : DataW Unit}, l[i]? = some (n, d) →
    ∃ g t cs fuel p, P.globalNamed n = some g ∧ (P.globals[g]?).map (·.type) = some t ∧ w.var? P n = some cs ∧ DataW.trod (fun _ => ()) P w 0 (fun _ => true) false fuel t cs.toList = some (d, p)
  | [], _, _, i, n, d, hi => by simp at hi
  | (n', d') :: l, ps, h, 0, n, d, hi => by
    obtain ⟨g, t, cs, fuel, p, q, h1, h2, h3, h4, _, _⟩ := h
    simp only [List.getElem?_cons_zero, Option.some.injEq, Prod.mk.injEq] at hi
    obtain ⟨rfl, rfl⟩ := hi
    exact ⟨g, t, cs, fuel, p, h1, h2, h3, h4⟩
  | (n', d') :: l, ps, h, i + 1, n, d, hi => by
    obtain ⟨g, t, cs, fuel, p, q, _, _, _, _, h5, _⟩ := h
    exact laidAt h5 i (by simpa using hi)
theorem vrOf {P : Program} {w : World} {n : String} {g : Nat} {cs : Array Value} (hg : P.globalNamed n = some g) (h : w.var? P n = some cs) : Vr w g cs.toList := by
  simp only [World.var?, hg, Option.bind_some] at h
  split at h
  · rename_i cs' t f e
    cases h
    exact ⟨t, f, by rw [e]⟩
  · cases h
theorem chunks {α : Type} {f : α → List Value} {sz : Nat} : ∀ (zs : List α) (cs : List Value), cs.length = zs.length * sz → (∀ (i : Nat) (z : α), zs[i]? = some z → (cs.drop (i * sz)).take sz = f z) → cs = zs.flatMap f
  | [], cs, hl, _ => by simpa using hl
  | z :: zs, cs, hl, h => by
    have h0 := h 0 z rfl
    simp only [Nat.zero_mul, List.drop_zero] at h0
    have h1 := chunks (f := f) (sz := sz) zs (cs.drop sz) (by rw [List.length_drop, hl, List.length_cons, Nat.succ_mul]; omega) (fun i z' hi => by
      have := h (i + 1) z' (by simpa using hi)
      rw [List.drop_drop, Nat.add_comm, ← Nat.succ_mul]
      exact this)
    rw [List.flatMap_cons, ← h0, ← h1, List.take_append_drop]
theorem arrCells {P : Program} {w : World} {fuel n sz : Nat} {t e : TypeId} {cs : List Value} {p : List MemPlace} {α : Type} {dz : α → DataW Unit} {f : α → List Value} (zs : List α)
    (ht : P.underlying t = some (.array n e)) (hce : P.cellsOf e = sz) (hct : P.cellsOf t = n * sz) (hz : zs.length = n)
    (hel : ∀ fuel cs' z p, DataW.trod (fun _ => ()) P w 0 (fun _ => true) false fuel e cs' = some (dz z, p) → cs' = f z)
    (h : DataW.trod (fun _ => ()) P w 0 (fun _ => true) false fuel t cs = some (.agg (zs.map dz), p)) : cs = zs.flatMap f := by
  cases fuel with
  | zero => simp [DataW.trod] at h
  | succ fuel =>
    simp only [DataW.trod, ht, hce, hct] at h
    split at h
    · rename_i hl
      obtain ⟨xs, hm, hx⟩ := Option.map_eq_some_iff.1 h
      have hxs : xs.map (·.1) = zs.map dz := by
        have := congrArg Prod.fst hx
        simpa using this
      refine chunks zs cs (by rw [hl, hz]) fun i z hi => ?_
      have hi' : i < n := by rw [← hz]; exact (List.getElem?_eq_some_iff.1 hi).1
      obtain ⟨b, hb, hf⟩ := Lib.mapM_at hm i i (by simp [hi'])
      have hb1 : b.1 = dz z := by
        have e1 : (xs.map (·.1))[i]? = some b.1 := by simp [hb]
        rw [hxs] at e1
        simp only [List.getElem?_map, hi, Option.map_some, Option.some.injEq] at e1
        exact e1.symm
      exact hel fuel _ z b.2 (by rw [hf, ← hb1])
    · cases h
theorem strCell {P : Program} {w : World} {fuel : Nat} {e : TypeId} {cs : List Value} {p : List MemPlace} (he : P.underlying e = some .string) (z : List UInt8)
    (h : DataW.trod (fun _ => ()) P w 0 (fun _ => true) false fuel e cs = some (.lit (.string z), p)) : cs = eS z := by
  obtain ⟨s, rfl, hx, _⟩ := DataW.trod_string he h
  simp only [Prod.mk.injEq, DataW.lit.injEq, Lit.string.injEq] at hx
  obtain ⟨rfl, _⟩ := hx
  rfl
theorem intCell {P : Program} {w : World} {fuel : Nat} {e : TypeId} {k : IntKind} {cs : List Value} {p : List MemPlace} (he : P.underlying e = some (.int k)) (z : Int)
    (h : DataW.trod (fun _ => ()) P w 0 (fun _ => true) false fuel e cs = some (.lit (.int k z), p)) : cs = [.int k z] := by
  obtain ⟨n, rfl, hx, _⟩ := DataW.trod_int he h
  simp only [Prod.mk.injEq, DataW.lit.injEq, Lit.int.injEq] at hx
  obtain ⟨⟨_, rfl⟩, _⟩ := hx
  rfl
theorem pairCell {P : Program} {w : World} {fuel : Nat} {e a b : TypeId} {f0 f1 : Field} {k : IntKind} {cs : List Value} {p : List MemPlace} (he : P.underlying e = some (.struct #[f0, f1])) (ha : P.underlying a = some .string) (hb : P.underlying b = some (.int k))
    (h0 : (f0.type, f0.offset, f1.type, f1.offset) = (a, 0, b, 1)) (hca : P.cellsOf a = 1) (hcb : P.cellsOf b = 1) (hc : P.cellsOf e = 2) (z : List UInt8 × Int)
    (h : DataW.trod (fun _ => ()) P w 0 (fun _ => true) false fuel e cs = some (.agg [.lit (.string z.1), .lit (.int k z.2)], p)) : cs = [str z.1, .int k z.2] := by
  obtain ⟨z1, z2⟩ := z
  simp only [Prod.mk.injEq] at h0
  obtain ⟨t0, o0, t1, o1⟩ := h0
  cases fuel with
  | zero => simp [DataW.trod] at h
  | succ fuel =>
    simp only [DataW.trod, he, hc] at h
    split at h
    · rename_i hl
      obtain ⟨xs, hm, hx⟩ := Option.map_eq_some_iff.1 h
      simp only [List.mapM_cons, List.mapM_nil, Option.bind_eq_bind, Option.bind_eq_some_iff, Option.pure_def, Option.some.injEq, t0, t1, o0, o1, hca, hcb, List.drop_zero] at hm
      obtain ⟨x0, hx0, r0, ⟨x1, hx1, r1, rfl, rfl⟩, rfl⟩ := hm
      simp only [List.map_cons, List.map_nil, Prod.mk.injEq, DataW.agg.injEq, List.cons.injEq, and_true] at hx
      obtain ⟨⟨e0, e1⟩, _⟩ := hx
      have g0 := strCell ha z1 (p := x0.2) (by rw [hx0, ← e0])
      have g1 := intCell hb z2 (p := x1.2) (by rw [hx1, ← e1])
      match cs, hl, g0, g1 with
      | [u, v], _, g0, g1 =>
        simp only [List.take_succ_cons, List.take_zero, List.drop_succ_cons, List.drop_zero, eS, List.cons.injEq, and_true] at g0 g1
        rw [g0, g1]
    · cases h
theorem intVar {P : Program} {w : World} {g : Nat} {t : TypeId} {zero : Array Value} {k : IntKind} (h : w.ShapedOpen P) (hg : g < P.globals.size)
    (h0 : ((begin P (fun _ _ => 0) default).world.heap[g]?).bind Obj.row? = some (zero, t)) (hz : zero.size = 1)
    (hb : P.buildable t = true) (hc : P.cellTypes P.depth t = some [t]) (hu : P.underlying t = some (.int k)) : ∃ m, Vr w g [.int k m] := by
  obtain ⟨m, hm⟩ := cell_of_shapedOpen_int h hg h0 hz hb hc hu
  obtain ⟨cs, hh, hs, _⟩ := h.1 g zero t hg h0
  refine ⟨m, t, (0, 0), ?_⟩
  rw [hh]
  have h1 : cs.size = 1 := by omega
  have h2 : cs[0]? = some (.int k m) := by
    have : w.cell? ⟨g, 0, none⟩ = cs[0]? := by simp [World.cell?, hh]
    rw [← this]; exact hm
  have e : cs = [Value.int k m].toArray := by
    apply Array.ext
    · simp [h1]
    · intro i hi hi'
      have : i = 0 := by omega
      subst this
      simpa [hi] using h2
  rw [e]
theorem heapSize {P : Program} {w : World} {g : Nat} (h : w.ShapedOpen P) (hg : g < P.globals.size) (h0 : (((begin P (fun _ _ => 0) default).world.heap[g]?).bind Obj.row?).isSome = true) : g + 1 ≤ w.heap.size := by
  obtain ⟨⟨zero, t⟩, h1⟩ := Option.isSome_iff_exists.1 h0
  obtain ⟨cs, hh, _⟩ := h.1 g zero t hg h1
  exact (Array.getElem?_eq_some_iff.1 hh).1
theorem laidOf {P : Program} {l : List (String × DataW Unit)} {w : World} (h : laidMetH P l w) (hn : (l.filter fun x => x.2.handleName?.isSome) = []) : ∃ ps, DataW.LaidVars P w l ps := by
  unfold laidMetH at h
  rw [hn] at h
  obtain ⟨ps, h1, _⟩ := h
  exact ⟨ps, h1⟩
theorem postOf {H : Type} {enc : TypeId × Value → H} {P : Program} {f : Func} {s : ChangeSpec} {apart fresh handsOn : Bool} {W W' : World} {args : Array Value} {v : Value} {ds gs : List (DataW H)} {before pa pv : List MemPlace}
    (hW : DataW.Whole enc P f.params.toList s.vars apart W args.toList ds gs before)
    (hres : ∀ (b : Nat) (sp : Nat → Bool) (hd : Bool), DataW.TrodAll enc P W' b sp hd f.resultTypes.toList (v.resultList f.resultTypes.size) (s.fn H (ds ++ gs)).results [])
    (hargs : ∀ sp : Nat → Bool, (∀ p ∈ before, sp p.block = true) → DataW.TrodAll enc P W' 0 sp true f.params.toList args.toList (s.fn H (ds ++ gs)).args pa)
    (hvars : ∀ sp : Nat → Bool, (∀ p ∈ before, sp p.block = true) → DataW.TrodVars enc P W' sp s.vars (s.fn H (ds ++ gs)).vars pv)
    (hk : W.keptBut W' (fun p => p ∈ before ∧ (p ∈ ([] : List MemPlace) ∨ p ∈ pa ∨ p ∈ pv))) : s.post enc P f apart fresh handsOn false W args v W' := by
  have hold : ∀ p ∈ before, (fun b => decide (b < W.heap.size)) p.block = true := fun p hp => by simpa using hW.lt p hp
  exact ⟨ds, gs, before, [], pa, pv, hW, hres _ _ _, hargs _ hold, hvars _ hold, hk, fun h => by cases h⟩
end Go.Proofs
set_option maxRecDepth 100000
namespace Go.Proofs
open Go.Wk Go.Px Go.RowKit
theorem glOf {W : World} (hL : laidMetH Tryz.prog YtpbfkeakaefenaaGreatDoor.Rows.headerViasRow.laid W) (hsh : W.ShapedOpen Tryz.prog) (hs : 9 ≤ W.heap.size) : Gl W := by
  obtain ⟨ps, h⟩ := laidOf hL krf
  have v0 : Vr W 0 (List.flatMap eS akg) := by
    obtain ⟨g, t, cs, fuel, p, h1, h2, h3, h4⟩ := laidAt h 5 rfl
    obtain rfl := Option.some.inj ((show Tryz.prog.globalNamed "dialtone/header.specials" = some 0 by kernel_rfl).symm.trans h1)
    obtain rfl := Option.some.inj ((show (Tryz.prog.globals[0]?).map (·.type) = some 83 by kernel_rfl).symm.trans h2)
    have e := arrCells (dz := fun s => .lit (.string s)) (f := eS) akg Tryz.underlying83 (show Tryz.prog.cellsOf 9 = 1 by kernel_rfl) krf rfl (fun _ _ z _ h => strCell Tryz.underlying9 z h) h4
    have := vrOf h1 h3
    rw [e] at this
    exact this
  have v1 : Vr W 1 (List.flatMap aps anc) := by
    obtain ⟨g, t, cs, fuel, p, h1, h2, h3, h4⟩ := laidAt h 6 rfl
    obtain rfl := Option.some.inj ((show Tryz.prog.globalNamed "dialtone/header.kinds" = some 1 by kernel_rfl).symm.trans h1)
    obtain rfl := Option.some.inj ((show (Tryz.prog.globals[1]?).map (·.type) = some 171 by kernel_rfl).symm.trans h2)
    have e := arrCells (dz := fun z => .agg [.lit (.string z.1), .lit (.int .i64 z.2)]) (f := aps) anc Tryz.underlying171 (show Tryz.prog.cellsOf 170 = 2 by kernel_rfl) krf rfl (fun _ _ z _ h => pairCell Tryz.underlying170 Tryz.underlying9 Tryz.underlying123 rfl krf krf krf z h) h4
    have := vrOf h1 h3
    rw [e] at this
    exact this
  have v3 : Vr W 3 (List.flatMap eS gl_classes) := by
    obtain ⟨g, t, cs, fuel, p, h1, h2, h3, h4⟩ := laidAt h 4 rfl
    obtain rfl := Option.some.inj ((show Tryz.prog.globalNamed "dialtone/address.classes" = some 3 by kernel_rfl).symm.trans h1)
    obtain rfl := Option.some.inj ((show (Tryz.prog.globals[3]?).map (·.type) = some 209 by kernel_rfl).symm.trans h2)
    have e := arrCells (dz := fun s => .lit (.string s)) (f := eS) gl_classes Tryz.underlying209 (show Tryz.prog.cellsOf 9 = 1 by kernel_rfl) krf rfl (fun _ _ z _ h => strCell Tryz.underlying9 z h) h4
    have := vrOf h1 h3
    rw [e] at this
    exact this
  have v4 : Vr W 4 (Lib.pow10Tab.map fun z => Value.int .u64 z) := by
    obtain ⟨g, t, cs, fuel, p, h1, h2, h3, h4⟩ := laidAt h 2 rfl
    obtain rfl := Option.some.inj ((show Tryz.prog.globalNamed "internal/strconv.uint64pow10" = some 4 by kernel_rfl).symm.trans h1)
    obtain rfl := Option.some.inj ((show (Tryz.prog.globals[4]?).map (·.type) = some 216 by kernel_rfl).symm.trans h2)
    have e := Lib.cells_of_tab (zs := Lib.pow10Tab) (k := .u64) Tryz.underlying216 Tryz.underlying195 krf krf h4
    have := vrOf h1 h3
    rw [e] at this
    exact this
  have v2 : ∃ m, Vr W 2 [.int .i64 m] := intVar (zero := #[.int .i64 0]) (t := 3) hsh (of_decide_eq_true krf) krf rfl krf krf Tryz.underlying3
  exact { gs := hs, specials := v0, kinds := v1, classes := v3, pow10 := v4, maxlen := v2 }
def laidCells (g : Nat) (o : Obj) : Obj :=
  match o with
  | .cells c t fz => .cells (match g with
    | 7 => #[.int .u8 0, .int .u8 1, .int .u8 28, .int .u8 2, .int .u8 29, .int .u8 14, .int .u8 24, .int .u8 3, .int .u8 30, .int .u8 22, .int .u8 20, .int .u8 15, .int .u8 25, .int .u8 17, .int .u8 4, .int .u8 8, .int .u8 31, .int .u8 27, .int .u8 13, .int .u8 23, .int .u8 21, .int .u8 19, .int .u8 16, .int .u8 7, .int .u8 26, .int .u8 12, .int .u8 18, .int .u8 6, .int .u8 11, .int .u8 5, .int .u8 10, .int .u8 9]
    | 8 => #[.int .u8 0, .int .u8 1, .int .u8 56, .int .u8 2, .int .u8 57, .int .u8 49, .int .u8 28, .int .u8 3, .int .u8 61, .int .u8 58, .int .u8 42, .int .u8 50, .int .u8 38, .int .u8 29, .int .u8 17, .int .u8 4, .int .u8 62, .int .u8 47, .int .u8 59, .int .u8 36, .int .u8 45, .int .u8 43, .int .u8 51, .int .u8 22, .int .u8 53, .int .u8 39, .int .u8 33, .int .u8 30, .int .u8 24, .int .u8 18, .int .u8 12, .int .u8 5, .int .u8 63, .int .u8 55, .int .u8 48, .int .u8 27, .int .u8 60, .int .u8 41, .int .u8 37, .int .u8 16, .int .u8 46, .int .u8 35, .int .u8 44, .int .u8 21, .int .u8 52, .int .u8 32, .int .u8 23, .int .u8 11, .int .u8 54, .int .u8 26, .int .u8 40, .int .u8 15, .int .u8 34, .int .u8 20, .int .u8 31, .int .u8 10, .int .u8 25, .int .u8 14, .int .u8 19, .int .u8 9, .int .u8 13, .int .u8 8, .int .u8 7, .int .u8 6]
    | 4 => #[.int .u64 1, .int .u64 10, .int .u64 100, .int .u64 1000, .int .u64 10000, .int .u64 100000, .int .u64 1000000, .int .u64 10000000, .int .u64 100000000, .int .u64 1000000000, .int .u64 10000000000, .int .u64 100000000000, .int .u64 1000000000000, .int .u64 10000000000000, .int .u64 100000000000000, .int .u64 1000000000000000, .int .u64 10000000000000000, .int .u64 100000000000000000, .int .u64 1000000000000000000, .int .u64 10000000000000000000]
    | 6 => #[.int .u8 128, .int .u8 191, .int .u8 160, .int .u8 191, .int .u8 128, .int .u8 159, .int .u8 144, .int .u8 191, .int .u8 128, .int .u8 143, .int .u8 0, .int .u8 0, .int .u8 0, .int .u8 0, .int .u8 0, .int .u8 0, .int .u8 0, .int .u8 0, .int .u8 0, .int .u8 0, .int .u8 0, .int .u8 0, .int .u8 0, .int .u8 0, .int .u8 0, .int .u8 0, .int .u8 0, .int .u8 0, .int .u8 0, .int .u8 0, .int .u8 0, .int .u8 0]
    | 3 => #[str [38, 61, 43, 36, 44, 59, 63, 47], str [91, 93, 47, 58, 38, 43, 36], str [91, 93, 47, 63, 58, 43, 36]]
    | 0 => #[str [67, 97, 108, 108, 45, 73, 68], str [67, 83, 101, 113], str [77, 73, 77, 69, 45, 86, 101, 114, 115, 105, 111, 110], str [77, 105, 110, 45, 83, 69], str [82, 65, 99, 107], str [82, 83, 101, 113], str [87, 87, 87, 45, 65, 117, 116, 104, 101, 110, 116, 105, 99, 97, 116, 101]]
    | 1 => #[str [70, 114, 111, 109], .int .i64 1, str [84, 111], .int .i64 1, str [67, 111, 110, 116, 97, 99, 116], .int .i64 1, str [82, 111, 117, 116, 101], .int .i64 1, str [82, 101, 99, 111, 114, 100, 45, 82, 111, 117, 116, 101], .int .i64 1, str [80, 97, 116, 104], .int .i64 1, str [83, 101, 114, 118, 105, 99, 101, 45, 82, 111, 117, 116, 101], .int .i64 1, str [82, 101, 102, 101, 114, 45, 84, 111], .int .i64 1, str [82, 101, 102, 101, 114, 114, 101, 100, 45, 66, 121], .int .i64 1, str [82, 101, 112, 108, 121, 45, 84, 111], .int .i64 1, str [86, 105, 97], .int .i64 2, str [67, 83, 101, 113], .int .i64 3, str [82, 65, 99, 107], .int .i64 4, str [67, 111, 110, 116, 101, 110, 116, 45, 76, 101, 110, 103, 116, 104], .int .i64 5, str [69, 120, 112, 105, 114, 101, 115], .int .i64 5, str [77, 97, 120, 45, 70, 111, 114, 119, 97, 114, 100, 115], .int .i64 5, str [77, 105, 110, 45, 69, 120, 112, 105, 114, 101, 115], .int .i64 5, str [82, 83, 101, 113], .int .i64 5, str [67, 111, 110, 116, 101, 110, 116, 45, 68, 105, 115, 112, 111, 115, 105, 116, 105, 111, 110], .int .i64 6, str [67, 111, 110, 116, 101, 110, 116, 45, 84, 121, 112, 101], .int .i64 6, str [69, 118, 101, 110, 116], .int .i64 6, str [77, 105, 110, 45, 83, 69], .int .i64 6, str [83, 101, 115, 115, 105, 111, 110, 45, 69, 120, 112, 105, 114, 101, 115], .int .i64 6, str [83, 117, 98, 115, 99, 114, 105, 112, 116, 105, 111, 110, 45, 83, 116, 97, 116, 101], .int .i64 6, str [65, 99, 99, 101, 112, 116], .int .i64 7, str [65, 108, 108, 111, 119], .int .i64 7, str [65, 108, 108, 111, 119, 45, 69, 118, 101, 110, 116, 115], .int .i64 7, str [80, 114, 111, 120, 121, 45, 82, 101, 113, 117, 105, 114, 101], .int .i64 7, str [82, 101, 113, 117, 105, 114, 101], .int .i64 7, str [83, 117, 112, 112, 111, 114, 116, 101, 100], .int .i64 7, str [85, 110, 115, 117, 112, 112, 111, 114, 116, 101, 100], .int .i64 7]
    | 5 => (Go.Pinned.utf8FirstZ.map fun (z : Nat) => Value.int .u8 (z : Int)).toArray
    | _ => c) t fz
  | o => o
noncomputable def laidWorld (os : Os) : World := { World.holding Tryz.prog os ⟨#[], #[], []⟩ with heap := (World.holding Tryz.prog os ⟨#[], #[], []⟩).heap.mapIdx laidCells }
theorem own : ownKnob Tryz.prog.godebug = none := by kernel_rfl
open YtpbfkeakaefenaaGreatDoor.Rows (uptoBulk uptoBulkAll)
theorem same_below {W W' : World} (h : Below W.heap.size W W') {p : MemPlace} (hp : p.block < W.heap.size) : W.sameAt W' p := by
  cases p with
  | cell b off =>
    show W'.cell? _ = W.cell? _
    unfold World.cell?
    rw [h.block b hp]
  | map b => exact h.block b hp
theorem carryAll {H : Type} {enc : TypeId × Value → H} {P : Program} {W W' : World} {sp : Nat → Bool} : ∀ {ts : List TypeId} {vs : List Value} {ds : List (DataW H)} {ps : List MemPlace}, DataW.TrodAll enc P W 0 sp true ts vs ds ps → (∀ p ∈ ps, W.sameAt W' p) → DataW.TrodAll enc P W' 0 sp true ts vs ds ps
  | [], [], [], _, h, _ => h
  | _ :: _, _ :: _, _ :: _, _, ⟨p, q, ⟨n, h1⟩, h2, e⟩, hs => ⟨p, q, ⟨n, DataW.trod_carry n _ _ _ h1 fun x hx => hs x (by rw [e]; exact List.mem_append_left _ hx)⟩, carryAll h2 fun x hx => hs x (by rw [e]; exact List.mem_append_right _ hx), e⟩
theorem again {H : Type} {enc : TypeId × Value → H} {P : Program} {W W' : World} {ts : List TypeId} {vs : List Value} {ds : List (DataW H)} {ps : List MemPlace} (hl : laidOutB P = true) (hm : mapsRowed P = true)
    (hf : ((List.range P.types.size).all fun t => match P.underlying t with | some (.slice e) => decide (0 < P.cellsOf e) | _ => true) = true) (hts : (ts.all fun t => decide (t < P.types.size)) = true)
    (h : DataW.TrodAll enc P W 0 (fun _ => true) true ts vs ds ps) (hb : Below W.heap.size W W') (hlt : ∀ p ∈ ps, p.block < W.heap.size) (sp : Nat → Bool) (hsp : ∀ p ∈ ps, sp p.block = true) : DataW.TrodAll enc P W' 0 sp true ts vs ds ps := by
  refine carryAll (DataW.TrodAll.respare (kids_rows hl hm) (slices_full_of P hf) (fun t ht => ?_) h hsp) fun p hp => same_below hb (hlt p hp)
  have := List.all_eq_true.1 hts t ht
  simpa using this
def Dec (P : Program) (w : World) {H : Type} (enc : TypeId × Value → H) {α : Type} (t : TypeId) (f : α → List Value) (good : α → Prop) (sz : α → Nat) : Prop :=
  ∀ (base : Nat) (sp : Nat → Bool) (hd : Bool) (fuel : Nat) (cs : List Value) (x : DataW H × List MemPlace), DataW.trod enc P w base sp hd fuel t cs = some x → ∃ z, cs = f z ∧ good z ∧ sz z ≤ uptoBulk x.1
section
variable {P : Program} {w : World} {H : Type} {enc : TypeId × Value → H} {t : TypeId}
theorem apl (ht : P.underlying t = some .string) : Dec P w enc t eS (fun s => s.length ≤ 9223372036854775807) (fun s => s.length) := by
  intro base sp hd fuel cs x h
  obtain ⟨s, rfl, hx, hs⟩ := DataW.trod_string ht h
  refine ⟨s.data.toList, rfl, lenOf hs, ?_⟩
  rw [hx]
  simp [uptoBulk]
theorem dec_int {k : IntKind} (ht : P.underlying t = some (.int k)) : Dec P w enc t (eI k) (fun n => (Lit.int k n).wf = true) (fun _ => 0) := by
  intro base sp hd fuel cs x h
  obtain ⟨n, rfl, hx, hs⟩ := DataW.trod_int ht h
  exact ⟨n, rfl, hs, Nat.zero_le _⟩
theorem dec_bool (ht : P.underlying t = some .bool) : Dec P w enc t (fun b => [Value.bool b]) (fun _ => True) (fun _ => 0) := by
  intro base sp hd fuel cs x h
  cases fuel with
  | zero => simp [DataW.trod] at h
  | succ fuel =>
    unfold DataW.trod at h
    rw [ht] at h
    split at h <;> simp_all
theorem bulk_range {n : Nat} {D : Nat → DataW H} {α : Type} {sz : α → Nat} : ∀ (zs : List α), zs.length = n → (∀ i (h : i < zs.length), sz zs[i] ≤ uptoBulk (D i)) → (zs.map sz).sum ≤ uptoBulkAll ((List.range n).map D) := by
  intro zs
  induction zs generalizing n D with
  | nil => intro hn _; subst hn; simp
  | cons z zs ih =>
    intro hn h
    subst hn
    have h0 := h 0 (by simp)
    have := ih (n := zs.length) (D := fun i => D (i + 1)) rfl (fun i hi => by have := h (i + 1) (by simp; omega); simpa using this)
    rw [List.length_cons, List.range_succ_eq_map, List.map_cons, List.map_cons, List.sum_cons, uptoBulkAll, List.map_map]
    simp only [List.getElem_cons_zero] at h0
    exact Nat.add_le_add h0 this
theorem cells_app {base : Nat} {a : Addr} {n : Nat} {cs : List Value} (h : w.cells? base a n = some cs) : cs.length = n ∧ ∀ j v, cs[j]? = some v → w.cell? (a.add j) = some v := by
  obtain ⟨h1, h2, h3⟩ := World.cells?_some h
  exact ⟨h2, fun j v hj => (h3 j (by have := (List.getElem?_eq_some_iff.1 hj).1; omega)).trans hj⟩
theorem dec_slice {e : TypeId} {α : Type} {f : α → List Value} {good : α → Prop} {sz : α → Nat} (ht : P.underlying t = some (.slice e)) (he : Dec P w enc e f good sz) {base : Nat} {sp : Nat → Bool} {hd : Bool} {fuel : Nat} {cs : List Value} {x : DataW H × List MemPlace}
    (h : DataW.trod enc P w base sp hd fuel t cs = some x) : ∃ a n cap, ∃ zs : List α, cs = [.slice a n cap] ∧ n = zs.length ∧ n ≤ cap ∧ Rd w a (zs.flatMap f) ∧ (∀ z ∈ zs, good z) ∧ (zs.map sz).sum ≤ uptoBulk x.1 := by
  rcases Deep.open_slice ht h with ⟨rfl, rfl⟩ | ⟨a, len, cap, m, n, D, Pl, rfl, hb, hl, hm, hmm, rfl, hx⟩
  · exact ⟨none, 0, 0, [], rfl, rfl, Nat.le_refl _, fun j v hj => by simp at hj, fun z hz => by simp at hz, Nat.zero_le _⟩
  · have hlm : len ≤ m := by rw [hmm]; split <;> omega
    have key : ∀ k, k ≤ len → ∃ zs : List α, zs.length = k ∧ (∀ z ∈ zs, good z) ∧ (∀ i (hi : i < zs.length), sz zs[i] ≤ uptoBulk (D i)) ∧ (zs.flatMap f).length = k * P.cellsOf e ∧ ∀ j v, (zs.flatMap f)[j]? = some v → w.cell? (a.add j) = some v := by
      intro k
      induction k with
      | zero => intro _; exact ⟨[], rfl, fun z hz => by simp at hz, fun i hi => by simp at hi, by simp, fun j v hj => by simp at hj⟩
      | succ k ih =>
        intro hk
        obtain ⟨zs, h1, h2, h3, h4, h5⟩ := ih (by omega)
        obtain ⟨cs', hc, ht'⟩ := hx k (by omega)
        obtain ⟨z, rfl, hg, hs⟩ := he _ _ _ _ _ _ ht'
        obtain ⟨hcl, hcc⟩ := cells_app hc
        refine ⟨zs ++ [z], by simp [h1], fun y hy => ?_, fun i hi => ?_, ?_, fun j v hj => ?_⟩
        · rcases List.mem_append.1 hy with hy | hy
          · exact h2 y hy
          · rw [List.mem_singleton.1 hy]; exact hg
        · by_cases hik : i < zs.length
          · rw [List.getElem_append_left hik]; exact h3 i hik
          · have : i = k := by simp at hi; omega
            subst this
            simp only [h1.symm, List.getElem_concat_length]
            rw [h1]; exact hs
        · simp [h4, hcl, Nat.succ_mul]
        · rw [List.flatMap_append, List.flatMap_singleton] at hj
          by_cases hjl : j < (zs.flatMap f).length
          · rw [List.getElem?_append_left hjl] at hj; exact h5 j v hj
          · rw [List.getElem?_append_right (by omega), h4] at hj
            have := hcc _ _ hj
            rw [h4] at hjl
            have e : (a.add (k * P.cellsOf e)).add (j - k * P.cellsOf e) = a.add j := by
              rw [Go.Wk.add_add]
              congr 1
              omega
            rw [e] at this
            exact this
    obtain ⟨zs, h1, h2, h3, h4, h5⟩ := key len (Nat.le_refl _)
    refine ⟨some a, len, cap, zs, rfl, h1.symm, hl, fun j v hj => ⟨a, rfl, h5 j v hj⟩, h2, ?_⟩
    have := bulk_range (sz := sz) zs h1 h3
    simp only [uptoBulk]
    omega
def flatT : TypeDesc → Bool
  | .struct _ => false
  | .array _ _ => false
  | _ => true
theorem oneCellOf {base : Nat} {v x : Value} {ty : TypeDesc} (ht : P.underlying t = some ty) (hval : Value.okWide P w .any base t v) (hf : flatT ty = true) (e : v.cells.toList = [x]) : v = x := by
  cases v with
  | agg cs =>
    exfalso
    unfold Value.okWide Cell.okWide Cell.ok at hval
    rw [ht] at hval
    cases ty <;> first | (simp [flatT] at hf; done) | simp at hval
  | _ => simpa [Value.cells] using e
end
end Go.Proofs
namespace Go.Proofs.YtpbfkeakaefenaaGreatDoor.headerVias
open Go.ChangeShapes Go.WideShapes Go.ChangeAt Go.ChangeMaps Go.RowKit Go.Wk
theorem fact5 : laidOutB Tryz.prog = true := by kernel_rfl
theorem fact6 : mapsRowed Tryz.prog = true := by kernel_rfl
theorem fact7 : ((List.range Tryz.prog.types.size).all fun t => match Tryz.prog.underlying t with | some (.slice e) => decide (0 < Tryz.prog.cellsOf e) | _ => true) = true := by kernel_rfl
theorem dec_t65 {W : World} {H : Type} {enc : TypeId × Value → H} : Dec Tryz.prog W enc 65 aaa (fun z => z.1.length ≤ 9223372036854775807 ∧ z.2.1.length ≤ 9223372036854775807) (fun z => z.1.length + z.2.1.length) := by
  intro base sp hd fuel cs x h
  obtain ⟨xs, n, _, rfl, hl, hlen, hf⟩ := DataW.trod_struct Tryz.underlying65 h
  rw [show Tryz.prog.cellsOf 65 = 3 by kernel_rfl] at hl
  match cs, hl with
  | [c0, c1, c2], _ =>
  match xs, hlen with
  | [y0, y1, y2], _ =>
  obtain ⟨z0, e0, g0, s0⟩ := apl Tryz.underlying9 _ _ _ _ _ _ (hf 0 _ rfl)
  obtain ⟨z1, e1, g1, s1⟩ := apl Tryz.underlying9 _ _ _ _ _ _ (hf 1 _ rfl)
  obtain ⟨z2, e2, g2, s2⟩ := dec_bool Tryz.underlying4 _ _ _ _ _ _ (hf 2 _ rfl)
  have u0 : [c0] = _ := e0
  clear e0
  have u1 : [c1] = _ := e1
  clear e1
  have u2 : [c2] = _ := e2
  clear e2
  refine ⟨(z0, z1, z2), ?_, ?_, ?_⟩
  · simp only [eS, eI, eB, List.cons.injEq, and_true] at u0 u1 u2
    subst u0 u1 u2
    rfl
  · exact ⟨g0, g1⟩
  · simp only [List.map_cons, List.map_nil, Rows.uptoBulk, Rows.uptoBulkAll] at *
    omega
theorem contract (H : Type) (enc : TypeId × Value → H) (W : World) (base : Nat) (args : Array Value) (ds gs : List (DataW H)) (before : List MemPlace)
    (hval : ∀ (j : Nat) t v, Tryz.f3.params[j]? = some t → args[j]? = some v → Value.okWide Tryz.prog W .any base t v)
    (hW : DataW.Whole enc Tryz.prog Tryz.f3.params.toList Rows.headerViasSpec.vars false W args.toList ds gs before) (hL : laidMetH Tryz.prog Rows.headerViasRow.laid W) (hsh : W.ShapedOpen Tryz.prog) (hk : Rows.uptoSmall H (ds ++ gs) = true) :
    Calls Tryz.prog 3 args W fun e W' => ∃ v, e = .returned v ∧ Rows.headerViasSpec.post enc Tryz.prog Tryz.f3 false true false false W args v W' := by
  have hW' := hW
  obtain ⟨p, q, hA0, hV, rfl, hfz, hnd⟩ := hW
  have hA : DataW.TrodAll enc Tryz.prog W 0 (fun _ => true) true Tryz.f3.params.toList args.toList ds p := hA0
  rw [Tryz.params3] at hA hval
  have hAA := hA
  obtain ⟨v0, vs0, d0, ds0, p0, q0, hargs, rfl, rfl, h0, r0⟩ := trodAll_cons hA
  obtain ⟨v1, vs1, d1, ds1, p1, q1, rfl, rfl, rfl, h1, r1⟩ := trodAll_cons r0
  obtain ⟨rfl, rfl, rfl⟩ := trodAll_nil r1
  obtain rfl : args = #[v0, v1] := by cases args; simp_all
  obtain ⟨rfl, rfl⟩ := trodVars_none hV
  obtain ⟨fu0, t0⟩ := h0
  obtain ⟨z0, ez0, gz0, bz0⟩ := apl Tryz.underlying9 _ _ _ _ _ _ t0
  obtain rfl := oneCellOf Tryz.underlying9 (hval 0 9 v0 rfl rfl) rfl ez0
  obtain ⟨fu1, t1⟩ := h1
  obtain ⟨cs1, rfl, hz1, _⟩ : ∃ cs, v1 = .agg cs ∧ cs.size = Tryz.prog.cellsOf 24 ∧ Row.okWide Tryz.prog W .any base 24 cs := by
    have := hval 1 24 v1 rfl rfl
    simpa only [Value.okWide, Tryz.underlying24] using this
  obtain ⟨xs1, nn1, _, ex1, hl1, hlen1, hf1⟩ := DataW.trod_struct Tryz.underlying24 t1
  rw [show Tryz.prog.cellsOf 24 = 5 by kernel_rfl] at hl1
  obtain ⟨cl1⟩ := cs1
  obtain ⟨c1_0, c1_1, c1_2, c1_3, c1_4, rfl⟩ : ∃ c1_0 c1_1 c1_2 c1_3 c1_4, cl1 = [c1_0, c1_1, c1_2, c1_3, c1_4] := by
    match cl1, hl1 with
    | [c1_0, c1_1, c1_2, c1_3, c1_4], _ => exact ⟨_, _, _, _, _, rfl⟩
  obtain ⟨y1_0, y1_1, y1_2, y1_3, y1_4, rfl⟩ : ∃ y1_0 y1_1 y1_2 y1_3 y1_4, xs1 = [y1_0, y1_1, y1_2, y1_3, y1_4] := by
    match xs1, hlen1 with
    | [y1_0, y1_1, y1_2, y1_3, y1_4], _ => exact ⟨_, _, _, _, _, rfl⟩
  simp only [List.map_cons, List.map_nil, Prod.mk.injEq] at ex1
  obtain ⟨rfl, rfl⟩ := ex1
  obtain ⟨z1, ez1, gz1, bz1⟩ := apl Tryz.underlying9 _ _ _ _ _ _ (hf1 0 _ rfl)
  have uez1 : [c1_0] = _ := ez1
  clear ez1
  simp only [eS, eI, eB, List.cons.injEq, and_true] at uez1
  subst uez1
  obtain ⟨z2, ez2, gz2, bz2⟩ := apl Tryz.underlying9 _ _ _ _ _ _ (hf1 1 _ rfl)
  have uez2 : [c1_1] = _ := ez2
  clear ez2
  simp only [eS, eI, eB, List.cons.injEq, and_true] at uez2
  subst uez2
  obtain ⟨z3, ez3, gz3, bz3⟩ := dec_int Tryz.underlying3 _ _ _ _ _ _ (hf1 2 _ rfl)
  have uez3 : [c1_2] = _ := ez3
  clear ez3
  simp only [eS, eI, eB, List.cons.injEq, and_true] at uez3
  subst uez3
  obtain ⟨z4, ez4, gz4, bz4⟩ := apl Tryz.underlying9 _ _ _ _ _ _ (hf1 3 _ rfl)
  have uez4 : [c1_3] = _ := ez4
  clear ez4
  simp only [eS, eI, eB, List.cons.injEq, and_true] at uez4
  subst uez4
  obtain ⟨a5, n5, cap5, z5, ez5, hn5, hc5, hR5, gz5, bz5⟩ := dec_slice Tryz.underlying22 (dec_t65) (hf1 4 _ rfl)
  have uez5 : [c1_4] = _ := ez5
  clear ez5
  simp only [eS, eI, eB, List.cons.injEq, and_true] at uez5
  subst uez5
  clear hA0
  simp only [List.append_nil] at hW'
  have hb := of_decide_eq_true hk
  simp only [List.append_nil, Rows.uptoBulkAll, Rows.uptoBulk] at hb
  try simp only at bz0
  try simp only at bz1
  try simp only at bz2
  try simp only at bz3
  try simp only at bz4
  try simp only at bz5
  have hr := plain_HeaderVias z0 (z1, z2, z3, z4, z5) (by (try simp only); omega)
  have hgs : 9 ≤ W.heap.size := heapSize hsh (of_decide_eq_true krf) krf
  have walk := K_L_law03_HeaderVias a5 n5 cap5 hr (glOf hL hsh hgs) hn5 hR5 hc5
  refine Calls.mono walk ?_
  rintro e W' ⟨v, rfl, rfl, hH⟩
  exact ⟨_, rfl, postOf (pa := _) (pv := []) hW' (fun _ _ _ => trodAll_cons_mk (shut_bool Tryz.underlying4 _) trodAll_mk0) (fun sp hsp => again fact5 fact6 fact7 krf hAA hH.toBelow (fun p hp => hW'.lt p (by simpa using hp)) sp (fun p hp => hsp p (by simpa using hp))) (fun _ _ => rfl) (hH.toBelow.frame _)⟩
theorem laid_met (os : Os) : laidMet Tryz.prog Rows.headerViasRow.laid ((laidWorld os).forCall (fun _ _ => 0) ⟨#[], #[.string ⟨#[]⟩, .agg #[.string ⟨#[]⟩, .string ⟨#[]⟩, .int .i64 0, .string ⟨#[]⟩, .slice none 0 0]], []⟩).memory :=
  laidMet_of_run' 8 krf krf
theorem reads (os : Os) {H : Type} (enc : TypeId × Value → H) : ∃ places, DataW.whole enc Tryz.prog ((laidWorld os).forCall (fun _ _ => 0) ⟨#[], #[.string ⟨#[]⟩, .agg #[.string ⟨#[]⟩, .string ⟨#[]⟩, .int .i64 0, .string ⟨#[]⟩, .slice none 0 0]], []⟩).memory Tryz.f3.params.toList Rows.headerViasSpec.vars false (#[.string ⟨#[]⟩, .agg #[.string ⟨#[]⟩, .string ⟨#[]⟩, .int .i64 0, .string ⟨#[]⟩, .slice none 0 0]] : Array Value).toList 8 = some ([.lit (.string []), .agg [.lit (.string []), .lit (.string []), .lit (.int .i64 0), .lit (.string []), .nil]], [], places) :=
  ⟨[], by kernel_rfl⟩
theorem lifted (os : Os) (started : os.Started) (H : Type) (enc : TypeId × Value → H) (F : Stop.Interp) :
    ReturnsInHanded {} Tryz.checked os 3 .any ((Rows.OpenSpec.upto Rows.headerViasSpec).preRow enc Tryz.prog Tryz.f3 Rows.headerViasUptoRow.domain false Rows.headerViasUptoRow.laid) (((Rows.OpenSpec.upto Rows.headerViasSpec).at F).post enc Tryz.prog Tryz.f3 false true false false) := by
  obtain ⟨places, hx⟩ := reads os enc
  refine returnsInHanded_of_row (C := Tryz.checked) (s := Rows.OpenSpec.upto Rows.headerViasSpec) own started krf Tryz.func3
    (witness_row_at (enc := enc) (C := Tryz.checked) false (laidWorld os) #[.string ⟨#[]⟩, .agg #[.string ⟨#[]⟩, .string ⟨#[]⟩, .int .i64 0, .string ⟨#[]⟩, .slice none 0 0]] rfl krf krf krf
      (OpenSpec.preRow_of_cond 8 hx krf (fun k hk => by cases hk; kernel_rfl) krf (laid_met os))) ?_
  intro W base args ds gs before hval hW _ hcond _ hL hsh _
  exact contract H enc W base args ds gs before hval hW hL hsh (hcond _ rfl)
theorem fact1 : (Rows.headerViasUptoRow.inPlace == Tryz.prog.inPlace 3) = true := by kernel_rfl
theorem fact2 : (Rows.headerViasUptoRow.unfollowed == Tryz.prog.unfollowed 3) = true := by kernel_rfl
theorem fact3 : (Rows.headerViasUptoRow.recurses == Tryz.prog.recurses 3) = true := by kernel_rfl
theorem fact4 : (Rows.headerViasUptoRow.named == Tryz.prog.varsNamed 3) = true := by kernel_rfl
theorem facts : joinedFacts Tryz.prog 3 Tryz.f3 (Rows.OpenSpec.upto Rows.headerViasSpec).bare Rows.headerViasUptoRow = true := by
  unfold joinedFacts
  rw [fact1, fact2, fact3, fact4, fact5, fact6]
  kernel_rfl
theorem said : Rows.HeaderViasUptoSaid :=
  OpenClaim.holds_of_cond 3 Tryz.f3 rfl rfl rfl rfl rfl rfl rfl ⟨rfl, rfl, rfl, rfl, rfl⟩ rfl rfl rfl rfl rfl krf Tryz.func3 facts
    (of_decide_eq_true krf) (by unfold Func.isWrapper; first | (rw [if_pos (by decide +kernel)]; kernel_rfl) | (rw [if_neg (by decide +kernel)]; exact ⟨rfl, rfl⟩))
    (fun os started H enc _ F => by rw [OpenClaim.pre_eq_preRow]; exact lifted os started H enc F)
theorem plain (f : FuncId) (fn : Func) (hf : Tryz.pinned.checked.prog.funcNamed "dialtone/dialtonelaw03.HeaderVias" = some f) (hfn : Tryz.pinned.checked.prog.funcs[f]? = some fn) :
    false = Tryz.pinned.checked.prog.looks [] ∧ ∀ (j : Nat) t, fn.params[j]? = some t → Tryz.pinned.checked.prog.wantsStandIn t = false := by
  obtain rfl : f = 3 := Option.some.inj ((show Tryz.prog.funcNamed "dialtone/dialtonelaw03.HeaderVias" = some 3 by kernel_rfl).symm.trans hf) |>.symm
  obtain rfl : fn = Tryz.f3 := (Option.some.inj (Tryz.func3.symm.trans hfn)).symm
  refine ⟨by kernel_rfl, fun j t ht => ?_⟩
  rw [Tryz.params3] at ht
  have hm := Array.mem_of_getElem? ht
  simp only [List.mem_toArray, List.mem_cons, List.not_mem_nil, or_false, or_self] at hm
  rcases hm with rfl | rfl
  · exact (show Tryz.prog.wantsStandIn 9 = false by kernel_rfl)
  · exact (show Tryz.prog.wantsStandIn 24 = false by kernel_rfl)
theorem card : Rows.HeaderViasUptoCardSaid :=
  Claim7.holds_tied_plain_at .later [] _ _ _ _ said (fun _ h => by cases h) krf (fun _ h => by cases h) headerViasUpto_row_tie rfl ⟨rfl, rfl⟩ krf rfl plain krf
end Go.Proofs.YtpbfkeakaefenaaGreatDoor.headerVias
