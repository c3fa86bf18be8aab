/-
  The law HeaderItems holds, second form: for every text and every item of at most 1048576 values and letters the call returns true; no condition beyond the statement's own (part 7 of 7).
-/
import Derived.Test.YtbfppjfgcjpknaaGreatDoorHj6
import Derived.Test.YtbfppjfgcjpknaaGreatDoorRows
import Derived.ProofKit
import Derived.OpenShut
import Derived.Deep.DeepHandedRow
import Derived.Lib.LaidTab
import Derived.Shelf.Vars
import Derived.ChangeSame
import Derived.WalkKit
import Derived.SevenTiedAt
import Derived.Deep.Slices
import Derived.ReadAgain
import Derived.Laws.Bits64
import Derived.Test.YtbfppjfgcjpknaaGreatDoorCards
import Derived.Test.YtbfppjfgcjpknaaGreatDoorTie
import Derived.ChangeMaps5
set_option linter.unusedVariables false
set_option linter.unusedSimpArgs false
set_option maxRecDepth 20000
namespace Go.Proofs
open Go.Wk Go.Px Go.RowKit
theorem lenOf {s : ByteArray} (h : s.size ≤ maxLen) : s.data.toList.length ≤ 9223372036854775807 := Nat.le_trans (by rw [Array.length_toList]; exact h) (show maxLen ≤ 9223372036854775807 by decide)
theorem laidAt {P : Program} {w : World} : ∀ {l : List (String × DataW Unit)} {ps : List MemPlace}, DataW.LaidVars P w l ps → ∀ (i : Nat) {n : String} {d : DataW Unit}, l[i]? = some (n, d) →
    ∃ g t cs fuel p, P.globalNamed n = some g ∧ (P.globals[g]?).map (·.type) = some t ∧ w.var? P n = some cs ∧ DataW.trod (fun _ => ()) P w 0 (fun _ => true) false fuel t cs.toList = some (d, p)
  | [], _, _, i, n, d, hi => by simp at hi
  | (n', d') :: l, ps, h, 0, n, d, hi => by
    obtain ⟨g, t, cs, fuel, p, q, h1, h2, h3, h4, _, _⟩ := h
    simp only [List.getElem?_cons_zero, Option.some.injEq, Prod.mk.injEq] at hi
    obtain ⟨rfl, rfl⟩ := hi
    exact ⟨g, t, cs, fuel, p, h1, h2, h3, h4⟩
  | (n', d') :: l, ps, h, i + 1, n, d, hi => by
    obtain ⟨g, t, cs, fuel, p, q, _, _, _, _, h5, _⟩ := h
    exact laidAt h5 i (by simpa using hi)
theorem vrOf {P : Program} {w : World} {n : String} {g : Nat} {cs : Array Value} (hg : P.globalNamed n = some g) (h : w.var? P n = some cs) : Vr w g cs.toList := by
  simp only [World.var?, hg, Option.bind_some] at h
  split at h
  · rename_i cs' t f e
    cases h
    exact ⟨t, f, by rw [e]⟩
  · cases h
theorem chunks {α : Type} {f : α → List Value} {sz : Nat} : ∀ (zs : List α) (cs : List Value), cs.length = zs.length * sz → (∀ (i : Nat) (z : α), zs[i]? = some z → (cs.drop (i * sz)).take sz = f z) → cs = zs.flatMap f
  | [], cs, hl, _ => by simpa using hl
  | z :: zs, cs, hl, h => by
    have h0 := h 0 z rfl
    simp only [Nat.zero_mul, List.drop_zero] at h0
    have h1 := chunks (f := f) (sz := sz) zs (cs.drop sz) (by rw [List.length_drop, hl, List.length_cons, Nat.succ_mul]; omega) (fun i z' hi => by
      have := h (i + 1) z' (by simpa using hi)
      rw [List.drop_drop, Nat.add_comm, ← Nat.succ_mul]
      exact this)
    rw [List.flatMap_cons, ← h0, ← h1, List.take_append_drop]
theorem arrCells {P : Program} {w : World} {fuel n sz : Nat} {t e : TypeId} {cs : List Value} {p : List MemPlace} {α : Type} {dz : α → DataW Unit} {f : α → List Value} (zs : List α)
    (ht : P.underlying t = some (.array n e)) (hce : P.cellsOf e = sz) (hct : P.cellsOf t = n * sz) (hz : zs.length = n)
    (hel : ∀ fuel cs' z p, DataW.trod (fun _ => ()) P w 0 (fun _ => true) false fuel e cs' = some (dz z, p) → cs' = f z)
    (h : DataW.trod (fun _ => ()) P w 0 (fun _ => true) false fuel t cs = some (.agg (zs.map dz), p)) : cs = zs.flatMap f := by
  cases fuel with
  | zero => simp [DataW.trod] at h
  | succ fuel =>
    simp only [DataW.trod, ht, hce, hct] at h
    split at h
    · rename_i hl
      obtain ⟨xs, hm, hx⟩ := Option.map_eq_some_iff.1 h
      have hxs : xs.map (·.1) = zs.map dz := by
        have := congrArg Prod.fst hx
        simpa using this
      refine chunks zs cs (by rw [hl, hz]) fun i z hi => ?_
      have hi' : i < n := by rw [← hz]; exact (List.getElem?_eq_some_iff.1 hi).1
      obtain ⟨b, hb, hf⟩ := Lib.mapM_at hm i i (by simp [hi'])
      have hb1 : b.1 = dz z := by
        have e1 : (xs.map (·.1))[i]? = some b.1 := by simp [hb]
        rw [hxs] at e1
        simp only [List.getElem?_map, hi, Option.map_some, Option.some.injEq] at e1
        exact e1.symm
      exact hel fuel _ z b.2 (by rw [hf, ← hb1])
    · cases h
theorem strCell {P : Program} {w : World} {fuel : Nat} {e : TypeId} {cs : List Value} {p : List MemPlace} (he : P.underlying e = some .string) (z : List UInt8)
    (h : DataW.trod (fun _ => ()) P w 0 (fun _ => true) false fuel e cs = some (.lit (.string z), p)) : cs = eS z := by
  obtain ⟨s, rfl, hx, _⟩ := DataW.trod_string he h
  simp only [Prod.mk.injEq, DataW.lit.injEq, Lit.string.injEq] at hx
  obtain ⟨rfl, _⟩ := hx
  rfl
theorem intCell {P : Program} {w : World} {fuel : Nat} {e : TypeId} {k : IntKind} {cs : List Value} {p : List MemPlace} (he : P.underlying e = some (.int k)) (z : Int)
    (h : DataW.trod (fun _ => ()) P w 0 (fun _ => true) false fuel e cs = some (.lit (.int k z), p)) : cs = [.int k z] := by
  obtain ⟨n, rfl, hx, _⟩ := DataW.trod_int he h
  simp only [Prod.mk.injEq, DataW.lit.injEq, Lit.int.injEq] at hx
  obtain ⟨⟨_, rfl⟩, _⟩ := hx
  rfl
theorem pairCell {P : Program} {w : World} {fuel : Nat} {e a b : TypeId} {f0 f1 : Field} {k : IntKind} {cs : List Value} {p : List MemPlace} (he : P.underlying e = some (.struct #[f0, f1])) (ha : P.underlying a = some .string) (hb : P.underlying b = some (.int k))
    (h0 : (f0.type, f0.offset, f1.type, f1.offset) = (a, 0, b, 1)) (hca : P.cellsOf a = 1) (hcb : P.cellsOf b = 1) (hc : P.cellsOf e = 2) (z : List UInt8 × Int)
    (h : DataW.trod (fun _ => ()) P w 0 (fun _ => true) false fuel e cs = some (.agg [.lit (.string z.1), .lit (.int k z.2)], p)) : cs = [str z.1, .int k z.2] := by
  obtain ⟨z1, z2⟩ := z
  simp only [Prod.mk.injEq] at h0
  obtain ⟨t0, o0, t1, o1⟩ := h0
  cases fuel with
  | zero => simp [DataW.trod] at h
  | succ fuel =>
    simp only [DataW.trod, he, hc] at h
    split at h
    · rename_i hl
      obtain ⟨xs, hm, hx⟩ := Option.map_eq_some_iff.1 h
      simp only [List.mapM_cons, List.mapM_nil, Option.bind_eq_bind, Option.bind_eq_some_iff, Option.pure_def, Option.some.injEq, t0, t1, o0, o1, hca, hcb, List.drop_zero] at hm
      obtain ⟨x0, hx0, r0, ⟨x1, hx1, r1, rfl, rfl⟩, rfl⟩ := hm
      simp only [List.map_cons, List.map_nil, Prod.mk.injEq, DataW.agg.injEq, List.cons.injEq, and_true] at hx
      obtain ⟨⟨e0, e1⟩, _⟩ := hx
      have g0 := strCell ha z1 (p := x0.2) (by rw [hx0, ← e0])
      have g1 := intCell hb z2 (p := x1.2) (by rw [hx1, ← e1])
      match cs, hl, g0, g1 with
      | [u, v], _, g0, g1 =>
        simp only [List.take_succ_cons, List.take_zero, List.drop_succ_cons, List.drop_zero, eS, List.cons.injEq, and_true] at g0 g1
        rw [g0, g1]
    · cases h
theorem intVar {P : Program} {w : World} {g : Nat} {t : TypeId} {zero : Array Value} {k : IntKind} (h : w.ShapedOpen P) (hg : g < P.globals.size)
    (h0 : ((begin P (fun _ _ => 0) default).world.heap[g]?).bind Obj.row? = some (zero, t)) (hz : zero.size = 1)
    (hb : P.buildable t = true) (hc : P.cellTypes P.depth t = some [t]) (hu : P.underlying t = some (.int k)) : ∃ m, Vr w g [.int k m] := by
  obtain ⟨m, hm⟩ := cell_of_shapedOpen_int h hg h0 hz hb hc hu
  obtain ⟨cs, hh, hs, _⟩ := h.1 g zero t hg h0
  refine ⟨m, t, (0, 0), ?_⟩
  rw [hh]
  have h1 : cs.size = 1 := by omega
  have h2 : cs[0]? = some (.int k m) := by
    have : w.cell? ⟨g, 0, none⟩ = cs[0]? := by simp [World.cell?, hh]
    rw [← this]; exact hm
  have e : cs = [Value.int k m].toArray := by
    apply Array.ext
    · simp [h1]
    · intro i hi hi'
      have : i = 0 := by omega
      subst this
      simpa [hi] using h2
  rw [e]
theorem heapSize {P : Program} {w : World} {g : Nat} (h : w.ShapedOpen P) (hg : g < P.globals.size) (h0 : (((begin P (fun _ _ => 0) default).world.heap[g]?).bind Obj.row?).isSome = true) : g + 1 ≤ w.heap.size := by
  obtain ⟨⟨zero, t⟩, h1⟩ := Option.isSome_iff_exists.1 h0
  obtain ⟨cs, hh, _⟩ := h.1 g zero t hg h1
  exact (Array.getElem?_eq_some_iff.1 hh).1
theorem laidOf {P : Program} {l : List (String × DataW Unit)} {w : World} (h : laidMetH P l w) (hn : (l.filter fun x => x.2.handleName?.isSome) = []) : ∃ ps, DataW.LaidVars P w l ps := by
  unfold laidMetH at h
  rw [hn] at h
  obtain ⟨ps, h1, _⟩ := h
  exact ⟨ps, h1⟩
theorem postOf {H : Type} {enc : TypeId × Value → H} {P : Program} {f : Func} {s : ChangeSpec} {apart fresh handsOn : Bool} {W W' : World} {args : Array Value} {v : Value} {ds gs : List (DataW H)} {before pa pv : List MemPlace}
    (hW : DataW.Whole enc P f.params.toList s.vars apart W args.toList ds gs before)
    (hres : ∀ (b : Nat) (sp : Nat → Bool) (hd : Bool), DataW.TrodAll enc P W' b sp hd f.resultTypes.toList (v.resultList f.resultTypes.size) (s.fn H (ds ++ gs)).results [])
    (hargs : ∀ sp : Nat → Bool, (∀ p ∈ before, sp p.block = true) → DataW.TrodAll enc P W' 0 sp true f.params.toList args.toList (s.fn H (ds ++ gs)).args pa)
    (hvars : ∀ sp : Nat → Bool, (∀ p ∈ before, sp p.block = true) → DataW.TrodVars enc P W' sp s.vars (s.fn H (ds ++ gs)).vars pv)
    (hk : W.keptBut W' (fun p => p ∈ before ∧ (p ∈ ([] : List MemPlace) ∨ p ∈ pa ∨ p ∈ pv))) : s.post enc P f apart fresh handsOn false W args v W' := by
  have hold : ∀ p ∈ before, (fun b => decide (b < W.heap.size)) p.block = true := fun p hp => by simpa using hW.lt p hp
  exact ⟨ds, gs, before, [], pa, pv, hW, hres _ _ _, hargs _ hold, hvars _ hold, hk, fun h => by cases h⟩
end Go.Proofs
set_option linter.unusedVariables false
set_option maxRecDepth 100000
namespace Go.Proofs
open Go.Wk Go.Px Go.RowKit
theorem glOf {W : World} (hL : laidMetH Tryz.prog YtbfppjfgcjpknaaGreatDoor.Rows.headerItemsRow.laid W) (hsh : W.ShapedOpen Tryz.prog) (hs : 9 ≤ W.heap.size) : Gl W := by
  obtain ⟨ps, h⟩ := laidOf hL krf
  have v0 : Vr W 0 (List.flatMap eS ajo) := by
    obtain ⟨g, t, cs, fuel, p, h1, h2, h3, h4⟩ := laidAt h 5 rfl
    obtain rfl := Option.some.inj ((show Tryz.prog.globalNamed "dialtone/header.specials" = some 0 by kernel_rfl).symm.trans h1)
    obtain rfl := Option.some.inj ((show (Tryz.prog.globals[0]?).map (·.type) = some 99 by kernel_rfl).symm.trans h2)
    have e := arrCells (dz := fun s => .lit (.string s)) (f := eS) ajo Tryz.underlying99 (show Tryz.prog.cellsOf 9 = 1 by kernel_rfl) krf rfl (fun _ _ z _ h => strCell Tryz.underlying9 z h) h4
    have := vrOf h1 h3
    rw [e] at this
    exact this
  have v1 : Vr W 1 (List.flatMap aoj ame) := by
    obtain ⟨g, t, cs, fuel, p, h1, h2, h3, h4⟩ := laidAt h 6 rfl
    obtain rfl := Option.some.inj ((show Tryz.prog.globalNamed "dialtone/header.kinds" = some 1 by kernel_rfl).symm.trans h1)
    obtain rfl := Option.some.inj ((show (Tryz.prog.globals[1]?).map (·.type) = some 182 by kernel_rfl).symm.trans h2)
    have e := arrCells (dz := fun z => .agg [.lit (.string z.1), .lit (.int .i64 z.2)]) (f := aoj) ame Tryz.underlying182 (show Tryz.prog.cellsOf 181 = 2 by kernel_rfl) krf rfl (fun _ _ z _ h => pairCell Tryz.underlying181 Tryz.underlying9 Tryz.underlying143 rfl krf krf krf z h) h4
    have := vrOf h1 h3
    rw [e] at this
    exact this
  have v3 : Vr W 3 (List.flatMap eS gl_classes) := by
    obtain ⟨g, t, cs, fuel, p, h1, h2, h3, h4⟩ := laidAt h 4 rfl
    obtain rfl := Option.some.inj ((show Tryz.prog.globalNamed "dialtone/address.classes" = some 3 by kernel_rfl).symm.trans h1)
    obtain rfl := Option.some.inj ((show (Tryz.prog.globals[3]?).map (·.type) = some 220 by kernel_rfl).symm.trans h2)
    have e := arrCells (dz := fun s => .lit (.string s)) (f := eS) gl_classes Tryz.underlying220 (show Tryz.prog.cellsOf 9 = 1 by kernel_rfl) krf rfl (fun _ _ z _ h => strCell Tryz.underlying9 z h) h4
    have := vrOf h1 h3
    rw [e] at this
    exact this
  have v4 : Vr W 4 (Lib.pow10Tab.map fun z => Value.int .u64 z) := by
    obtain ⟨g, t, cs, fuel, p, h1, h2, h3, h4⟩ := laidAt h 2 rfl
    obtain rfl := Option.some.inj ((show Tryz.prog.globalNamed "internal/strconv.uint64pow10" = some 4 by kernel_rfl).symm.trans h1)
    obtain rfl := Option.some.inj ((show (Tryz.prog.globals[4]?).map (·.type) = some 226 by kernel_rfl).symm.trans h2)
    have e := Lib.cells_of_tab (zs := Lib.pow10Tab) (k := .u64) Tryz.underlying226 Tryz.underlying205 krf krf h4
    have := vrOf h1 h3
    rw [e] at this
    exact this
  have v2 : ∃ m, Vr W 2 [.int .i64 m] := intVar (zero := #[.int .i64 0]) (t := 3) hsh (of_decide_eq_true krf) krf rfl krf krf Tryz.underlying3
  exact { gs := hs, specials := v0, kinds := v1, classes := v3, pow10 := v4, maxlen := v2 }
def laidCells (g : Nat) (o : Obj) : Obj :=
  match o with
  | .cells c t fz => .cells (match g with
    | 7 => #[.int .u8 0, .int .u8 1, .int .u8 28, .int .u8 2, .int .u8 29, .int .u8 14, .int .u8 24, .int .u8 3, .int .u8 30, .int .u8 22, .int .u8 20, .int .u8 15, .int .u8 25, .int .u8 17, .int .u8 4, .int .u8 8, .int .u8 31, .int .u8 27, .int .u8 13, .int .u8 23, .int .u8 21, .int .u8 19, .int .u8 16, .int .u8 7, .int .u8 26, .int .u8 12, .int .u8 18, .int .u8 6, .int .u8 11, .int .u8 5, .int .u8 10, .int .u8 9]
    | 8 => #[.int .u8 0, .int .u8 1, .int .u8 56, .int .u8 2, .int .u8 57, .int .u8 49, .int .u8 28, .int .u8 3, .int .u8 61, .int .u8 58, .int .u8 42, .int .u8 50, .int .u8 38, .int .u8 29, .int .u8 17, .int .u8 4, .int .u8 62, .int .u8 47, .int .u8 59, .int .u8 36, .int .u8 45, .int .u8 43, .int .u8 51, .int .u8 22, .int .u8 53, .int .u8 39, .int .u8 33, .int .u8 30, .int .u8 24, .int .u8 18, .int .u8 12, .int .u8 5, .int .u8 63, .int .u8 55, .int .u8 48, .int .u8 27, .int .u8 60, .int .u8 41, .int .u8 37, .int .u8 16, .int .u8 46, .int .u8 35, .int .u8 44, .int .u8 21, .int .u8 52, .int .u8 32, .int .u8 23, .int .u8 11, .int .u8 54, .int .u8 26, .int .u8 40, .int .u8 15, .int .u8 34, .int .u8 20, .int .u8 31, .int .u8 10, .int .u8 25, .int .u8 14, .int .u8 19, .int .u8 9, .int .u8 13, .int .u8 8, .int .u8 7, .int .u8 6]
    | 4 => #[.int .u64 1, .int .u64 10, .int .u64 100, .int .u64 1000, .int .u64 10000, .int .u64 100000, .int .u64 1000000, .int .u64 10000000, .int .u64 100000000, .int .u64 1000000000, .int .u64 10000000000, .int .u64 100000000000, .int .u64 1000000000000, .int .u64 10000000000000, .int .u64 100000000000000, .int .u64 1000000000000000, .int .u64 10000000000000000, .int .u64 100000000000000000, .int .u64 1000000000000000000, .int .u64 10000000000000000000]
    | 6 => #[.int .u8 128, .int .u8 191, .int .u8 160, .int .u8 191, .int .u8 128, .int .u8 159, .int .u8 144, .int .u8 191, .int .u8 128, .int .u8 143, .int .u8 0, .int .u8 0, .int .u8 0, .int .u8 0, .int .u8 0, .int .u8 0, .int .u8 0, .int .u8 0, .int .u8 0, .int .u8 0, .int .u8 0, .int .u8 0, .int .u8 0, .int .u8 0, .int .u8 0, .int .u8 0, .int .u8 0, .int .u8 0, .int .u8 0, .int .u8 0, .int .u8 0, .int .u8 0]
    | 3 => #[str [38, 61, 43, 36, 44, 59, 63, 47], str [91, 93, 47, 58, 38, 43, 36], str [91, 93, 47, 63, 58, 43, 36]]
    | 0 => #[str [67, 97, 108, 108, 45, 73, 68], str [67, 83, 101, 113], str [77, 73, 77, 69, 45, 86, 101, 114, 115, 105, 111, 110], str [77, 105, 110, 45, 83, 69], str [82, 65, 99, 107], str [82, 83, 101, 113], str [87, 87, 87, 45, 65, 117, 116, 104, 101, 110, 116, 105, 99, 97, 116, 101]]
    | 1 => #[str [70, 114, 111, 109], .int .i64 1, str [84, 111], .int .i64 1, str [67, 111, 110, 116, 97, 99, 116], .int .i64 1, str [82, 111, 117, 116, 101], .int .i64 1, str [82, 101, 99, 111, 114, 100, 45, 82, 111, 117, 116, 101], .int .i64 1, str [80, 97, 116, 104], .int .i64 1, str [83, 101, 114, 118, 105, 99, 101, 45, 82, 111, 117, 116, 101], .int .i64 1, str [82, 101, 102, 101, 114, 45, 84, 111], .int .i64 1, str [82, 101, 102, 101, 114, 114, 101, 100, 45, 66, 121], .int .i64 1, str [82, 101, 112, 108, 121, 45, 84, 111], .int .i64 1, str [86, 105, 97], .int .i64 2, str [67, 83, 101, 113], .int .i64 3, str [82, 65, 99, 107], .int .i64 4, str [67, 111, 110, 116, 101, 110, 116, 45, 76, 101, 110, 103, 116, 104], .int .i64 5, str [69, 120, 112, 105, 114, 101, 115], .int .i64 5, str [77, 97, 120, 45, 70, 111, 114, 119, 97, 114, 100, 115], .int .i64 5, str [77, 105, 110, 45, 69, 120, 112, 105, 114, 101, 115], .int .i64 5, str [82, 83, 101, 113], .int .i64 5, str [67, 111, 110, 116, 101, 110, 116, 45, 68, 105, 115, 112, 111, 115, 105, 116, 105, 111, 110], .int .i64 6, str [67, 111, 110, 116, 101, 110, 116, 45, 84, 121, 112, 101], .int .i64 6, str [69, 118, 101, 110, 116], .int .i64 6, str [77, 105, 110, 45, 83, 69], .int .i64 6, str [83, 101, 115, 115, 105, 111, 110, 45, 69, 120, 112, 105, 114, 101, 115], .int .i64 6, str [83, 117, 98, 115, 99, 114, 105, 112, 116, 105, 111, 110, 45, 83, 116, 97, 116, 101], .int .i64 6, str [65, 99, 99, 101, 112, 116], .int .i64 7, str [65, 108, 108, 111, 119], .int .i64 7, str [65, 108, 108, 111, 119, 45, 69, 118, 101, 110, 116, 115], .int .i64 7, str [80, 114, 111, 120, 121, 45, 82, 101, 113, 117, 105, 114, 101], .int .i64 7, str [82, 101, 113, 117, 105, 114, 101], .int .i64 7, str [83, 117, 112, 112, 111, 114, 116, 101, 100], .int .i64 7, str [85, 110, 115, 117, 112, 112, 111, 114, 116, 101, 100], .int .i64 7]
    | 5 => (Go.Pinned.utf8FirstZ.map fun (z : Nat) => Value.int .u8 (z : Int)).toArray
    | _ => c) t fz
  | o => o
noncomputable def laidWorld (os : Os) : World := { World.holding Tryz.prog os ⟨#[], #[], []⟩ with heap := (World.holding Tryz.prog os ⟨#[], #[], []⟩).heap.mapIdx laidCells }
theorem own : ownKnob Tryz.prog.godebug = none := by kernel_rfl
end Go.Proofs
set_option linter.unusedVariables false
set_option linter.unusedSimpArgs false
namespace Go.Proofs
open Go.Wk Go.Px Go.RowKit
open YtbfppjfgcjpknaaGreatDoor.Rows (uptoBulk uptoBulkAll)
theorem same_below {W W' : World} (h : Below W.heap.size W W') {p : MemPlace} (hp : p.block < W.heap.size) : W.sameAt W' p := by
  cases p with
  | cell b off =>
    show W'.cell? _ = W.cell? _
    unfold World.cell?
    rw [h.block b hp]
  | map b => exact h.block b hp
theorem carryAll {H : Type} {enc : TypeId × Value → H} {P : Program} {W W' : World} {sp : Nat → Bool} : ∀ {ts : List TypeId} {vs : List Value} {ds : List (DataW H)} {ps : List MemPlace}, DataW.TrodAll enc P W 0 sp true ts vs ds ps → (∀ p ∈ ps, W.sameAt W' p) → DataW.TrodAll enc P W' 0 sp true ts vs ds ps
  | [], [], [], _, h, _ => h
  | _ :: _, _ :: _, _ :: _, _, ⟨p, q, ⟨n, h1⟩, h2, e⟩, hs => ⟨p, q, ⟨n, DataW.trod_carry n _ _ _ h1 fun x hx => hs x (by rw [e]; exact List.mem_append_left _ hx)⟩, carryAll h2 fun x hx => hs x (by rw [e]; exact List.mem_append_right _ hx), e⟩
theorem again {H : Type} {enc : TypeId × Value → H} {P : Program} {W W' : World} {ts : List TypeId} {vs : List Value} {ds : List (DataW H)} {ps : List MemPlace} (hl : laidOutB P = true) (hm : mapsRowed P = true)
    (hf : ((List.range P.types.size).all fun t => match P.underlying t with | some (.slice e) => decide (0 < P.cellsOf e) | _ => true) = true) (hts : (ts.all fun t => decide (t < P.types.size)) = true)
    (h : DataW.TrodAll enc P W 0 (fun _ => true) true ts vs ds ps) (hb : Below W.heap.size W W') (hlt : ∀ p ∈ ps, p.block < W.heap.size) (sp : Nat → Bool) (hsp : ∀ p ∈ ps, sp p.block = true) : DataW.TrodAll enc P W' 0 sp true ts vs ds ps := by
  refine carryAll (DataW.TrodAll.respare (kids_rows hl hm) (slices_full_of P hf) (fun t ht => ?_) h hsp) fun p hp => same_below hb (hlt p hp)
  have := List.all_eq_true.1 hts t ht
  simpa using this
def Dec (P : Program) (w : World) {H : Type} (enc : TypeId × Value → H) {α : Type} (t : TypeId) (f : α → List Value) (good : α → Prop) (sz : α → Nat) : Prop :=
  ∀ (base : Nat) (sp : Nat → Bool) (hd : Bool) (fuel : Nat) (cs : List Value) (x : DataW H × List MemPlace), DataW.trod enc P w base sp hd fuel t cs = some x → ∃ z, cs = f z ∧ good z ∧ sz z ≤ uptoBulk x.1
section
variable {P : Program} {w : World} {H : Type} {enc : TypeId × Value → H} {t : TypeId}
theorem dec_string (ht : P.underlying t = some .string) : Dec P w enc t eS (fun s => s.length ≤ 9223372036854775807) (fun s => s.length) := by
  intro base sp hd fuel cs x h
  obtain ⟨s, rfl, hx, hs⟩ := DataW.trod_string ht h
  refine ⟨s.data.toList, rfl, lenOf hs, ?_⟩
  rw [hx]
  simp [uptoBulk]
theorem dec_bool (ht : P.underlying t = some .bool) : Dec P w enc t (fun b => [Value.bool b]) (fun _ => True) (fun _ => 0) := by
  intro base sp hd fuel cs x h
  cases fuel with
  | zero => simp [DataW.trod] at h
  | succ fuel =>
    unfold DataW.trod at h
    rw [ht] at h
    split at h <;> simp_all
theorem bulk_range {n : Nat} {D : Nat → DataW H} {α : Type} {sz : α → Nat} : ∀ (zs : List α), zs.length = n → (∀ i (h : i < zs.length), sz zs[i] ≤ uptoBulk (D i)) → (zs.map sz).sum ≤ uptoBulkAll ((List.range n).map D) := by
  intro zs
  induction zs generalizing n D with
  | nil => intro hn _; subst hn; simp
  | cons z zs ih =>
    intro hn h
    subst hn
    have h0 := h 0 (by simp)
    have := ih (n := zs.length) (D := fun i => D (i + 1)) rfl (fun i hi => by have := h (i + 1) (by simp; omega); simpa using this)
    rw [List.length_cons, List.range_succ_eq_map, List.map_cons, List.map_cons, List.sum_cons, uptoBulkAll, List.map_map]
    simp only [List.getElem_cons_zero] at h0
    exact Nat.add_le_add h0 this
theorem cells_app {base : Nat} {a : Addr} {n : Nat} {cs : List Value} (h : w.cells? base a n = some cs) : cs.length = n ∧ ∀ j v, cs[j]? = some v → w.cell? (a.add j) = some v := by
  obtain ⟨h1, h2, h3⟩ := World.cells?_some h
  exact ⟨h2, fun j v hj => (h3 j (by have := (List.getElem?_eq_some_iff.1 hj).1; omega)).trans hj⟩
theorem dec_slice {e : TypeId} {α : Type} {f : α → List Value} {good : α → Prop} {sz : α → Nat} (ht : P.underlying t = some (.slice e)) (he : Dec P w enc e f good sz) {base : Nat} {sp : Nat → Bool} {hd : Bool} {fuel : Nat} {cs : List Value} {x : DataW H × List MemPlace}
    (h : DataW.trod enc P w base sp hd fuel t cs = some x) : ∃ a n cap, ∃ zs : List α, cs = [.slice a n cap] ∧ n = zs.length ∧ n ≤ cap ∧ Rd w a (zs.flatMap f) ∧ (∀ z ∈ zs, good z) ∧ (zs.map sz).sum ≤ uptoBulk x.1 := by
  rcases Deep.open_slice ht h with ⟨rfl, rfl⟩ | ⟨a, len, cap, m, n, D, Pl, rfl, hb, hl, hm, hmm, rfl, hx⟩
  · exact ⟨none, 0, 0, [], rfl, rfl, Nat.le_refl _, fun j v hj => by simp at hj, fun z hz => by simp at hz, Nat.zero_le _⟩
  · have hlm : len ≤ m := by rw [hmm]; split <;> omega
    have key : ∀ k, k ≤ len → ∃ zs : List α, zs.length = k ∧ (∀ z ∈ zs, good z) ∧ (∀ i (hi : i < zs.length), sz zs[i] ≤ uptoBulk (D i)) ∧ (zs.flatMap f).length = k * P.cellsOf e ∧ ∀ j v, (zs.flatMap f)[j]? = some v → w.cell? (a.add j) = some v := by
      intro k
      induction k with
      | zero => intro _; exact ⟨[], rfl, fun z hz => by simp at hz, fun i hi => by simp at hi, by simp, fun j v hj => by simp at hj⟩
      | succ k ih =>
        intro hk
        obtain ⟨zs, h1, h2, h3, h4, h5⟩ := ih (by omega)
        obtain ⟨cs', hc, ht'⟩ := hx k (by omega)
        obtain ⟨z, rfl, hg, hs⟩ := he _ _ _ _ _ _ ht'
        obtain ⟨hcl, hcc⟩ := cells_app hc
        refine ⟨zs ++ [z], by simp [h1], fun y hy => ?_, fun i hi => ?_, ?_, fun j v hj => ?_⟩
        · rcases List.mem_append.1 hy with hy | hy
          · exact h2 y hy
          · rw [List.mem_singleton.1 hy]; exact hg
        · by_cases hik : i < zs.length
          · rw [List.getElem_append_left hik]; exact h3 i hik
          · have : i = k := by simp at hi; omega
            subst this
            simp only [h1.symm, List.getElem_concat_length]
            rw [h1]; exact hs
        · simp [h4, hcl, Nat.succ_mul]
        · rw [List.flatMap_append, List.flatMap_singleton] at hj
          by_cases hjl : j < (zs.flatMap f).length
          · rw [List.getElem?_append_left hjl] at hj; exact h5 j v hj
          · rw [List.getElem?_append_right (by omega), h4] at hj
            have := hcc _ _ hj
            rw [h4] at hjl
            have e : (a.add (k * P.cellsOf e)).add (j - k * P.cellsOf e) = a.add j := by
              rw [Go.Wk.add_add]
              congr 1
              omega
            rw [e] at this
            exact this
    obtain ⟨zs, h1, h2, h3, h4, h5⟩ := key len (Nat.le_refl _)
    refine ⟨some a, len, cap, zs, rfl, h1.symm, hl, fun j v hj => ⟨a, rfl, h5 j v hj⟩, h2, ?_⟩
    have := bulk_range (sz := sz) zs h1 h3
    simp only [uptoBulk]
    omega
def flatT : TypeDesc → Bool
  | .struct _ => false
  | .array _ _ => false
  | _ => true
theorem oneCellOf {base : Nat} {v x : Value} {ty : TypeDesc} (ht : P.underlying t = some ty) (hval : Value.okWide P w .any base t v) (hf : flatT ty = true) (e : v.cells.toList = [x]) : v = x := by
  cases v with
  | agg cs =>
    exfalso
    unfold Value.okWide Cell.okWide Cell.ok at hval
    rw [ht] at hval
    cases ty <;> first | (simp [flatT] at hf; done) | simp at hval
  | _ => simpa [Value.cells] using e
end
end Go.Proofs
set_option linter.unusedVariables false
set_option linter.unusedSimpArgs false
set_option maxRecDepth 100000
namespace Go.Wk
open Go.Px
open Int renaming toNat → zad
open List renaming length_append → zag, length_cons → zaf, length_nil → zas, length_singleton → zae, set → zak
open Option renaming bind_some → zaa
def FU : Nat := 18446744073709551616
theorem ahy : FU = 18446744073709551616 := rfl
theorem at_mid (p : Str) (c : UInt8) (l : Str) : at_ (p ++ c :: l) (p.length : Int) = c := by simp [at_]
theorem set_mid (p : Str) (c x : UInt8) (l : Str) : zak (p ++ c :: l) (zad (p.length : Int)) x = (p ++ [x]) ++ l := by simp
theorem alr (p : Str) (x : UInt8) : ((p.length : Int) + 1) = ((p ++ [x]).length : Int) := by simp
theorem ajn (a : Int) (h0 : 0 ≤ a) (h : a ≤ 9223372036854775807) : acj a := ⟨by omega, by omega⟩
theorem char_token (fu : Nat) (c : UInt8) : aih fu c = some (abi c) := by
  show aih 0 c = _
  revert c; exact afz _ (by decide +kernel)
theorem ref_char_token : ∀ c : UInt8, ajf FU c = some (abi c) := afz _ (by decide +kernel)
theorem tokEnd_lp {fu : Nat} (s : Str) (hs : s.length ≤ 9223372036854775807) (n : Nat) : ∀ (k fk : Nat), k + n = s.length → n < fk →
    aco fu s fk (k : Int) = some ((k + ajk abi (s.drop k) : Nat) : Int) := by
  induction n with
  | zero =>
    intro k fk hk hf
    obtain ⟨fk, rfl⟩ : ∃ m, fk = m + 1 := ⟨fk - 1, by omega⟩
    rw [aco, if_neg omg, List.drop_eq_nil_of_le omg]
    simp [ajk]
  | succ n ih =>
    intro k fk hk hf
    obtain ⟨fk, rfl⟩ : ∃ m, fk = m + 1 := ⟨fk - 1, by omega⟩
    rw [aco, if_pos omg, aac omg, char_token, aph s k omg]
    simp only [zaa]
    cases h : abi (at_ s k)
    · simp [ajk, h]
    · rw [cond_true]
      rw [aac (ajn _ omg omg)]
      have e : ((k : Int) + 1) = ((k + 1 : Nat) : Int) := rfl
      rw [e, ih (k + 1) fk omg omg]
      have e2 : ajk abi (at_ s k :: s.drop (k + 1)) = 1 + ajk abi (s.drop (k + 1)) := by simp [ajk, h, Nat.add_comm]
      rw [e2, Nat.add_assoc]
theorem refTokEnd_lp {fu : Nat} (hc : ∀ c, ajf fu c = some (abi c)) (s : Str) (hs : s.length ≤ 9223372036854775807) (n : Nat) : ∀ (k fk : Nat), k + n = s.length → n < fk →
    aff fu s fk (k : Int) = some ((k + ajk abi (s.drop k) : Nat) : Int) := by
  induction n with
  | zero =>
    intro k fk hk hf
    obtain ⟨fk, rfl⟩ : ∃ m, fk = m + 1 := ⟨fk - 1, by omega⟩
    rw [aff, if_neg omg, List.drop_eq_nil_of_le omg]
    simp [ajk]
  | succ n ih =>
    intro k fk hk hf
    obtain ⟨fk, rfl⟩ : ∃ m, fk = m + 1 := ⟨fk - 1, by omega⟩
    rw [aff, if_pos omg, aac omg, hc, aph s k omg]
    simp only [zaa]
    cases h : abi (at_ s k)
    · simp [ajk, h]
    · rw [cond_true]
      rw [aac (ajn _ omg omg)]
      have e : ((k : Int) + 1) = ((k + 1 : Nat) : Int) := rfl
      rw [e, ih (k + 1) fk omg omg]
      have e2 : ajk abi (at_ s k :: s.drop (k + 1)) = 1 + ajk abi (s.drop (k + 1)) := by simp [ajk, h, Nat.add_comm]
      rw [e2, Nat.add_assoc]
theorem skipTok_eq (s : Str) (hs : s.length ≤ 9223372036854775807) (i : Int) : aei FU s i = some ((aca abi s i : Nat) : Int) := by
  unfold aei aca
  have h : min (max i 0) (s.length : Int) = ((ajm i s.length : Nat) : Int) := by unfold ajm; omega
  have := clampN_le i s.length
  rw [h, tokEnd_lp s hs (s.length - ajm i s.length) _ FU omg (by rw [ahy]; omega)]
  rfl
theorem anl (s : Str) (hs : s.length ≤ 9223372036854775807) (i : Int) : afq FU s i = some ((aca abi s i : Nat) : Int) := by
  unfold afq aca
  have h : min (max i 0) (s.length : Int) = ((ajm i s.length : Nat) : Int) := by unfold ajm; omega
  have := clampN_le i s.length
  rw [h, refTokEnd_lp ref_char_token s hs (s.length - ajm i s.length) _ FU omg (by rw [ahy]; omega)]
  rfl
theorem tok_cases (s : Str) : (if s = [] then some false else some (decide (((aca abi s 0 : Nat) : Int) = (s.length : Int)))) = some (amd s) := by
  have := tok_iff s
  by_cases h : s = []
  · subst h; rfl
  · rw [if_neg h]; congr 1
    by_cases h2 : ((aca abi s 0 : Nat) : Int) = (s.length : Int)
    · rw [decide_eq_true h2, this.1 ⟨h, h2⟩]
    · rw [decide_eq_false h2]
      cases h3 : amd s
      · rfl
      · exact absurd (this.2 h3).2 h2
theorem token_eq (s : Str) (hs : s.length ≤ 9223372036854775807) : agf FU s = some (amd s) := by
  unfold agf aex
  rw [skipTok_eq s hs]
  simp only [zaa, Option.bind_fun_some]
  exact tok_cases s
theorem refToken_eq (s : Str) (hs : s.length ≤ 9223372036854775807) : ajp FU s = some (amd s) := by
  unfold ajp
  rw [anl s hs]
  simp only [zaa, Option.bind_fun_some]
  exact tok_cases s
theorem mid_lt (p : Str) (c : UInt8) (l : Str) : (0 : Int) ≤ (p.length : Int) ∧ (p.length : Int) < ((p ++ c :: l).length : Int) := by
  rw [zag, zaf]; omega
theorem lowerB_up (c : UInt8) (h1 : 65 ≤ c) (h2 : c ≤ 90) : c + 32 = akf c := by simp [akf, h1, h2]
theorem anm (c : UInt8) (h : ¬ (65 ≤ c ∧ c ≤ 90)) : akf c = c := by simp only [akf, if_neg h]
theorem refLower_lp {fu : Nat} (s : Str) (hs : s.length ≤ 9223372036854775807) (l : Str) : ∀ (p : Str) (fk : Nat), p.length + l.length = s.length → l.length < fk →
    afv fu s fk (p ++ l) (p.length : Int) = some (p ++ l.map akf) := by
  induction l with
  | nil =>
    intro p fk hk hf
    obtain ⟨fk, rfl⟩ : ∃ m, fk = m + 1 := ⟨fk - 1, by omega⟩
    simp only [zas] at hk
    rw [afv, if_neg omg]; rfl
  | cons c l ih0 =>
    intro p fk hk hf
    obtain ⟨fk, rfl⟩ : ∃ m, fk = m + 1 := ⟨fk - 1, by omega⟩
    simp only [zaf] at hk hf
    have hb := mid_lt p c l
    have ih := ih0 (p ++ [akf c]) fk (by rw [zag, zae]; omega) omg
    have ok : acj ((p.length : Int) + 1) := ajn _ omg omg
    rw [afv, if_pos omg]
    simp only [aac hb, at_mid, aac ok, set_mid]
    by_cases h1 : 65 ≤ c
    · by_cases h2 : c ≤ 90
      · simp only [if_pos h1, decide_eq_true h2, zaa, cond_true, lowerB_up c h1 h2]
        rw [alr p (akf c), ih]; simp
      · simp only [if_pos h1, decide_eq_false h2, zaa, cond_false]
        rw [anm c (fun h => h2 h.2)] at ih
        rw [alr p c, show p ++ c :: l = (p ++ [c]) ++ l by simp, ih]; simp [anm c (fun h => h2 h.2)]
    · simp only [if_neg h1, zaa, cond_false]
      rw [anm c (fun h => h1 h.1)] at ih
      rw [alr p c, show p ++ c :: l = (p ++ [c]) ++ l by simp, ih]; simp [anm c (fun h => h1 h.1)]
theorem ako (s : Str) (hs : s.length ≤ 9223372036854775807) : age FU s = some (adf s) := by
  unfold age
  have := refLower_lp (fu := FU) s hs s [] FU (by simp) (by rw [ahy]; omega)
  simp only [List.nil_append, zas, Int.natCast_zero, Int.cast_ofNat_Int] at this
  rw [this]; rfl
end Go.Wk
set_option linter.unusedVariables false
set_option linter.unusedSimpArgs false
set_option maxRecDepth 100000
namespace Go.Wk
open Go.Px
open Bool renaming and_eq_true → zau, not_true → zaq
open Go.Lib renaming trimLeftS → zaA
open List renaming all_cons → zaF, drop_length → zaD, length_append → zag, length_cons → zaf, length_drop → zav, length_nil → zas, length_singleton → zae
open Option renaming bind_some → zaa
open Sum renaming elim_inl → zaw
theorem gok {α : Type} {p : Prop} [Decidable p] {k : Option α} (h : p := by first | omega | exact ajn _ omg omg | (simp only [zag, zaf, zas, zae]; omega)) : gd p k = k := aac h
theorem akg (k : Nat) : (k : Int) + 1 = ((k + 1 : Nat) : Int) := rfl
theorem skip_gen (p : UInt8 → Bool) (s : Str) (F : Nat → Int → Option Int)
    (h0 : ∀ fk, F (fk + 1) (s.length : Int) = some (s.length : Int))
    (h1 : ∀ fk (k : Nat), k < s.length → p (at_ s k) = false → F (fk + 1) (k : Int) = some (k : Int))
    (h2 : ∀ fk (k : Nat), k < s.length → p (at_ s k) = true → F (fk + 1) (k : Int) = F fk ((k : Int) + 1)) (n : Nat) :
    ∀ (k fk : Nat), k + n = s.length → n < fk → F fk (k : Int) = some ((k + ajk p (s.drop k) : Nat) : Int) := by
  induction n with
  | zero =>
    intro k fk hk hf
    obtain ⟨fk, rfl⟩ : ∃ m, fk = m + 1 := ⟨fk - 1, by omega⟩
    obtain rfl : k = s.length := by omega
    rw [h0, zaD]; rfl
  | succ n ih =>
    intro k fk hk hf
    obtain ⟨fk, rfl⟩ : ∃ m, fk = m + 1 := ⟨fk - 1, by omega⟩
    rw [aph s k omg]
    cases h : p (at_ s k)
    · rw [h1 fk k omg h]; simp [ajk, h]
    · rw [h2 fk k omg h, akg, ih (k + 1) fk omg omg]
      have e2 : ajk p (at_ s k :: s.drop (k + 1)) = 1 + ajk p (s.drop (k + 1)) := by simp [ajk, h, Nat.add_comm]
      rw [e2, Nat.add_assoc]
theorem clamp_int (i : Int) (n : Nat) : min (max i 0) (n : Int) = ((ajm i n : Nat) : Int) := by unfold ajm; omega
theorem span_app (p : UInt8 → Bool) : ∀ (a b : Str), a.all p = true → ajk p (a ++ b) = a.length + ajk p b
  | [], b, _ => by simp
  | c :: a, b, h => by
    rw [zaF, zau] at h
    rw [List.cons_append, ajk, if_pos h.1, span_app p a b h.2, zaf]; omega
theorem span_no (p : UInt8 → Bool) (c : UInt8) (l : Str) (h : p c = false) : ajk p (c :: l) = 0 := by rw [ajk, if_neg (by simp [h])]
theorem char_blank (fu : Nat) (c : UInt8) : agy fu c = some (abo c) := by
  show agy 0 c = _
  revert c; exact afz _ (by decide +kernel)
theorem ref_blank (fu : Nat) (c : UInt8) : akx fu c = some (abo c) := by
  show akx 0 c = _
  revert c; exact afz _ (by decide +kernel)
theorem char_control (fu : Nat) (c : UInt8) : agj fu c = some (abz c) := by
  show agj 0 c = _
  revert c; exact afz _ (by decide +kernel)
theorem aqd (fu : Nat) (c : UInt8) : ahn fu c = some (abz c) := by
  show ahn 0 c = _
  revert c; exact afz _ (by decide +kernel)
theorem char_escaped (fu : Nat) (c : UInt8) : ahb fu c = some (aox c) := by
  show ahb 0 c = _
  revert c; exact afz _ (by decide +kernel)
theorem blanks_eq (s : Str) (hs : s.length ≤ 1048576) (i : Int) : ahg FU s i = some ((aca abo s i : Nat) : Int) := by
  unfold ahg afr
  have hc := clampN_le i s.length
  rw [clamp_int, skip_gen abo s (abu FU s) ?_ ?_ ?_ (s.length - ajm i s.length) _ FU omg (by rw [ahy]; omega)]
  · rfl
  · intro fk; rw [abu, if_neg omg]; rfl
  · intro fk k hk h; rw [abu, if_pos omg, gok, char_blank, h]; rfl
  · intro fk k hk h; rw [abu, if_pos omg, gok, char_blank, h, zaa, zaa, cond_true, gok]
theorem aly (s : Str) (hs : s.length ≤ 1048576) (i : Int) : agb FU s i = some ((aca abo s i : Nat) : Int) := by
  unfold agb
  have hc := clampN_le i s.length
  rw [clamp_int, skip_gen abo s (afk FU s) ?_ ?_ ?_ (s.length - ajm i s.length) _ FU omg (by rw [ahy]; omega)]
  · rfl
  · intro fk; rw [afk, if_neg omg]; rfl
  · intro fk k hk h; rw [afk, if_pos omg, gok, ref_blank, h]; rfl
  · intro fk k hk h; rw [afk, if_pos omg, gok, ref_blank, h, zaa, zaa, cond_true, gok]
def rdw (p : UInt8 → Bool) (l : Str) : Str := (l.reverse.dropWhile p).reverse
theorem rdw_cons (p : UInt8 → Bool) (c : UInt8) (l : Str) : rdw p (c :: l) = if rdw p l = [] then (if p c then [] else [c]) else c :: rdw p l := by
  unfold rdw
  rw [List.reverse_cons, List.dropWhile_append]
  cases h : l.reverse.dropWhile p with
  | nil => cases hp : p c <;> simp [hp]
  | cons a t => simp
theorem rdw_snoc (p : UInt8 → Bool) (l : Str) (c : UInt8) : rdw p (l ++ [c]) = if p c then rdw p l else l ++ [c] := by
  unfold rdw
  rw [List.reverse_append, List.reverse_singleton, List.singleton_append, List.dropWhile_cons]
  split <;> simp
theorem rdw_comm (p : UInt8 → Bool) : ∀ l : Str, (rdw p l).dropWhile p = rdw p (l.dropWhile p)
  | [] => rfl
  | c :: l => by
    have ih := rdw_comm p l
    cases hp : p c
    · have e : List.dropWhile p (c :: l) = c :: l := by simp [hp]
      rw [e, rdw_cons]
      split <;> simp [hp]
    · have e : List.dropWhile p (c :: l) = l.dropWhile p := by simp [hp]
      rw [e, ← ih, rdw_cons]
      split
      · rename_i h; simp [h, hp]
      · simp [hp]
def apx (s : Str) : Str := rdw abo (s.dropWhile abo)
theorem blank_set : (fun c => ([32, 9] : Str).contains c) = abo := by
  funext c; revert c; exact afz _ (by decide +kernel)
theorem trimS_eq (s : Str) : Lib.trimS s [32, 9] = apx s := by
  unfold Lib.trimS zaA Lib.trimRightS apx
  rw [blank_set]; exact rdw_comm abo s
theorem trim_eq (s : Str) (hs : s.length ≤ 1048576) : ahe FU s = some (apx s) := by
  unfold ahe
  rw [gok, aac (by decide), trimS_eq]
theorem dropWhile_span (p : UInt8 → Bool) : ∀ l : Str, l.drop (ajk p l) = l.dropWhile p
  | [] => rfl
  | c :: l => by
    have ih := dropWhile_span p l
    cases hp : p c
    · simp [ajk, hp]
    · simp [ajk, hp, ih]
theorem skipL_zero (p : UInt8 → Bool) (s : Str) : aca p s 0 = ajk p s := by
  have h0 : ajm 0 s.length = 0 := by unfold ajm; omega
  unfold aca; rw [h0]; simp
theorem refTrim_lp (s : Str) (y : Int) (hs : (s.drop y.toNat).length ≤ 1048576) (n : Nat) : ∀ fk, n ≤ (s.drop y.toNat).length → n < fk →
    ∃ m : Nat, m ≤ n ∧ aha FU s y fk (n : Int) = some (m : Int) ∧ (s.drop y.toNat).take m = rdw abo ((s.drop y.toNat).take n) := by
  induction n with
  | zero =>
    intro fk hn hf
    obtain ⟨fk, rfl⟩ : ∃ m, fk = m + 1 := ⟨fk - 1, by omega⟩
    exact ⟨0, Nat.le_refl _, by rw [aha, if_neg omg]; rfl, rfl⟩
  | succ n ih =>
    intro fk hn hf
    obtain ⟨fk, rfl⟩ : ∃ m, fk = m + 1 := ⟨fk - 1, by omega⟩
    have e : (((n + 1 : Nat) : Int) - 1) = (n : Int) := by omega
    rw [aha, if_pos omg, e, gok, gok, ref_blank, gok, take_snoc _ n omg, rdw_snoc]
    cases h : abo (at_ (s.drop y.toNat) (n : Int))
    · exact ⟨n + 1, Nat.le_refl _, rfl, by simp [take_snoc _ n (show n < (s.drop y.toNat).length by omega)]⟩
    · obtain ⟨m, h1, h2, h3⟩ := ih fk omg omg
      exact ⟨m, by omega, h2, by simpa using h3⟩
theorem refTrim_eq (s : Str) (hs : s.length ≤ 1048576) : anq FU s = some (apx s) := by
  unfold anq
  have hl := aeu abo s 0
  have hd : (s.drop (((aca abo s 0 : Nat) : Int)).toNat).length ≤ 1048576 := by rw [zav]; omega
  obtain ⟨m, h1, h2, h3⟩ := refTrim_lp s _ hd _ FU (Nat.le_refl _) (by rw [ahy]; omega)
  rw [aly s hs, zaa, gok, h2, zaa, gok]
  have e : ((m : Nat) : Int).toNat = m := by omega
  rw [e, h3, List.take_length]
  have e2 : (((aca abo s 0 : Nat) : Int)).toNat = ajk abo s := by rw [skipL_zero]; omega
  rw [e2, dropWhile_span]; rfl
theorem rdw_len (p : UInt8 → Bool) (l : Str) : (rdw p l).length ≤ l.length := by
  unfold rdw; have := aqf p l.reverse; simpa using this
theorem trimL_len (s : Str) : (apx s).length ≤ s.length := Nat.le_trans (rdw_len _ _) (aqf _ _)
def unqL : Str → Nat → Str → Str × Int × UInt8
  | [], k, _ => ([], (k : Int), 6)
  | [c], k, acc => if c = 34 then (acc, ((k + 1 : Nat) : Int), 0) else if c = 92 then ([], ((k + 1 : Nat) : Int), 6) else if abz c then ([], (k : Int), 5) else ([], ((k + 1 : Nat) : Int), 6)
  | c :: d :: r, k, acc =>
    if c = 34 then (acc, ((k + 1 : Nat) : Int), 0)
    else if c = 92 then (if aox d then unqL r (k + 2) (acc ++ [d]) else ([], (k : Int), 5))
    else if abz c then ([], (k : Int), 5) else unqL (d :: r) (k + 1) (acc ++ [c])
theorem unqL_cons (c : UInt8) (l : Str) (k : Nat) (acc : Str) : unqL (c :: l) k acc =
    if c = 34 then (acc, ((k + 1 : Nat) : Int), 0)
    else if c = 92 then (if l = [] then ([], ((k + 1 : Nat) : Int), 6) else if aox (at_ l 0) then unqL (l.drop 1) (k + 2) (acc ++ [at_ l 0]) else ([], (k : Int), 5))
    else if abz c then ([], (k : Int), 5) else unqL l (k + 1) (acc ++ [c]) := by
  cases l with
  | nil => simp [unqL]
  | cons d r => simp [unqL, at_]
def unqP8 (s : Str) (i : Int) : Str × Int × UInt8 :=
  if i < 0 ∨ (s.length : Int) < i then ([], 0, 2)
  else if i = (s.length : Int) ∨ at_ s i ≠ 34 then ([], i, 5)
  else unqL (s.drop (i.toNat + 1)) (i.toNat + 1) []
theorem at_drop1 (s : Str) (k : Nat) : at_ (s.drop k) 0 = at_ s (k : Int) := by simp [at_]
theorem aoz (s : Str) (k : Nat) : s.drop k = [] ↔ s.length ≤ k := by rw [List.drop_eq_nil_iff]
def unqFin (s : Str) (j : ((Str × Int) ⊕ (Str × Int × UInt8))) : Option (Str × Int × UInt8) :=
  Sum.elim (fun (v : (Str × Int)) => (if (s.length : Int) ≤ v.2 then some (([] : Str), (s.length : Int), (6 : UInt8)) else (gd (acj (v.2 + (1 : Int))) <| some (v.1, v.2 + (1 : Int), (0 : UInt8))))) (fun q => some q) j
theorem unq_lp (s : Str) (hs : s.length ≤ 1048576) (n : Nat) : ∀ (k fk : Nat) (acc : Str), s.length - k ≤ n → n < fk → k ≤ s.length → acc.length ≤ k →
    ((aef FU s fk acc (k : Int)).bind (unqFin s)) = some (unqL (s.drop k) k acc) := by
  induction n with
  | zero =>
    intro k fk acc hn hf hk ha
    obtain ⟨fk, rfl⟩ : ∃ m, fk = m + 1 := ⟨fk - 1, by omega⟩
    obtain rfl : k = s.length := by omega
    rw [aef, if_neg omg, zaD, zaa]
    unfold unqFin
    rw [zaw, if_pos (by simp)]; rfl
  | succ n ih =>
    intro k fk acc hn hf hk ha
    obtain ⟨fk, rfl⟩ : ∃ m, fk = m + 1 := ⟨fk - 1, by omega⟩
    by_cases hl : k < s.length
    · rw [aph s k hl, unqL_cons, aef, if_pos omg, gok]
      by_cases h1 : at_ s (k : Int) = 34
      · rw [if_pos h1, if_pos h1, zaa]
        unfold unqFin
        rw [zaw, if_neg (by simp; omega), aac (ajn _ (by simp; omega) (by simp; omega))]; rfl
      · rw [if_neg h1, if_neg h1]
        by_cases h2 : at_ s (k : Int) = 92
        · rw [if_pos h2, if_pos h2, gok]
          by_cases h3 : k + 1 = s.length
          · rw [if_pos omg, if_pos ((aoz s (k + 1)).2 omg), zaa]
            unfold unqFin
            rw [Sum.elim_inr, h3]
          · rw [if_neg omg, if_neg (fun h => h3 (by have := (aoz s (k + 1)).1 h; omega)), gok, gok, char_escaped, zaa, at_drop1, akg]
            cases h4 : aox (at_ s ((k + 1 : Nat) : Int))
            · rfl
            · rw [zaq, cond_false, if_pos rfl, gok, gok, gok, gok, List.drop_drop, akg,
                ih (k + 1 + 1) fk _ omg omg omg (by simp; omega)]
        · rw [if_neg h2, if_neg h2, char_control, zaa]
          cases h4 : abz (at_ s (k : Int))
          · rw [cond_false, if_neg (by decide), gok, gok, gok, akg, ih (k + 1) fk _ omg omg omg (by simp; omega)]
          · rfl
    · obtain rfl : k = s.length := by omega
      rw [aef, if_neg omg, zaD, zaa]
      unfold unqFin
      rw [zaw, if_pos (by simp)]; rfl
theorem unquote_eq (s : Str) (hs : s.length ≤ 1048576) (i : Int) : akq FU s i = some (unqP8 s i) := by
  unfold akq unqP8
  by_cases h1 : i < 0
  · rw [if_pos h1, if_pos (show i < 0 ∨ (s.length : Int) < i from .inl h1)]; rfl
  · rw [if_neg h1, zaa]
    by_cases h2 : (s.length : Int) < i
    · rw [decide_eq_true h2, if_pos (show i < 0 ∨ (s.length : Int) < i from .inr h2)]; rfl
    · rw [decide_eq_false h2, cond_false, if_neg (show ¬ (i < 0 ∨ (s.length : Int) < i) by omega)]
      by_cases h3 : i = (s.length : Int)
      · rw [if_pos h3, if_pos (show i = (s.length : Int) ∨ at_ s i ≠ 34 from .inl h3)]; rfl
      · rw [if_neg h3, gok, zaa]
        by_cases h4 : at_ s i = 34
        · rw [decide_eq_true h4, zaq, cond_false, if_neg (by simp [h3, h4]), gok]
          obtain ⟨k, rfl⟩ : ∃ k : Nat, i = (k : Int) := ⟨i.toNat, by omega⟩
          exact unq_lp s hs s.length (k + 1) FU [] omg (by rw [ahy]; omega) omg (by simp)
        · rw [decide_eq_false h4, if_pos (show i = (s.length : Int) ∨ at_ s i ≠ 34 from .inr h4)]; rfl
end Go.Wk
set_option linter.unusedVariables false
set_option linter.unusedSimpArgs false
set_option maxRecDepth 100000
namespace Go.Wk
open Go.Px
open Bool renaming not_true → zaq
open Go.Lib renaming join → zaB, trimLeftS → zaA
open List renaming all_cons → zaF, append_nil → zay, drop_length → zaD, eq_nil_of_length_eq_zero → zaE, length_append → zag, length_cons → zaf, length_drop → zav, length_nil → zas, length_singleton → zae
open Option renaming bind_some → zaa
open Sum renaming elim_inl → zaw
theorem all_gen {β : Type} (p : UInt8 → Bool) (s : Str) (r : β) (F : Nat → Int → Option (Unit ⊕ β))
    (h0 : ∀ fk, F (fk + 1) (s.length : Int) = some (.inl ()))
    (h1 : ∀ fk (k : Nat), k < s.length → p (at_ s k) = false → F (fk + 1) (k : Int) = some (.inr r))
    (h2 : ∀ fk (k : Nat), k < s.length → p (at_ s k) = true → F (fk + 1) (k : Int) = F fk ((k : Int) + 1)) (n : Nat) :
    ∀ (k fk : Nat), k + n = s.length → n < fk → F fk (k : Int) = some (if (s.drop k).all p = true then .inl () else .inr r) := by
  induction n with
  | zero =>
    intro k fk hk hf
    obtain ⟨fk, rfl⟩ : ∃ m, fk = m + 1 := ⟨fk - 1, by omega⟩
    obtain rfl : k = s.length := by omega
    rw [h0, zaD]; rfl
  | succ n ih =>
    intro k fk hk hf
    obtain ⟨fk, rfl⟩ : ∃ m, fk = m + 1 := ⟨fk - 1, by omega⟩
    rw [aph s k omg, zaF]
    cases h : p (at_ s k)
    · rw [h1 fk k omg h]; rfl
    · rw [h2 fk k omg h, akg, ih (k + 1) fk omg omg]; simp
theorem all_gen0 {β : Type} (p : UInt8 → Bool) (s : Str) (hs : s.length ≤ 1048576) (r : β) (F : Nat → Int → Option (Unit ⊕ β))
    (h0 : ∀ fk, F (fk + 1) (s.length : Int) = some (.inl ()))
    (h1 : ∀ fk (k : Nat), k < s.length → p (at_ s k) = false → F (fk + 1) (k : Int) = some (.inr r))
    (h2 : ∀ fk (k : Nat), k < s.length → p (at_ s k) = true → F (fk + 1) (k : Int) = F fk ((k : Int) + 1)) : F FU 0 = some (if s.all p = true then .inl () else .inr r) := by
  have := all_gen p s r F h0 h1 h2 s.length 0 FU omg (by rw [ahy]; omega)
  rw [List.drop_zero] at this
  exact this
theorem adLower_lp (s : Str) (hs : s.length ≤ 1048576) (l : Str) : ∀ (p : Str) (fk : Nat), p.length + l.length = s.length → l.length < fk →
    aev FU s fk (p ++ l) (p.length : Int) = some (p ++ l.map akf) := by
  induction l with
  | nil =>
    intro p fk hk hf
    obtain ⟨fk, rfl⟩ : ∃ m, fk = m + 1 := ⟨fk - 1, by omega⟩
    simp only [zas] at hk
    rw [aev, if_neg omg]; rfl
  | cons c l ih0 =>
    intro p fk hk hf
    obtain ⟨fk, rfl⟩ : ∃ m, fk = m + 1 := ⟨fk - 1, by omega⟩
    simp only [zaf] at hk hf
    have hb := mid_lt p c l
    have ih := ih0 (p ++ [akf c]) fk (by rw [zag, zae]; omega) omg
    have ok : acj ((p.length : Int) + 1) := ajn _ omg omg
    rw [aev, if_pos omg]
    simp only [aac hb, at_mid, aac ok, set_mid]
    by_cases h1 : 65 ≤ c
    · by_cases h2 : c ≤ 90
      · simp only [if_pos h1, decide_eq_true h2, zaa, cond_true, lowerB_up c h1 h2]
        rw [alr p (akf c), ih]; simp
      · simp only [if_pos h1, decide_eq_false h2, zaa, cond_false]
        rw [anm c (fun h => h2 h.2)] at ih
        rw [alr p c, show p ++ c :: l = (p ++ [c]) ++ l by simp, ih]; simp [anm c (fun h => h2 h.2)]
    · simp only [if_neg h1, zaa, cond_false]
      rw [anm c (fun h => h1 h.1)] at ih
      rw [alr p c, show p ++ c :: l = (p ++ [c]) ++ l by simp, ih]; simp [anm c (fun h => h1 h.1)]
theorem adLower_eq (s : Str) (hs : s.length ≤ 1048576) : adp FU s = some (adf s) := by
  unfold adp
  have := adLower_lp s hs s [] FU (by simp) (by rw [ahy]; omega)
  simp only [List.nil_append, zas, Int.natCast_zero, Int.cast_ofNat_Int] at this
  rw [this]; rfl
theorem ad_letter (c : UInt8) : aia FU c = some (letterB c) := by revert c; exact afz _ (by decide +kernel)
theorem ad_digit (c : UInt8) : agh FU c = some (ags c) := by revert c; exact afz _ (by decide +kernel)
theorem rf_letter (c : UInt8) : aln FU c = some (letterB c) := by revert c; exact afz _ (by decide +kernel)
theorem rf_digit (c : UInt8) : ahd FU c = some (ags c) := by revert c; exact afz _ (by decide +kernel)
theorem ad_hex' : ∀ c : UInt8, (aik FU c).map (·.2) = some (hexB c) := afz _ (by decide +kernel)
theorem ad_hex (c : UInt8) : ∃ v, aik FU c = some (v, hexB c) := by
  obtain ⟨⟨v, b⟩, h1, h2⟩ := Option.map_eq_some_iff.1 (ad_hex' c)
  exact ⟨v, by rw [h1, ← h2]⟩
theorem rf_hex' : ∀ c : UInt8, (aol FU c).map (fun n => decide (n < 0)) = some (!hexB c) := afz _ (by decide +kernel)
theorem rf_hex (c : UInt8) : ∃ n, aol FU c = some n ∧ decide (n < 0) = !hexB c := by
  obtain ⟨n, h1, h2⟩ := Option.map_eq_some_iff.1 (rf_hex' c)
  exact ⟨n, h1, h2⟩
def psp (y : Str) (l : List Str) : List Str := match l with | x :: r => (y ++ x) :: r | [] => [y]
theorem psp_nil (l : List Str) (h : l ≠ []) : psp [] l = l := by cases l with | nil => exact absurd rfl h | cons _ _ => rfl
theorem aqb (c : UInt8) (l : Str) : spl c (c :: l) = [] :: spl c l := by rw [spl, if_pos rfl]
theorem aqa (c b : UInt8) (l : Str) (h : b ≠ c) : spl c (b :: l) = psp [b] (spl c l) := by
  rw [spl, if_neg h]
  cases spl c l <;> rfl
theorem psp_psp (y z : Str) (l : List Str) (h : l ≠ []) : psp y (psp z l) = psp (y ++ z) l := by
  cases l with | nil => exact absurd rfl h | cons _ _ => simp [psp]
theorem spl_lens (c : UInt8) : ∀ s : Str, ((spl c s).map List.length).sum + (spl c s).length = s.length + 1
  | [] => rfl
  | b :: l => by
    have ih := spl_lens c l
    by_cases h : b = c
    · subst h
      rw [aqb]
      simp only [List.map_cons, List.sum_cons, zas, zaf]
      omega
    · rw [aqa c b l h]
      cases hx : spl c l with
      | nil => exact absurd hx (spl_ne c l)
      | cons x r =>
        rw [hx] at ih
        simp only [psp, List.map_cons, List.sum_cons, zaf, zag, zas] at ih ⊢
        omega
theorem sub_snoc (s : Str) (f k : Nat) (hf : f ≤ k) (h : k < s.length) : sub s (f : Int) ((k + 1 : Nat) : Int) = sub s (f : Int) (k : Int) ++ [at_ s (k : Int)] := by
  unfold sub
  have e1 : ((k + 1 : Nat) : Int).toNat - ((f : Nat) : Int).toNat = (k - f) + 1 := by omega
  have e2 : ((k : Nat) : Int).toNat - ((f : Nat) : Int).toNat = k - f := by omega
  have e3 : ((f : Nat) : Int).toNat = f := by omega
  rw [e1, e2, e3, take_snoc _ (k - f) (by rw [zav]; omega)]
  congr 2
  simp only [at_, List.getD_eq_getElem?_getD, List.getElem?_drop]
  congr 2
  omega
theorem sub_self' (s : Str) (k : Nat) : sub s (k : Int) (k : Int) = [] := by unfold sub; simp
theorem pieces_lp (s : Str) (c : UInt8) (hs : s.length ≤ 1048576) (n : Nat) : ∀ (k f fk : Nat) (out : List Str), k + n = s.length → n < fk → f ≤ k → out.length ≤ k →
    ∃ out' f' : _, aer FU s c fk out (f : Int) (k : Int) = some (out', ((f' : Nat) : Int)) ∧ f' ≤ s.length ∧ out'.length ≤ s.length ∧ out' ++ [s.drop f'] = out ++ psp (sub s (f : Int) (k : Int)) (spl c (s.drop k)) := by
  induction n with
  | zero =>
    intro k f fk out hk hn hf ho
    obtain ⟨fk, rfl⟩ : ∃ m, fk = m + 1 := ⟨fk - 1, by omega⟩
    obtain rfl : k = s.length := by omega
    refine ⟨out, f, by rw [aer, if_neg omg], by omega, by omega, ?_⟩
    rw [zaD]
    simp only [spl, psp, zay]
    congr 2
    unfold sub
    rw [List.take_of_length_le (by rw [zav]; omega)]
    simp
  | succ n ih =>
    intro k f fk out hk hn hf ho
    obtain ⟨fk, rfl⟩ : ∃ m, fk = m + 1 := ⟨fk - 1, by omega⟩
    have hlt : k < s.length := by omega
    rw [aer, if_pos omg, gok, aph s k hlt]
    by_cases hc : at_ s (k : Int) = c
    · rw [if_pos hc, aac omg, aac (by simp only [zae]; omega), gok, gok, akg]
      obtain ⟨o', f', h1, h2, h3, h4⟩ := ih (k + 1) (k + 1) fk (out ++ [sub s (f : Int) (k : Int)]) omg omg omg (by simp only [zag, zae]; omega)
      refine ⟨o', f', h1, h2, h3, ?_⟩
      rw [h4, hc, aqb, sub_self', psp_nil _ (spl_ne c _)]
      simp [psp]
    · rw [if_neg hc, gok, akg]
      obtain ⟨o', f', h1, h2, h3, h4⟩ := ih (k + 1) f fk out omg omg omg omg
      refine ⟨o', f', h1, h2, h3, ?_⟩
      rw [h4, aqa c _ _ hc, psp_psp _ _ _ (spl_ne c _), sub_snoc s f k hf hlt]
theorem pieces_eq (s : Str) (c : UInt8) (hs : s.length ≤ 1048576) : ajz FU s c = some (spl c s) := by
  obtain ⟨o', f', h1, h2, h3, h4⟩ := pieces_lp s c hs s.length 0 0 FU [] omg (by rw [ahy]; omega) omg (by simp)
  unfold ajz
  have h1' : aer FU s c FU [] (0 : Int) (0 : Int) = some (o', ((f' : Nat) : Int)) := h1
  rw [h1', zaa, aac (by simp only; omega), aac (by simp only [zae]; omega)]
  have e : ((f' : Nat) : Int).toNat = f' := by omega
  simp only [e]
  rw [h4, List.drop_zero, List.nil_append]
  have e2 : sub s ((0 : Nat) : Int) ((0 : Nat) : Int) = [] := sub_self' s 0
  rw [e2, psp_nil _ (spl_ne c s)]
def stripZ : Str → Str
  | [] => []
  | [c] => [c]
  | c :: d :: l => if c = 48 then stripZ (d :: l) else c :: d :: l
theorem low48 : ∀ c : UInt8, (akf c == 48) = (c == 48) := afz _ (by decide +kernel)
theorem trim48 (c : UInt8) (l : Str) : zaA (adf (c :: l)) [48] = if c = 48 then zaA (adf l) [48] else adf (c :: l) := by
  unfold zaA adf
  rw [List.map_cons, List.dropWhile_cons]
  have h : ([48] : Str).contains (akf c) = (c == 48) := by rw [← low48 c]; simp [List.contains_cons]; rfl
  rw [h]
  by_cases hc : c = 48
  · rw [if_pos hc, if_pos (by simpa using hc)]
  · rw [if_neg hc, if_neg (by simpa using hc)]
theorem strip_grpN : ∀ g : Str, g ≠ [] → adf (stripZ g) = grpN g
  | [], h => absurd rfl h
  | [c], _ => by
    have e : grpN [c] = if zaA (adf [c]) [48] = [] then [48] else zaA (adf [c]) [48] := rfl
    rw [e, trim48]
    by_cases hc : c = 48
    · subst hc; rfl
    · rw [if_neg hc, if_neg (by simp [adf])]; rfl
  | c :: d :: l, _ => by
    have ih := strip_grpN (d :: l) (by simp)
    have e : grpN (c :: d :: l) = if zaA (adf (c :: d :: l)) [48] = [] then [48] else zaA (adf (c :: d :: l)) [48] := rfl
    rw [e, trim48, stripZ]
    by_cases hc : c = 48
    · simp only [if_pos hc]; rw [ih]; rfl
    · simp only [if_neg hc]; rw [if_neg (by simp [adf])]
theorem group_lp1 (n : Nat) : ∀ (g : Str) (fk : Nat), g.length ≤ n → n < fk → agr FU fk g = some (stripZ g) := by
  induction n with
  | zero =>
    intro g fk hg hf
    obtain ⟨fk, rfl⟩ : ∃ m, fk = m + 1 := ⟨fk - 1, by omega⟩
    obtain rfl : g = [] := zaE omg
    rw [agr, if_neg (by simp)]; rfl
  | succ n ih =>
    intro g fk hg hf
    obtain ⟨fk, rfl⟩ : ∃ m, fk = m + 1 := ⟨fk - 1, by omega⟩
    rw [agr]
    match g, hg with
    | [], _ => rw [if_neg (by simp)]; rfl
    | [c], _ => rw [if_neg (by simp)]; rfl
    | c :: d :: l, hg =>
      have hl : (1 : Int) < ((c :: d :: l).length : Int) := by simp only [zaf]; omega
      rw [if_pos hl, aac omg, zaa, stripZ]
      have ha : at_ (c :: d :: l) (0 : Int) = c := rfl
      rw [ha]
      by_cases hc : c = 48
      · rw [decide_eq_true hc, cond_true, aac omg, if_pos hc]
        exact ih (d :: l) fk (by simp only [zaf] at hg ⊢; omega) omg
      · rw [decide_eq_false hc, cond_false, if_neg hc]
theorem strip_len : ∀ g : Str, (stripZ g).length ≤ g.length
  | [] => Nat.le_refl _
  | [c] => Nat.le_refl _
  | c :: d :: l => by
    rw [stripZ]
    split
    · have := strip_len (d :: l); simp only [zaf] at this ⊢; omega
    · exact Nat.le_refl _
theorem group_eq (g : Str) (hg : g.length ≤ 1048576) : ami FU g = some (if amb g then (grpN g, true) else ([], false)) := by
  unfold ami
  by_cases h1 : (g.length : Int) < 1
  · rw [if_pos h1, grpOk_no1 g (.inl h1)]; rfl
  · rw [if_neg h1, zaa]
    by_cases h2 : 4 < (g.length : Int)
    · rw [decide_eq_true h2, grpOk_no1 g (.inr h2)]; rfl
    · rw [decide_eq_false h2, cond_false]
      have hlp := all_gen0 hexB g hg (([] : Str), false) (afu FU g)
        (fun fk => by rw [afu, if_neg omg])
        (fun fk k hk h => by
          obtain ⟨n, h3, h4⟩ := rf_hex (at_ g k)
          rw [h] at h4
          rw [afu, if_pos omg, gok, h3, zaa, if_pos (of_decide_eq_true h4)])
        (fun fk k hk h => by
          obtain ⟨n, h3, h4⟩ := rf_hex (at_ g k)
          rw [h] at h4
          rw [afu, if_pos omg, gok, h3, zaa, if_neg (of_decide_eq_false h4), gok])
      rw [hlp, zaa]
      cases hx : g.all hexB with
      | false => rw [grpOk_no2 g hx]; rfl
      | true =>
        rw [grpOk_yes g h1 h2 hx, if_pos rfl, zaw, group_lp1 g.length g FU (Nat.le_refl _) (by rw [ahy]; omega), zaa,
          ako _ (by have := strip_len g; omega), strip_grpN g (by intro e; subst e; simp at h1)]
        rfl
theorem join_snoc (p : List Str) (x : Str) : zaB (p ++ [x]) [58] = (if p = [] then [] else zaB p [58] ++ [58]) ++ x := by
  induction p with
  | nil => simp [zaB, List.intercalate]
  | cons a p ih =>
    rw [if_neg (by simp)]
    cases p with
    | nil => simp [zaB, List.intercalate, List.intersperse]
    | cons b p =>
      have e : ∀ (u : Str) (v : Str) (l : List Str), zaB (u :: v :: l) [58] = u ++ (58 :: zaB (v :: l) [58]) := fun u v l => by
        simp [zaB, List.intercalate, List.intersperse]
      rw [List.cons_append, List.cons_append, e, ← List.cons_append, ih, if_neg (by simp), e]
      simp
theorem groups_lp (X : List Str) (hX : X.length ≤ 1048577) (hx : ∀ x ∈ X, x.length ≤ 1048576) (q : List Str) : ∀ (p : List Str) (fk : Nat), X = p ++ q → q.length < fk → p.all amb = true →
    afh FU X fk (zaB (p.map grpN) [58]) (p.length : Int) = some (if X.all amb = true then .inl (zaB (X.map grpN) [58]) else .inr ([], 0, false)) := by
  induction q with
  | nil =>
    intro p fk h hf hp
    obtain ⟨fk, rfl⟩ : ∃ m, fk = m + 1 := ⟨fk - 1, by omega⟩
    rw [zay] at h
    subst h
    rw [afh, if_neg omg, if_pos hp]
  | cons a q ih =>
    intro p fk h hf hp
    obtain ⟨fk, rfl⟩ : ∃ m, fk = m + 1 := ⟨fk - 1, by omega⟩
    have hl := congrArg List.length h
    simp only [zag, zaf] at hl hf
    have hb : (0 : Int) ≤ (p.length : Int) ∧ (p.length : Int) < (X.length : Int) := by omega
    have he : el X (p.length : Int) = a := by rw [h]; simp [el]
    have ha : a.length ≤ 1048576 := hx a (by rw [h]; simp)
    rw [afh, if_pos hb.2, aac hb, aac hb, he, group_eq a ha, zaa]
    cases hg : amb a with
    | false =>
      have : X.all amb = false := by rw [h, List.all_append, zaF, hg]; simp
      rw [this]; rfl
    | true =>
      have hn := grpN_len a hg
      have hj := join_len [58] 4 (p.map grpN) (fun x hx' => by
        obtain ⟨y, hy, rfl⟩ := List.mem_map.1 hx'
        exact grpN_len y (List.all_eq_true.1 hp y hy))
      simp only [List.length_map, zae] at hj
      have := ih (p ++ [a]) fk (by rw [h]; simp) omg (by rw [List.all_append, hp]; simpa using hg)
      rw [List.map_append, List.map_singleton, join_snoc] at this
      rw [show ((p ++ [a]).length : Int) = (p.length : Int) + 1 by simp] at this
      simp only [if_true, zaq, cond_false]
      cases p with
      | nil =>
        simp only [List.map_nil, zas, if_true, List.nil_append] at this ⊢
        rw [if_neg (by simp), zaa, aac (by simp only [zaB]; simp; omega), gok]
        exact this
      | cons b p =>
        rw [if_neg (by simp)] at this
        simp only [zaf] at hj hl hb
        rw [if_pos (by simp only [zaf]; omega), aac (by simp only [zae]; omega), zaa, aac (by simp only [zag, zae]; omega), aac (ajn _ omg (by simp only [zaf]; omega))]
        exact this
theorem rfGroups_eq (s : Str) (hs : s.length ≤ 1048576) : aip FU s = some (zaB (aio s).1 [58], ((aio s).1.length : Int), (aio s).2) := by
  unfold aip
  by_cases h : s = []
  · rw [if_pos h, grpL0_nil s h]; rfl
  · have hb := apz 58 s
    have := groups_lp (spl 58 s) omg (fun x hx => Nat.le_trans (hb.2 x hx) hs) (spl 58 s) [] FU (by simp) (by rw [ahy]; omega) rfl
    have this' : afh FU (spl 58 s) FU [] (0 : Int) = _ := this
    rw [if_neg h, apo s h, pieces_eq s 58 hs, zaa, this', zaa]
    cases ha : (spl 58 s).all amb with
    | false => rw [grpList_no s ha]; rfl
    | true => rw [grpList_yes s ha, if_pos rfl, zaw, List.length_map]
end Go.Wk
set_option linter.unusedVariables false
set_option linter.unusedSimpArgs false
set_option maxRecDepth 100000
namespace Go.Wk
open Go.Px
open Bool renaming false_or → zaG, not_false → zax, not_true → zaq, true_and → zao
open Go.Lib renaming cut → zaC, index → zap, join → zaB, trimLeftS → zaA
open Int renaming toNat → zad
open List renaming drop_length → zaD, length_append → zag, length_cons → zaf, length_drop → zav, length_nil → zas, length_singleton → zae, length_take → zah, set → zak
open Option renaming bind_some → zaa
open Sum renaming elim_inl → zaw
theorem cnd2 {α β : Type} (v : α) (b : Bool) (A B : β) : (bif !(v, b).2 then A else B) = bif !b then A else B := rfl
theorem glist_lp1 (l : List Str) (x : Int) (hg : (el l x).length ≤ 1048576) : adb FU l x FU 0 = some (if (el l x).all hexB = true then .inl () else .inr ([], false)) := by
  refine all_gen0 hexB (el l x) hg (([] : List Str), false) (adb FU l x) ?_ ?_ ?_
  · intro fk; rw [adb, if_neg omg]
  · intro fk k hk h
    obtain ⟨v, h3⟩ := ad_hex (at_ (el l x) k)
    rw [h] at h3
    rw [adb, if_pos omg, gok, h3]
    simp only [zaa, zax, cond_true]
  · intro fk k hk h
    obtain ⟨v, h3⟩ := ad_hex (at_ (el l x) k)
    rw [h] at h3
    rw [adb, if_pos omg, gok, h3, zaa, cnd2, zaq, cond_false, gok]
theorem glist_lp (s : Str) (hs : s.length ≤ 1048576) (n : Nat) : ∀ (k fk : Nat), k + n = (spl 58 s).length → n < fk → ((spl 58 s).take k).all amb = true →
    adc FU s fk (aow (spl 58 s) k) (k : Int) = some (if (spl 58 s).all amb = true then .inl ((spl 58 s).map grpN) else .inr ([], false)) := by
  have hb := apz 58 s
  induction n with
  | zero =>
    intro k fk hk hf hp
    obtain ⟨fk, rfl⟩ : ∃ m, fk = m + 1 := ⟨fk - 1, by omega⟩
    obtain rfl : k = (spl 58 s).length := by omega
    rw [List.take_length] at hp
    rw [adc, if_neg omg, if_pos hp, grpMix_all]
  | succ n ih =>
    intro k fk hk hf hp
    obtain ⟨fk, rfl⟩ : ∃ m, fk = m + 1 := ⟨fk - 1, by omega⟩
    have hlt : k < (spl 58 s).length := by omega
    have hml := grpMix_len (spl 58 s) k omg
    have hin : (0 : Int) ≤ (k : Int) ∧ (k : Int) < ((aow (spl 58 s) k).length : Int) := by omega
    have he := grp_el (spl 58 s) k hlt
    have hel : (el (spl 58 s) (k : Int)).length ≤ 1048576 := Nat.le_trans (hb.2 _ (el_mem' _ k hlt)) hs
    have fail : amb (el (spl 58 s) (k : Int)) = false → (spl 58 s).all amb = false := fun h => all_false_at' amb _ k hlt h
    rw [adc, if_pos omg, aac hin, aac hin, he]
    by_cases h1 : ((el (spl 58 s) (k : Int)).length : Int) < 1
    · rw [if_pos h1, fail (grpOk_no1 _ (.inl h1))]; rfl
    · rw [if_neg h1, zaa]
      by_cases h2 : 4 < ((el (spl 58 s) (k : Int)).length : Int)
      · rw [decide_eq_true h2, fail (grpOk_no1 _ (.inr h2))]; rfl
      · rw [decide_eq_false h2, cond_false, glist_lp1 _ _ (by rw [he]; exact hel), he, zaa]
        cases hx : (el (spl 58 s) (k : Int)).all hexB with
        | false => rw [fail (grpOk_no2 _ hx)]; rfl
        | true =>
          have hok := grpOk_yes _ h1 h2 hx
          rw [if_pos rfl, zaw, adLower_eq _ hel, zaa, aac (by simp [adf]; omega), aac (by decide)]
          have step : ∀ v, v = grpN (el (spl 58 s) (k : Int)) → adc FU s fk (zak (aow (spl 58 s) k) (zad (k : Int)) v) ((k : Int) + 1) = some (if (spl 58 s).all amb = true then .inl ((spl 58 s).map grpN) else .inr ([], false)) := fun v hv => by
            rw [← grp_step (spl 58 s) k v hlt hv, akg]
            exact ih (k + 1) fk omg omg (all_take_snoc' amb _ k hlt hp hok)
          have ok : acj ((k : Int) + 1) := ajn _ omg omg
          by_cases hz : zaA (adf (el (spl 58 s) (k : Int))) [48] = []
          · rw [if_pos hz, aac hin, aac hin, zaa, zaw, aac ok, step [48] (grpN_zero _ hz)]
          · rw [if_neg hz, aac hin, aac hin, zaa, zaw, aac ok, step (zaA (adf (el (spl 58 s) (k : Int))) [48]) (grpN_else _ hz)]
theorem glist_eq (s : Str) (hs : s.length ≤ 1048576) : aew FU s = some (ahw s) := by
  have hb := apz 58 s
  have := glist_lp s hs (spl 58 s).length 0 FU omg (by rw [ahy]; omega) rfl
  rw [grpMix_zero] at this
  have this' : adc FU s FU (spl 58 s) (0 : Int) = _ := this
  unfold aew
  rw [aac omg, this', zaa]
  cases ha : (spl 58 s).all amb with
  | false => rw [grpList_no s ha]; rfl
  | true => rw [grpList_yes s ha]; rfl
theorem glist0 (x : Str) (hx : x.length ≤ 1048576) : (if x = ([] : Str) then some (([] : List Str), true) else ((aew FU x).bind fun (y49 : ((List Str) × Bool)) => some (y49.1, y49.2))) = some (aio x) := by
  by_cases h : x = []
  · rw [if_pos h, grpL0_nil x h]
  · rw [if_neg h, apo x h, glist_eq x hx]; rfl
theorem grpL0_bd (x : Str) : (aio x).1.length ≤ x.length + 1 ∧ ∀ y ∈ (aio x).1, y.length ≤ 4 := by
  unfold aio
  split
  · simp
  · exact grpList_bd x
theorem joinL0 (x : Str) (h : x.length ≤ 1048576) : (zaB (aio x).1 [58]).length ≤ 6000000 := by
  have h1 := grpL0_bd x
  have h2 := join_len [58] 4 (aio x).1 h1.2
  simp only [zae] at h2
  omega
theorem adGroups_eq (s : Str) : ajx FU s = some (grpsP s) := by
  unfold ajx grpsP
  by_cases h39 : 39 < s.length
  · rw [if_pos omg, if_pos h39]
  · rw [if_neg omg, if_neg h39, aac omg]
    have hc := cut_len s [58, 58]
    cases hd : (zaC s [58, 58]).2.2 with
    | false =>
      have h1 := grpList_bd s
      rw [zax, cond_true, if_pos rfl, glist_eq s omg, zaa, aac ⟨by omega, join_grp s omg⟩]
      cases h2 : (ahw s).2 <;> rfl
    | true =>
      rw [zaq, cond_false, glist0 _ omg, zaa, glist0 _ omg, zaa, if_neg (show ¬ (true = false) by decide)]
      have b1 := grpL0_bd (zaC s [58, 58]).1
      have b2 := grpL0_bd (zaC s [58, 58]).2.1
      have j1 := joinL0 (zaC s [58, 58]).1 omg
      have j2 := joinL0 (zaC s [58, 58]).2.1 omg
      cases h1 : (aio (zaC s [58, 58]).1).2
      · simp
      · cases h2 : (aio (zaC s [58, 58]).2.1).2
        · simp
        · rw [zaq, cond_false, cond_false, gok, zaa, Bool.or_false, zaG]
          by_cases h7 : 7 < ((aio (zaC s [58, 58]).1).1.length : Int) + ((aio (zaC s [58, 58]).2.1).1.length : Int)
          · rw [decide_eq_true h7, if_pos rfl]; rfl
          · rw [decide_eq_false h7, if_neg (by decide), cond_false, aac ⟨by omega, by omega⟩, aac (by simp only [zaf, zas]; omega), aac ⟨by omega, by omega⟩, aac (by simp only [zag, zaf, zas]; omega)]
def sixP (a b : Str) : Str × Bool := if (!(aio a).2 || !(aio b).2 || decide (7 < ((aio a).1.length : Int) + ((aio b).1.length : Int))) = true then ([], false) else (zaB (aio a).1 [58] ++ [58, 58] ++ zaB (aio b).1 [58], true)
theorem index_ge (p : Str) : ∀ l : Str, -1 ≤ zap l p
  | [] => by unfold zap; split <;> omega
  | b :: l => by
    have := index_ge p l
    rw [zap]
    split
    · omega
    · split
      · omega
      · omega
theorem index_cons (p : Str) (b : UInt8) (l : Str) : zap (b :: l) p = if p.isPrefixOf (b :: l) = true then 0 else if zap l p = -1 then -1 else zap l p + 1 := by
  rw [zap]
  split
  · rfl
  · by_cases h : zap l p = -1
    · rw [if_pos h, if_pos (by simpa using h)]
    · rw [if_neg h, if_neg (by simpa using h)]
theorem pfx2 (s : Str) (k : Nat) (h : k < s.length) : ([58, 58] : Str).isPrefixOf (at_ s (k : Int) :: s.drop (k + 1)) = (decide (k + 1 < s.length) && (at_ s (k : Int) == 58) && (at_ s ((k + 1 : Nat) : Int) == 58)) := by
  by_cases h2 : k + 1 < s.length
  · rw [aph s (k + 1) h2, decide_eq_true h2]
    simp only [List.isPrefixOf, zao, Bool.and_true]
    rw [Bool.beq_comm, Bool.beq_comm (a := (58 : UInt8))]
  · rw [List.drop_eq_nil_of_le omg, decide_eq_false h2]
    simp [List.isPrefixOf]
theorem six_lp (s : Str) (hs : s.length ≤ 1048576) (n : Nat) : ∀ (k fk : Nat), k + n = s.length → n < fk →
    agc FU s fk (k : Int) = some (if zap (s.drop k) [58, 58] = -1 then .inl () else .inr (sixP (s.take (k + (zap (s.drop k) [58, 58]).toNat)) (s.drop (k + (zap (s.drop k) [58, 58]).toNat + 2)))) := by
  induction n with
  | zero =>
    intro k fk hk hf
    obtain ⟨fk, rfl⟩ : ∃ m, fk = m + 1 := ⟨fk - 1, by omega⟩
    obtain rfl : k = s.length := by omega
    rw [agc, gok, if_neg omg, zaD]
    rfl
  | succ n ih =>
    intro k fk hk hf
    obtain ⟨fk, rfl⟩ : ∃ m, fk = m + 1 := ⟨fk - 1, by omega⟩
    have hlt : k < s.length := by omega
    rw [agc, gok, aph s k hlt, index_cons, pfx2 s k hlt]
    have step : agc FU s fk ((k : Int) + 1) = some (if (if zap (s.drop (k + 1)) [58, 58] = -1 then (-1 : Int) else zap (s.drop (k + 1)) [58, 58] + 1) = -1 then .inl () else .inr (sixP (s.take (k + (if zap (s.drop (k + 1)) [58, 58] = -1 then (-1 : Int) else zap (s.drop (k + 1)) [58, 58] + 1).toNat)) (s.drop (k + (if zap (s.drop (k + 1)) [58, 58] = -1 then (-1 : Int) else zap (s.drop (k + 1)) [58, 58] + 1).toNat + 2)))) := by
      rw [akg, ih (k + 1) fk omg omg]
      have hg := index_ge [58, 58] (s.drop (k + 1))
      by_cases hm : zap (s.drop (k + 1)) [58, 58] = -1
      · rw [if_pos hm, if_pos hm]; rfl
      · rw [if_neg hm, if_neg hm, if_neg omg]
        have e : k + 1 + (zap (s.drop (k + 1)) [58, 58]).toNat = k + (zap (s.drop (k + 1)) [58, 58] + 1).toNat := by omega
        rw [e]
    by_cases h2 : k + 1 < s.length
    · rw [if_pos omg, gok, decide_eq_true h2, zao]
      by_cases h3 : at_ s (k : Int) = 58
      · rw [if_pos h3, gok, aac omg, zaa, akg]
        have e3 : (at_ s (k : Int) == 58) = true := by simpa using h3
        rw [e3, zao]
        by_cases h4 : at_ s ((k + 1 : Nat) : Int) = 58
        · have e4 : (at_ s ((k + 1 : Nat) : Int) == 58) = true := by simpa using h4
          have et : ((k : Nat) : Int).toNat = k := by omega
          have et2 : ((k : Int) + 2).toNat = k + 2 := by omega
          rw [decide_eq_true h4, zaq, cond_false, e4, if_pos rfl, aac omg, et, rfGroups_eq _ (by rw [zah]; omega), zaa, gok, aac omg, et2, rfGroups_eq _ (by rw [zav]; omega), zaa]
          simp only [Int.toNat_zero, Nat.add_zero, if_neg (show ¬ ((0 : Int) = -1) by decide)]
          unfold sixP
          have j1 := joinL0 (s.take k) (by rw [zah]; omega)
          have j2 := joinL0 (s.drop (k + 2)) (by rw [zav]; omega)
          have b1 := (grpL0_bd (s.take k)).1
          have b2 := (grpL0_bd (s.drop (k + 2))).1
          rw [zah] at b1
          rw [zav] at b2
          cases h5 : (aio (s.take k)).2
          · simp
          · cases h6 : (aio (s.drop (k + 2))).2
            · simp
            · simp only [zaq, cond_false, zaG]
              rw [gok, zaa]
              by_cases h7 : 7 < ((aio (s.take k)).1.length : Int) + ((aio (s.drop (k + 2))).1.length : Int)
              · rw [decide_eq_true h7, cond_true, if_pos rfl]
              · rw [decide_eq_false h7, cond_false, if_neg (by decide), aac (by simp only [zaf, zas]; omega), aac (by simp only [zag, zaf, zas]; omega)]
        · have e4 : (at_ s ((k + 1 : Nat) : Int) == 58) = false := by simpa using h4
          rw [decide_eq_false h4, zax, cond_true, e4, if_neg (show ¬ (false = true) by decide), gok, ← akg, step]
      · have e3 : (at_ s (k : Int) == 58) = false := by simpa using h3
        rw [if_neg h3, zaa, cond_true, e3, Bool.false_and, if_neg (show ¬ (false = true) by decide), gok, step]
    · rw [if_neg omg, decide_eq_false h2, Bool.false_and, Bool.false_and, if_neg (show ¬ (false = true) by decide)]
      have : zap (s.drop (k + 1)) [58, 58] = -1 := by rw [List.drop_eq_nil_of_le omg]; rfl
      rw [if_pos this]; rfl
theorem cut_eq (s p : Str) : zaC s p = if zap s p = -1 then (s, [], false) else (s.take (zap s p).toNat, s.drop ((zap s p).toNat + p.length), true) := by
  unfold zaC
  have := index_ge p s
  by_cases h : zap s p = -1
  · rw [if_pos h, if_neg omg]
  · rw [if_neg h, if_pos omg]
def sixQ (s : Str) : Str × Bool := if (zaC s [58, 58]).2.2 = false then (zaB (aio s).1 [58], (aio s).2 && decide (((aio s).1.length : Int) = 8)) else sixP (zaC s [58, 58]).1 (zaC s [58, 58]).2.1
theorem six_eq (s : Str) (hs : s.length ≤ 1048576) : aok FU s = some (sixQ s) := by
  have := six_lp s hs s.length 0 FU omg (by rw [ahy]; omega)
  rw [List.drop_zero, Nat.zero_add] at this
  have this' : agc FU s FU (0 : Int) = _ := this
  unfold aok sixQ
  rw [this', zaa, cut_eq]
  by_cases h : zap s [58, 58] = -1
  · rw [if_pos h, if_pos h, zaw, rfGroups_eq s hs, zaa, if_pos rfl]
    cases hb : (aio s).2 <;> rfl
  · rw [if_neg h, if_neg h, if_neg (by simp)]; rfl
end Go.Wk
set_option linter.unusedVariables false
set_option linter.unusedSimpArgs false
set_option maxRecDepth 100000
namespace Go.Wk
open Go.Px
open Bool renaming false_or → zaG, not_false → zax, not_true → zaq, true_and → zao
open Go.Lib renaming index → zap
open List renaming all_cons → zaF, append_nil → zay, drop_length → zaD, eq_nil_of_length_eq_zero → zaE, length_append → zag, length_cons → zaf, length_drop → zav, length_singleton → zae, length_take → zah
open Option renaming bind_some → zaa
open Sum renaming elim_inl → zaw
theorem dig_sub (c : UInt8) (h : ags c = true) : (c - 48).toNat = c.toNat - 48 ∧ c.toNat ≤ 57 ∧ 48 ≤ c.toNat := by
  have hc := (digitB_iff c).1 h
  have h48 : (48 : UInt8) ≤ c := by rw [UInt8.le_iff_toNat_le]; show 48 ≤ c.toNat; omega
  exact ⟨by rw [UInt8.toNat_sub_of_le _ _ h48]; rfl, by omega, by omega⟩
theorem nums_lp1 (s : Str) (x : Int) (hg : (el (spl 46 s) x).length ≤ 15) (l : Str) : ∀ (p : Str) (fk : Nat), el (spl 46 s) x = p ++ l → l.length < fk → p.all ags = true →
    aed FU s x fk (aie p : Int) (p.length : Int) = some (if l.all ags = true then .inl (aie (el (spl 46 s) x) : Int) else .inr false) := by
  induction l with
  | nil =>
    intro p fk h hf hp
    obtain ⟨fk, rfl⟩ : ∃ m, fk = m + 1 := ⟨fk - 1, by omega⟩
    rw [zay] at h
    rw [aed, if_neg (by rw [h]; omega), h]; rfl
  | cons c l ih =>
    intro p fk h hf hp
    obtain ⟨fk, rfl⟩ : ∃ m, fk = m + 1 := ⟨fk - 1, by omega⟩
    have hl := congrArg List.length h
    simp only [zag, zaf] at hl hf
    have hb : (0 : Int) ≤ (p.length : Int) ∧ (p.length : Int) < ((el (spl 46 s) x).length : Int) := by omega
    have ha : at_ (el (spl 46 s) x) (p.length : Int) = c := by rw [h, at_mid]
    have hv := decVal_lt 14 p omg hp
    rw [aed, if_pos hb.2, aac hb, ha, ad_digit, zaa, zaF]
    cases hc : ags c with
    | false => rfl
    | true =>
      have hd := dig_sub c hc
      rw [zaq, cond_false, hd.1, aac (ajn _ omg omg), aac hb, aac (ajn _ omg omg), aac (ajn _ omg omg), zao]
      have e : (10 : Int) * (aie p : Int) + ((c.toNat - 48 : Nat) : Int) = (aie (p ++ [c]) : Int) := by rw [decVal_snoc]; omega
      rw [e, alr p c]
      exact ih (p ++ [c]) fk (by rw [h]; simp) omg (by rw [List.all_append, hp]; simpa using hc)
theorem nums_lp (s : Str) (hs : s.length ≤ 15) (n : Nat) : ∀ (k fk : Nat), k + n = (spl 46 s).length → n < fk →
    aee FU s fk (k : Int) = some (if ((spl 46 s).drop k).all octOk = true then .inl () else .inr false) := by
  have hb := apz 46 s
  induction n with
  | zero =>
    intro k fk hk hf
    obtain ⟨fk, rfl⟩ : ∃ m, fk = m + 1 := ⟨fk - 1, by omega⟩
    obtain rfl : k = (spl 46 s).length := by omega
    rw [aee, if_neg omg, zaD]; rfl
  | succ n ih =>
    intro k fk hk hf
    obtain ⟨fk, rfl⟩ : ∃ m, fk = m + 1 := ⟨fk - 1, by omega⟩
    have hlt : k < (spl 46 s).length := by omega
    have hin : (0 : Int) ≤ (k : Int) ∧ (k : Int) < ((spl 46 s).length : Int) := by omega
    have hel : (el (spl 46 s) (k : Int)).length ≤ 15 := Nat.le_trans (hb.2 _ (el_mem' _ k hlt)) hs
    have hd : (spl 46 s).drop k = el (spl 46 s) (k : Int) :: (spl 46 s).drop (k + 1) := by rw [el_nat _ _ hlt, List.drop_eq_getElem_cons hlt]
    have h1 := nums_lp1 s (k : Int) hel (el (spl 46 s) (k : Int)) [] FU (by simp) (by rw [ahy]; omega) rfl
    have h1' : aed FU s (k : Int) FU (0 : Int) (0 : Int) = _ := h1
    rw [aee, if_pos omg, aac hin, aac hin, h1', zaa, hd, zaF]
    cases hx : (el (spl 46 s) (k : Int)).all ags with
    | false => rw [octOk_no1 _ hx]; rfl
    | true =>
      have hv := decVal_lt 15 _ hel hx
      rw [if_pos rfl, zaw]
      by_cases h2 : el (spl 46 s) (k : Int) = []
      · rw [if_pos h2, octOk_no2 _ (.inl (.inl h2))]; rfl
      · rw [if_neg h2]
        by_cases h3 : 255 < (aie (el (spl 46 s) (k : Int)) : Int)
        · rw [if_pos h3, octOk_no2 _ (.inl (.inr h3))]; rfl
        · rw [if_neg h3, aac (ajn _ omg omg), zaa]
          by_cases h4 : el (spl 46 s) (k : Int) = Lib.itoa (aie (el (spl 46 s) (k : Int)) : Int)
          · rw [decide_eq_true h4, zaq, cond_false, zaa, zaw, aac (ajn _ omg omg), octOk_yes _ hx h2 h3 h4, zao]
            exact ih (k + 1) fk omg omg
          · rw [decide_eq_false h4, octOk_no2 _ (.inr h4)]; rfl
theorem adNumbers_eq (s : Str) : ajg FU s = some (numsP s) := by
  unfold ajg
  by_cases h : 15 < (s.length : Int)
  · rw [if_pos h, numsP_long s h]
  · have hb := apz 46 s
    have := nums_lp s omg (spl 46 s).length 0 FU omg (by rw [ahy]; omega)
    rw [List.drop_zero] at this
    have this' : aee FU s FU (0 : Int) = _ := this
    rw [if_neg h, aac omg, this', zaa]
    cases ha : (spl 46 s).all octOk with
    | false => rw [numsP_no s ha]; rfl
    | true => rw [numsP_fin s h ha]; rfl
def labB (c : UInt8) : Bool := letterB c || ags c || c == 45
def apn (x : Str) : Bool := decide (1 ≤ x.length) && decide (x.length ≤ 63) && !(at_ x 0 == 45) && !(at_ x ((x.length : Int) - 1) == 45) && x.all labB
def labW (x : Str) : Bool := x.any (fun c => !ags c)
def badL (x : Str) : Bool := decide ((x.length : Int) < 1) || decide (63 < (x.length : Int)) || (at_ x 0 == 45) || (at_ x ((x.length : Int) - 1) == 45)
theorem lab_bad (x : Str) : apn x = (!badL x && x.all labB) := by
  unfold apn badL
  have e1 : decide (1 ≤ x.length) = !decide ((x.length : Int) < 1) := by rw [Bool.eq_iff_iff]; simp; omega
  have e2 : decide (x.length ≤ 63) = !decide (63 < (x.length : Int)) := by rw [Bool.eq_iff_iff]; simp; omega
  rw [e1, e2]
  simp [Bool.not_or, Bool.and_assoc]
theorem badL_eq (x : Str) (hx : x.length ≤ 1048576) : (if (x.length : Int) < (1 : Int) then some true else (if (63 : Int) < (x.length : Int) then some true else (gd (0 ≤ (0 : Int) ∧ (0 : Int) < (x.length : Int)) <| (if (at_ x (0 : Int)) = (45 : UInt8) then some true else (gd (acj ((x.length : Int) - (1 : Int))) <| (gd (0 ≤ ((x.length : Int) - (1 : Int)) ∧ ((x.length : Int) - (1 : Int)) < (x.length : Int)) <| some (decide ((at_ x ((x.length : Int) - (1 : Int))) = (45 : UInt8))))))))) = some (badL x) := by
  unfold badL
  by_cases h1 : (x.length : Int) < 1
  · rw [if_pos h1, decide_eq_true h1]; rfl
  · rw [if_neg h1, decide_eq_false h1, zaG]
    by_cases h2 : 63 < (x.length : Int)
    · rw [if_pos h2, decide_eq_true h2]; rfl
    · rw [if_neg h2, decide_eq_false h2, zaG, aac omg]
      by_cases h3 : at_ x 0 = 45
      · rw [if_pos h3, show (at_ x 0 == 45) = true by simpa using h3]; rfl
      · rw [if_neg h3, show (at_ x 0 == 45) = false by simpa using h3, zaG, aac (ajn _ omg omg), aac omg]; rfl
theorem ad_nlab (c : UInt8) : ((aia FU c).bind fun (y365 : Bool) => (bif (!y365) then ((agh FU c).bind fun (y371 : Bool) => (bif (!y371) then some (!decide (c = (45 : UInt8))) else some false)) else some false)) = some (!labB c) := by
  rw [ad_letter, ad_digit]
  unfold labB
  by_cases h : c = 45
  · subst h; rfl
  · rw [show (c == 45) = false by simpa using h, decide_eq_false h]
    cases letterB c <;> cases ags c <;> rfl
theorem named_lp1 (x : Str) (hx : x.length ≤ 1048576) (r : Bool) (l : Str) : ∀ (p : Str) (fk : Nat) (w : Bool), x = p ++ l → l.length < fk →
    (l.all labB = true → aby FU x r fk (p.length : Int) w = some (0, w || labW l, r)) ∧ (l.all labB = false → ∃ b, aby FU x r fk (p.length : Int) w = some (1, b, false)) := by
  induction l with
  | nil =>
    intro p fk w h hf
    obtain ⟨fk, rfl⟩ : ∃ m, fk = m + 1 := ⟨fk - 1, by omega⟩
    rw [zay] at h
    refine ⟨fun _ => ?_, fun h => by cases h⟩
    rw [aby, if_neg (by rw [h]; omega)]; simp [labW]
  | cons c l ih =>
    intro p fk w h hf
    obtain ⟨fk, rfl⟩ : ∃ m, fk = m + 1 := ⟨fk - 1, by omega⟩
    have hl := congrArg List.length h
    simp only [zag, zaf] at hl hf
    have hb : (0 : Int) ≤ (p.length : Int) ∧ (p.length : Int) < (x.length : Int) := by omega
    have ha : at_ x (p.length : Int) = c := by rw [h, at_mid]
    have ok : acj ((p.length : Int) + 1) := ajn _ omg omg
    have hih := ih (p ++ [c]) fk (w || !ags c) (by rw [h]; simp) omg
    rw [← alr p c] at hih
    rw [aby, if_pos hb.2, aac hb, ha, ad_nlab, zaa, zaF]
    cases hc : labB c with
    | false => exact ⟨fun h => by simp at h, fun _ => ⟨w, by rw [zax, cond_true]⟩⟩
    | true =>
      rw [zaq, cond_false, zao]
      have e : (bif w then gd (acj ((p.length : Int) + 1)) (aby FU x r fk ((p.length : Int) + 1) true) else (agh FU c).bind fun (y388 : Bool) => gd (acj ((p.length : Int) + 1)) (aby FU x r fk ((p.length : Int) + 1) (!y388))) = aby FU x r fk ((p.length : Int) + 1) (w || !ags c) := by
        cases w with
        | true => rw [cond_true, aac ok, Bool.true_or]
        | false => rw [cond_false, ad_digit, zaa, aac ok, zaG]
      rw [e]
      refine ⟨fun h => ?_, fun h => hih.2 h⟩
      rw [hih.1 h]
      simp [labW, Bool.or_assoc]
theorem named_rd (x : Str) (hx : x.length ≤ 1048576) (w r : Bool) : (apn x = true → aeg FU x w r = some (0, w || labW x, r)) ∧ (apn x = false → ∃ b, aeg FU x w r = some (1, b, false)) := by
  have hlp := named_lp1 x hx r x [] FU w (by simp) (by rw [ahy]; omega)
  unfold aeg
  rw [badL_eq x hx, zaa, lab_bad]
  cases hb : badL x with
  | true => exact ⟨fun h => by simp at h, fun _ => ⟨w, by rw [cond_true]⟩⟩
  | false =>
    rw [cond_false, zax, zao]
    exact hlp
theorem index1 (c : UInt8) (f : Str) : (zap f [c] = -1 ∧ spl c f = [f]) ∨ (0 ≤ zap f [c] ∧ zap f [c] < (f.length : Int) ∧ spl c f = f.take (zap f [c]).toNat :: spl c (f.drop ((zap f [c]).toNat + 1))) := by
  induction f with
  | nil => exact .inl ⟨rfl, rfl⟩
  | cons b l ih =>
    rw [index_cons]
    have e : ([c] : Str).isPrefixOf (b :: l) = (c == b) := by simp [List.isPrefixOf]
    rw [e]
    by_cases h : b = c
    · subst h
      right
      rw [if_pos (by simp), aqb]
      refine ⟨Int.le_refl _, by simp only [zaf]; omega, by simp⟩
    · rw [if_neg (by simpa using fun x => h x.symm), aqa c b l h]
      rcases ih with ⟨h1, h2⟩ | ⟨h1, h2, h3⟩
      · left; rw [if_pos h1, h2]; exact ⟨rfl, rfl⟩
      · right
        rw [if_neg omg, h3]
        have e1 : (zap l [c] + 1).toNat = (zap l [c]).toNat + 1 := by omega
        refine ⟨by omega, by simp only [zaf]; omega, ?_⟩
        rw [e1]
        simp [psp]
theorem seq_lp (n : Nat) : ∀ (f : Str) (fk : Nat) (w r : Bool), f.length ≤ n → n < fk → n ≤ 1048576 →
    ∃ w' f' k, ((abd FU [46] 0 fk w r f).bind fun (j115 : ((Bool × Bool × Str) ⊕ (Bool × Bool × Str × Nat))) => Sum.elim (fun (v117 : (Bool × Bool × Str)) => ((aeg FU v117.2.2 v117.1 v117.2.1).bind fun (y190 : (Nat × Bool × Bool)) => (if y190.1 = 0 then some (y190.2.1, y190.2.2, v117.2.2, 0) else some (y190.2.1, y190.2.2, v117.2.2, y190.1)))) (fun q => some q) j115) = some (w', (if (spl 46 f).all apn = true then r else false), f', k) ∧
      (k = if (spl 46 f).all apn = true then 0 else 1) ∧ ((spl 46 f).all apn = true → w' = (w || (spl 46 f).any labW)) := by
  induction n with
  | zero =>
    intro f fk w r hf hn h20
    obtain ⟨fk, rfl⟩ : ∃ m, fk = m + 1 := ⟨fk - 1, by omega⟩
    obtain rfl : f = [] := zaE omg
    have e : zap ([] : Str) [46] = -1 := rfl
    rw [abd, aac (by simp), e, if_pos (by decide), zaa, zaw]
    obtain ⟨b, hb⟩ := (named_rd [] (by simp) w r).2 rfl
    simp only
    rw [hb, zaa, if_neg (by simp)]
    exact ⟨b, [], 1, rfl, rfl, fun h => absurd h (by decide)⟩
  | succ n ih =>
    intro f fk w r hf hn h20
    obtain ⟨fk, rfl⟩ : ∃ m, fk = m + 1 := ⟨fk - 1, by omega⟩
    rw [abd, aac omg]
    rcases index1 46 f with ⟨h1, h2⟩ | ⟨h1, h2, h3⟩
    · rw [if_pos omg, zaa, zaw, h2, zaF, List.all_nil, Bool.and_true]
      simp only
      have hr := named_rd f omg w r
      cases hl : apn f with
      | true =>
        rw [hr.1 hl, zaa, if_pos rfl]
        exact ⟨_, _, 0, rfl, rfl, fun _ => by simp⟩
      | false =>
        obtain ⟨b, hb⟩ := hr.2 hl
        rw [hb, zaa, if_neg (by simp)]
        exact ⟨b, _, 1, rfl, rfl, fun h => by cases h⟩
    · have e0 : zap f [46] + 0 = zap f [46] := by omega
      have e1 : (zap f [46] + ((([46] : Str).length : Nat) : Int)).toNat = (zap f [46]).toNat + 1 := by simp only [zae]; omega
      rw [if_neg omg, e0, aac (ajn _ omg omg), aac omg, h3, zaF]
      have hr := named_rd (f.take (zap f [46]).toNat) (by rw [zah]; omega) w r
      cases hl : apn (f.take (zap f [46]).toNat) with
      | true =>
        rw [hr.1 hl, zaa, if_pos rfl, aac (ajn _ (by simp only [zae]; omega) (by simp only [zae]; omega)), aac (by simp only [zae]; omega), e1, zao]
        obtain ⟨w', f', k, g1, g2, g3⟩ := ih (f.drop ((zap f [46]).toNat + 1)) fk (w || labW (f.take (zap f [46]).toNat)) r (by rw [zav]; omega) omg omg
        exact ⟨w', f', k, g1, g2, fun h => by rw [g3 h, List.any_cons, Bool.or_assoc]⟩
      | false =>
        obtain ⟨b, hb⟩ := hr.2 hl
        rw [hb, zaa, if_neg (by simp), zaa]
        exact ⟨b, _, 1, rfl, rfl, fun h => by cases h⟩
def namedP (s : Str) : Bool := decide (1 ≤ s.length) && decide (s.length ≤ 255) && (spl 46 s).all apn && (spl 46 s).any labW
theorem adNamed_eq (s : Str) (hs : s.length ≤ 1048576) : akr FU s = some (namedP s) := by
  unfold akr namedP
  by_cases h1 : (s.length : Int) < 1
  · rw [if_pos h1, show decide (1 ≤ s.length) = false by (rw [decide_eq_false_iff_not]; omega)]; rfl
  · rw [if_neg h1, show decide (1 ≤ s.length) = true by (rw [decide_eq_true_eq]; omega), zaa, zao]
    by_cases h2 : 255 < (s.length : Int)
    · rw [decide_eq_true h2, show decide (s.length ≤ 255) = false by (rw [decide_eq_false_iff_not]; omega)]; rfl
    · rw [decide_eq_false h2, cond_false, show decide (s.length ≤ 255) = true by (rw [decide_eq_true_eq]; omega), zao]
      obtain ⟨w', f', k, g1, g2, g3⟩ := seq_lp s.length s FU false false (Nat.le_refl _) (by rw [ahy]; omega) hs
      unfold aki akh
      rw [zaa, zaa]
      unfold adr
      rw [if_neg (by simp), zaa, zaw, g1, zaa]
      simp only
      cases ha : (spl 46 s).all apn with
      | true => rw [g2, ha, if_pos rfl, if_pos rfl, g3 ha]; simp
      | false => rw [ha] at g2; rw [g2]; simp
end Go.Wk
set_option linter.unusedVariables false
set_option linter.unusedSimpArgs false
set_option maxRecDepth 100000
namespace Go.Wk
open Go.Px
open Bool renaming and_eq_true → zau, false_or → zaG, not_false → zax, not_true → zaq, true_and → zao
open Go.Lib renaming cut → zaC, index → zap
open List renaming all_cons → zaF, append_nil → zay, length_append → zag, length_cons → zaf, length_drop → zav, length_nil → zas, length_singleton → zae, length_take → zah
open Option renaming bind_some → zaa
open Sum renaming elim_inl → zaw
theorem rf_nlab (c : UInt8) : ((aln FU c).bind fun (y288 : Bool) => (bif (!y288) then ((ahd FU c).bind fun (y295 : Bool) => (bif (!y295) then some (!decide (c = (45 : UInt8))) else some false)) else some false)) = some (!labB c) := by
  rw [rf_letter, rf_digit]
  unfold labB
  by_cases h : c = 45
  · subst h; rfl
  · rw [show (c == 45) = false by simpa using h, decide_eq_false h]
    cases letterB c <;> cases ags c <;> rfl
theorem label_lp (x : Str) (hx : x.length ≤ 1048576) (l : Str) : ∀ (p : Str) (fk : Nat) (w : Bool), x = p ++ l → l.length < fk →
    adn FU x fk w (p.length : Int) = some (if l.all labB = true then .inl (w || labW l) else .inr (false, false)) := by
  induction l with
  | nil =>
    intro p fk w h hf
    obtain ⟨fk, rfl⟩ : ∃ m, fk = m + 1 := ⟨fk - 1, by omega⟩
    rw [zay] at h
    rw [adn, if_neg (by rw [h]; omega)]; simp [labW]
  | cons c l ih =>
    intro p fk w h hf
    obtain ⟨fk, rfl⟩ : ∃ m, fk = m + 1 := ⟨fk - 1, by omega⟩
    have hl := congrArg List.length h
    simp only [zag, zaf] at hl hf
    have hb : (0 : Int) ≤ (p.length : Int) ∧ (p.length : Int) < (x.length : Int) := by omega
    have ha : at_ x (p.length : Int) = c := by rw [h, at_mid]
    have ok : acj ((p.length : Int) + 1) := ajn _ omg omg
    have hih := ih (p ++ [c]) fk (w || !ags c) (by rw [h]; simp) omg
    rw [← alr p c] at hih
    rw [adn, if_pos hb.2]
    simp only [aac hb, ha]
    rw [rf_nlab, zaa, zaF]
    cases hc : labB c with
    | false => rw [zax, cond_true, Bool.false_and, if_neg (show ¬ (false = true) by decide)]
    | true =>
      rw [zaq, cond_false, zao]
      have e : (bif w then gd (acj ((p.length : Int) + 1)) (adn FU x fk true ((p.length : Int) + 1)) else (ahd FU c).bind fun (y308 : Bool) => gd (acj ((p.length : Int) + 1)) (adn FU x fk (!y308) ((p.length : Int) + 1))) = adn FU x fk (w || !ags c) ((p.length : Int) + 1) := by
        cases w with
        | true => rw [cond_true, aac ok, Bool.true_or]
        | false => rw [cond_false, rf_digit, zaa, aac ok, zaG]
      rw [e, hih]
      simp [labW, Bool.or_assoc]
theorem label_eq (x : Str) (hx : x.length ≤ 1048576) : amh FU x = some (if apn x = true then (true, labW x) else (false, false)) := by
  have hlp := label_lp x hx x [] FU false (by simp) (by rw [ahy]; omega)
  have hlp' : adn FU x FU false (0 : Int) = _ := hlp
  unfold amh
  rw [badL_eq x hx, zaa, lab_bad]
  cases hb : badL x with
  | true => rw [cond_true]; simp
  | false =>
    rw [cond_false, zax, zao, hlp', zaa]
    cases x.all labB with
    | true => simp
    | false => simp
def numOk (x : Str) : Bool := decide (1 ≤ x.length) && decide (x.length ≤ 3) && !(decide (1 < x.length) && (at_ x 0 == 48)) && x.all ags && decide (aie x ≤ 255)
theorem num_lp (x : Str) (hx : x.length ≤ 15) (l : Str) : ∀ (p : Str) (fk : Nat), x = p ++ l → l.length < fk → p.all ags = true →
    aes FU x fk (aie p : Int) (p.length : Int) = some (if l.all ags = true then .inl (aie x : Int) else .inr false) := by
  induction l with
  | nil =>
    intro p fk h hf hp
    obtain ⟨fk, rfl⟩ : ∃ m, fk = m + 1 := ⟨fk - 1, by omega⟩
    rw [zay] at h
    rw [aes, if_neg (by rw [h]; omega), h]; rfl
  | cons c l ih =>
    intro p fk h hf hp
    obtain ⟨fk, rfl⟩ : ∃ m, fk = m + 1 := ⟨fk - 1, by omega⟩
    have hl := congrArg List.length h
    simp only [zag, zaf] at hl hf
    have hb : (0 : Int) ≤ (p.length : Int) ∧ (p.length : Int) < (x.length : Int) := by omega
    have ha : at_ x (p.length : Int) = c := by rw [h, at_mid]
    have hv := decVal_lt 14 p omg hp
    rw [aes, if_pos hb.2, aac hb, ha, rf_digit, zaa, zaF]
    cases hc : ags c with
    | false => rfl
    | true =>
      have hd := dig_sub c hc
      rw [zaq, cond_false, hd.1, aac (ajn _ omg omg), aac hb, aac (ajn _ omg omg), aac (ajn _ omg omg), zao]
      have e : (10 : Int) * (aie p : Int) + ((c.toNat - 48 : Nat) : Int) = (aie (p ++ [c]) : Int) := by rw [decVal_snoc]; omega
      rw [e, alr p c]
      exact ih (p ++ [c]) fk (by rw [h]; simp) omg (by rw [List.all_append, hp]; simpa using hc)
theorem num_eq (x : Str) : alm FU x = some (numOk x) := by
  unfold alm numOk
  by_cases h1 : (x.length : Int) < 1
  · rw [if_pos h1, show decide (1 ≤ x.length) = false by (rw [decide_eq_false_iff_not]; omega)]; rfl
  · rw [if_neg h1, show decide (1 ≤ x.length) = true by (rw [decide_eq_true_eq]; omega), zao]
    by_cases h2 : 3 < (x.length : Int)
    · rw [if_pos h2, show decide (x.length ≤ 3) = false by (rw [decide_eq_false_iff_not]; omega)]; rfl
    · rw [if_neg h2, show decide (x.length ≤ 3) = true by (rw [decide_eq_true_eq]; omega), zao]
      have hlp := num_lp x omg x [] FU (by simp) (by rw [ahy]; omega) rfl
      have hlp' : aes FU x FU (0 : Int) (0 : Int) = _ := hlp
      have fin : ((aes FU x FU (0 : Int) (0 : Int)).bind fun (j59 : (Int ⊕ Bool)) => Sum.elim (fun (v61 : Int) => some (decide (v61 ≤ (255 : Int)))) (fun q => some q) j59) = some (x.all ags && decide (aie x ≤ 255)) := by
        rw [hlp', zaa]
        cases ha : x.all ags with
        | false => rfl
        | true =>
          rw [if_pos rfl, zaw, zao]
          congr 1
          rw [Bool.eq_iff_iff]; simp; omega
      by_cases h3 : 1 < (x.length : Int)
      · rw [if_pos h3, aac omg, zaa, show decide (1 < x.length) = true by (rw [decide_eq_true_eq]; omega), zao]
        by_cases h4 : at_ x 0 = 48
        · rw [decide_eq_true h4, show (at_ x 0 == 48) = true by simpa using h4]; rfl
        · rw [decide_eq_false h4, cond_false, show (at_ x 0 == 48) = false by simpa using h4, fin]; rfl
      · rw [if_neg h3, zaa, cond_false, show decide (1 < x.length) = false by (rw [decide_eq_false_iff_not]; omega), fin]; rfl
def dg (n : Fin 10) : UInt8 := UInt8.ofNat (48 + n.val)
theorem dg_of : ∀ c : UInt8, ags c = true → ∃ n : Fin 10, c = dg n := afz _ (by decide +kernel)
theorem oct1 : ∀ a : Fin 10, octOk [dg a] = numOk [dg a] := by decide +kernel
theorem oct2 : ∀ a b : Fin 10, octOk [dg a, dg b] = numOk [dg a, dg b] := by decide +kernel
theorem oct3 : ∀ a b c : Fin 10, octOk [dg a, dg b, dg c] = numOk [dg a, dg b, dg c] := by decide +kernel
theorem itoa255 : ∀ n : Fin 256, (Lib.itoa (n.val : Int)).length ≤ 3 := by decide +kernel
theorem oct_num (x : Str) : octOk x = numOk x := by
  cases hd : x.all ags with
  | false => rw [octOk_no1 x hd, numOk, hd]; simp
  | true =>
    have hall := List.all_eq_true.1 hd
    match x, hd, hall with
    | [], _, _ => rfl
    | [a], _, hall =>
      obtain ⟨n, rfl⟩ := dg_of a (hall a (by simp))
      exact oct1 n
    | [a, b], _, hall =>
      obtain ⟨n, rfl⟩ := dg_of a (hall a (by simp))
      obtain ⟨m, rfl⟩ := dg_of b (hall b (by simp))
      exact oct2 n m
    | [a, b, c], _, hall =>
      obtain ⟨n, rfl⟩ := dg_of a (hall a (by simp))
      obtain ⟨m, rfl⟩ := dg_of b (hall b (by simp))
      obtain ⟨k, rfl⟩ := dg_of c (hall c (by simp))
      exact oct3 n m k
    | a :: b :: c :: d :: l, hd, _ =>
      have h1 : numOk (a :: b :: c :: d :: l) = false := by
        unfold numOk
        rw [show decide ((a :: b :: c :: d :: l).length ≤ 3) = false by (rw [decide_eq_false_iff_not]; simp only [zaf]; omega)]; simp
      rw [h1]
      by_cases hv : aie (a :: b :: c :: d :: l) ≤ 255
      · refine octOk_no2 _ (.inr fun h => ?_)
        have := itoa255 ⟨aie (a :: b :: c :: d :: l), by omega⟩
        simp only at this
        rw [← h] at this
        simp only [zaf] at this
        omega
      · exact octOk_no2 _ (.inl (.inr omg))
theorem host_lp (X : List Str) (hX : X.length ≤ 1048577) (hx : ∀ x ∈ X, x.length ≤ 1048576) (q : List Str) : ∀ (p : List Str) (fk : Nat) (four word : Bool), X = p ++ q → q.length < fk →
    afp FU X fk four word (p.length : Int) = some (if q.all apn = true then .inl (four && q.all numOk, word || q.any labW) else .inr ([], false)) := by
  induction q with
  | nil =>
    intro p fk four word h hf
    obtain ⟨fk, rfl⟩ : ∃ m, fk = m + 1 := ⟨fk - 1, by omega⟩
    rw [zay] at h
    rw [afp, if_neg (by rw [h]; omega)]; simp
  | cons a q ih =>
    intro p fk four word h hf
    obtain ⟨fk, rfl⟩ : ∃ m, fk = m + 1 := ⟨fk - 1, by omega⟩
    have hl := congrArg List.length h
    simp only [zag, zaf] at hl hf
    have hb : (0 : Int) ≤ (p.length : Int) ∧ (p.length : Int) < (X.length : Int) := by omega
    have he : el X (p.length : Int) = a := by rw [h]; simp [el]
    have ha : a.length ≤ 1048576 := hx a (by rw [h]; simp)
    have ok : acj ((p.length : Int) + 1) := ajn _ omg omg
    have hih := fun f w => ih (p ++ [a]) fk f w (by rw [h]; simp) omg
    rw [show ((p ++ [a]).length : Int) = (p.length : Int) + 1 by simp] at hih
    rw [afp, if_pos hb.2, aac hb, aac hb, he, label_eq a ha, zaa, zaF]
    cases hg : apn a with
    | false => rw [if_neg (show ¬ (false = true) by decide)]; simp
    | true =>
      rw [if_pos rfl, zaq, cond_false, zao]
      have e : (bif word then some true else some (labW a)) = some (word || labW a) := by cases word <;> rfl
      simp only
      rw [e, zaa]
      cases four with
      | true => rw [cond_true, aac hb, aac hb, num_eq, zaa, aac ok, hih]; simp [Bool.or_assoc]
      | false => rw [cond_false, aac ok, hih]; simp [Bool.or_assoc]
def brkB (s : Str) : Bool := decide (2 ≤ s.length) && (at_ s 0 == 91) && (at_ s ((s.length : Int) - 1) == 93)
def aot (s : Str) : Str × Bool :=
  if brkB s = true then (if (grpsP (sub s 1 ((s.length : Int) - 1))).2 = true then ([91] ++ (grpsP (sub s 1 ((s.length : Int) - 1))).1 ++ [93], true) else ([], false))
  else if numsP s = true then (s, true) else if namedP s = true then (adf s, true) else ([], false)
theorem brk_eq (s : Str) (hs : s.length ≤ 1048576) : (if (2 : Int) ≤ (s.length : Int) then (gd (0 ≤ (0 : Int) ∧ (0 : Int) < (s.length : Int)) <| (if (at_ s (0 : Int)) = (91 : UInt8) then (gd (acj ((s.length : Int) - (1 : Int))) <| (gd (0 ≤ ((s.length : Int) - (1 : Int)) ∧ ((s.length : Int) - (1 : Int)) < (s.length : Int)) <| some (decide ((at_ s ((s.length : Int) - (1 : Int))) = (93 : UInt8))))) else some false)) else some false) = some (brkB s) := by
  unfold brkB
  by_cases h1 : (2 : Int) ≤ (s.length : Int)
  · rw [if_pos h1, show decide (2 ≤ s.length) = true by (rw [decide_eq_true_eq]; omega), zao, aac omg]
    by_cases h2 : at_ s 0 = 91
    · rw [if_pos h2, show (at_ s 0 == 91) = true by simpa using h2, zao, aac (ajn _ omg omg), aac omg]; rfl
    · rw [if_neg h2, show (at_ s 0 == 91) = false by simpa using h2]; rfl
  · rw [if_neg h1, show decide (2 ≤ s.length) = false by (rw [decide_eq_false_iff_not]; omega)]; rfl
theorem brk_len {s : Str} (h : brkB s = true) : 2 ≤ s.length := by
  unfold brkB at h
  simp only [zau, decide_eq_true_eq] at h
  exact h.1.1
theorem grpsP_len (s : Str) : (grpsP s).1.length ≤ 20000000 := by
  unfold grpsP
  by_cases h39 : 39 < s.length
  · rw [if_pos h39]; simp
  · rw [if_neg h39]
    have hc := cut_len s [58, 58]
    have j1 := joinL0 (zaC s [58, 58]).1 omg
    have j2 := joinL0 (zaC s [58, 58]).2.1 omg
    split
    · have h1 := grpList_bd s
      have h2 := join_len [58] 4 (ahw s).1 h1.2
      simp only [zae] at h2 ⊢
      omega
    · split
      · simp
      · simp only [zag, zaf, zas]; omega
theorem adHost_eq (s : Str) (hs : s.length ≤ 1048576) : agt FU s = some (aot s) := by
  unfold agt aot
  rw [brk_eq s hs, zaa]
  cases hb : brkB s with
  | true =>
    have h2 := brk_len hb
    have hl := grpsP_len (sub s 1 ((s.length : Int) - 1))
    rw [cond_true, aac (ajn _ omg omg), aac omg, adGroups_eq, zaa, if_pos rfl]
    cases hg : (grpsP (sub s 1 ((s.length : Int) - 1))).2 with
    | false => rfl
    | true => rw [zaq, cond_false, aac (by simp only [zae]; omega), aac (by simp only [zag, zae]; omega), if_pos rfl]
  | false =>
    rw [cond_false, adNumbers_eq, zaa, if_neg (show ¬ (false = true) by decide)]
    cases hn : numsP s with
    | true => rfl
    | false =>
      rw [cond_false, adNamed_eq s hs, zaa, if_neg (show ¬ (false = true) by decide)]
      cases hm : namedP s with
      | true => rw [cond_true, adLower_eq s hs]; rfl
      | false => rfl
theorem sum_le (l : List Str) (m : Nat) (h : ∀ x ∈ l, x.length ≤ m) : (l.map List.length).sum ≤ m * l.length := by
  induction l with
  | nil => simp
  | cons a l ih =>
    have h1 := h a List.mem_cons_self
    have h2 := ih fun x hx => h x (List.mem_cons_of_mem _ hx)
    rw [List.map_cons, List.sum_cons, zaf, Nat.mul_succ]
    omega
theorem grpOk_len (g : Str) (h : amb g = true) : g.length ≤ 4 := by
  unfold amb at h
  simp only [zau, decide_eq_true_eq] at h
  exact h.1.2
theorem grpList_lens (x : Str) (h : (ahw x).2 = true) : x.length + 1 ≤ 5 * (ahw x).1.length := by
  cases ha : (spl 58 x).all amb with
  | false => rw [grpList_no x ha] at h; cases h
  | true =>
    rw [grpList_yes x ha, List.length_map]
    have h1 := sum_le (spl 58 x) 4 fun y hy => grpOk_len y (List.all_eq_true.1 ha y hy)
    have h2 := spl_lens 58 x
    omega
theorem grpL0_lens (x : Str) (h : (aio x).2 = true) : x.length ≤ 5 * (aio x).1.length := by
  by_cases hx : x = []
  · subst hx; simp
  · rw [apo x hx] at h ⊢
    have := grpList_lens x h
    omega
theorem index2_bd : ∀ s : Str, zap s [58, 58] ≠ -1 → zap s [58, 58] + 2 ≤ (s.length : Int)
  | [], h => absurd rfl h
  | b :: l, h => by
    rw [index_cons] at h ⊢
    by_cases hp : ([58, 58] : Str).isPrefixOf (b :: l) = true
    · rw [if_pos hp]
      cases l with
      | nil => simp [List.isPrefixOf] at hp
      | cons c l => simp only [zaf]; omega
    · rw [if_neg hp] at h ⊢
      by_cases hi : zap l [58, 58] = -1
      · rw [if_pos hi] at h; exact absurd rfl h
      · have := index2_bd l hi
        rw [if_neg hi, zaf]; omega
theorem six_grps (s : Str) : (sixQ s).2 = (grpsP s).2 ∧ ((grpsP s).2 = true → (sixQ s).1 = (grpsP s).1) := by
  unfold sixQ grpsP
  by_cases h39 : 39 < s.length
  · rw [if_pos h39]
    refine ⟨?_, fun h => by cases h⟩
    have hne : s ≠ [] := by intro e; subst e; simp at h39
    split
    · rw [apo s hne]
      cases h2 : (ahw s).2 with
      | false => rfl
      | true =>
        have := grpList_lens s h2
        rw [zao, decide_eq_false_iff_not]
        omega
    · rename_i hcut
      unfold sixP
      have hi : zap s [58, 58] ≠ -1 := by
        intro e; rw [cut_eq, if_pos e] at hcut; exact hcut rfl
      have hbd := index2_bd s hi
      have hge := index_ge [58, 58] s
      have h1 : (zaC s [58, 58]).1.length + 2 + (zaC s [58, 58]).2.1.length = s.length := by
        rw [cut_eq, if_neg hi]
        simp only [zah, zav, zaf, zas]
        omega
      cases ha : (aio (zaC s [58, 58]).1).2 with
      | false => rfl
      | true =>
        cases hb : (aio (zaC s [58, 58]).2.1).2 with
        | false => rfl
        | true =>
          have la := grpL0_lens _ ha
          have lb := grpL0_lens _ hb
          rw [decide_eq_true omg]; rfl
  · rw [if_neg h39]
    split
    · by_cases hs : s = []
      · subst hs
        exact ⟨rfl, fun h => by cases h⟩
      · rw [apo s hs]; exact ⟨rfl, fun _ => rfl⟩
    · unfold sixP
      split <;> exact ⟨rfl, fun _ => rfl⟩
theorem spl_all (c : UInt8) (p : UInt8 → Bool) : ∀ s : Str, (∀ x ∈ spl c s, x.all p = true) → ∀ b ∈ s, p b = true ∨ b = c
  | [], _, b, hb => by simp at hb
  | d :: l, h, b, hb => by
    by_cases hd : d = c
    · subst hd
      rw [aqb] at h
      rcases List.mem_cons.1 hb with rfl | hb
      · exact .inr rfl
      · exact spl_all d p l (fun x hx => h x (List.mem_cons_of_mem _ hx)) b hb
    · rw [aqa c d l hd] at h
      cases hx : spl c l with
      | nil => exact absurd hx (spl_ne c l)
      | cons y r =>
        rw [hx] at h
        have h0 := h ([d] ++ y) List.mem_cons_self
        rw [List.all_append, zau] at h0
        rcases List.mem_cons.1 hb with rfl | hb
        · left; simpa using h0.1
        · refine spl_all c p l (fun x hx' => ?_) b hb
          rw [hx] at hx'
          rcases List.mem_cons.1 hx' with rfl | hx'
          · exact h0.2
          · exact h x (List.mem_cons_of_mem _ hx')
theorem dig_low : ∀ c : UInt8, ags c = true → akf c = c := afz _ (by decide +kernel)
theorem dig_lab : ∀ c : UInt8, ags c = true → labB c = true ∧ c ≠ 45 := afz _ (by decide +kernel)
theorem num_parts (x : Str) (h : numOk x = true) : 1 ≤ x.length ∧ x.length ≤ 3 ∧ x.all ags = true := by
  unfold numOk at h
  simp only [zau, decide_eq_true_eq] at h
  exact ⟨h.1.1.1.1, h.1.1.1.2, h.1.2⟩
theorem at_mem (x : Str) (k : Nat) (h : k < x.length) : at_ x (k : Int) ∈ x := by
  simp [at_, h]
theorem num_lab (x : Str) (h : numOk x = true) : apn x = true := by
  obtain ⟨h1, h2, h3⟩ := num_parts x h
  have hall := List.all_eq_true.1 h3
  have e0 := (dig_lab _ (hall _ (at_mem x 0 omg))).2
  have e1 := (dig_lab _ (hall _ (at_mem x (x.length - 1) omg))).2
  have ei : (((x.length - 1 : Nat)) : Int) = (x.length : Int) - 1 := by omega
  rw [ei] at e1
  unfold apn
  rw [decide_eq_true h1, decide_eq_true omg, show (at_ x 0 == 45) = false by simpa using e0, show (at_ x ((x.length : Int) - 1) == 45) = false by simpa using e1, List.all_eq_true.2 fun c hc => (dig_lab c (hall c hc)).1]
  rfl
theorem lowerL_id (s : Str) (h : ∀ b ∈ s, akf b = b) : adf s = s := by
  unfold adf
  conv => rhs; rw [← List.map_id s]
  exact List.map_congr_left fun b hb => h b hb
theorem rfHost_eq (s : Str) (hs : s.length ≤ 1048576) : alz FU s = some (aot s) := by
  unfold alz aot
  rw [brk_eq s hs, zaa]
  cases hb : brkB s with
  | true =>
    have h2 := brk_len hb
    have hl := grpsP_len (sub s 1 ((s.length : Int) - 1))
    have hsl : (sub s 1 ((s.length : Int) - 1)).length ≤ 1048576 := by rw [ape]; omega
    obtain ⟨g1, g2⟩ := six_grps (sub s 1 ((s.length : Int) - 1))
    rw [cond_true, aac (ajn _ omg omg), aac omg, six_eq _ hsl, zaa, if_pos rfl, g1]
    cases hg : (grpsP (sub s 1 ((s.length : Int) - 1))).2 with
    | false => rfl
    | true => rw [zaq, cond_false, g2 hg, aac (by simp only [zae]; omega), aac (by simp only [zag, zae]; omega), if_pos rfl]
  | false =>
    have hsum := apz 46 s
    have hlp := host_lp (spl 46 s) omg (fun x hx => Nat.le_trans (hsum.2 x hx) hs) (spl 46 s) [] FU (decide (((spl 46 s).length : Int) = 4)) false (by simp) (by rw [ahy]; omega)
    have hlp' : afp FU (spl 46 s) FU (decide (((spl 46 s).length : Int) = 4)) false (0 : Int) = _ := hlp
    rw [cond_false, pieces_eq s 46 hs, zaa, hlp', zaa, if_neg (show ¬ (false = true) by decide), ako s omg]
    have hlens := spl_lens 46 s
    cases hall : (spl 46 s).all apn with
    | false =>
      have hn : numsP s = false := by
        cases hn : numsP s with
        | false => rfl
        | true =>
          exfalso
          unfold numsP at hn
          simp only [zau] at hn
          have : (spl 46 s).all apn = true := List.all_eq_true.2 fun x hx => num_lab x (by rw [← oct_num]; exact List.all_eq_true.1 hn.1.2 x hx)
          rw [hall] at this; cases this
      have hm : namedP s = false := by unfold namedP; rw [hall]; simp
      rw [hn, hm]; rfl
    | true =>
      rw [if_pos rfl, zaw, zaG]
      simp only
      cases hn : numsP s with
      | true =>
        have hn' := hn
        unfold numsP at hn'
        simp only [zau, decide_eq_true_eq] at hn'
        have hnum : (spl 46 s).all numOk = true := List.all_eq_true.2 fun x hx => by rw [← oct_num]; exact List.all_eq_true.1 hn'.1.2 x hx
        have hlow : adf s = s := lowerL_id s fun b hb' => by
          rcases spl_all 46 ags s (fun x hx => (num_parts x (List.all_eq_true.1 hnum x hx)).2.2) b hb' with h | h
          · exact dig_low b h
          · subst h; rfl
        rw [hnum, decide_eq_true omg, if_neg omg, hlow]
        cases (spl 46 s).any labW <;> rfl
      | false =>
        have hfour : (decide (((spl 46 s).length : Int) = 4) && (spl 46 s).all numOk) = false := by
          cases hf : (decide (((spl 46 s).length : Int) = 4) && (spl 46 s).all numOk) with
          | false => rfl
          | true =>
            exfalso
            simp only [zau, decide_eq_true_eq] at hf
            have hl := sum_le (spl 46 s) 3 fun x hx => (num_parts x (List.all_eq_true.1 hf.2 x hx)).2.1
            have hoct : (spl 46 s).all octOk = true := List.all_eq_true.2 fun x hx => by rw [oct_num]; exact List.all_eq_true.1 hf.2 x hx
            have : numsP s = true := by
              unfold numsP
              rw [hoct, decide_eq_true (show s.length ≤ 15 by omega), decide_eq_true (show (spl 46 s).length = 4 by omega)]; rfl
            rw [hn] at this; cases this
        have h1 : 1 ≤ s.length := by
          cases s with
          | nil => simp [spl, apn] at hall
          | cons _ _ => simp
        rw [hfour, if_neg (show ¬ (false = true) by decide)]
        unfold namedP
        rw [hall, decide_eq_true h1, zao, Bool.and_true]
        by_cases h2 : 255 < (s.length : Int)
        · rw [if_pos h2, decide_eq_false (show ¬ s.length ≤ 255 by omega)]; rfl
        · rw [if_neg h2, decide_eq_true (show s.length ≤ 255 by omega), zao]
          cases (spl 46 s).any labW <;> rfl
theorem hostP_len (s : Str) : (aot s).1.length ≤ 20000002 + s.length := by
  have := grpsP_len (sub s 1 ((s.length : Int) - 1))
  unfold aot
  split
  · split
    · simp only [zag, zae]; omega
    · simp
  · split
    · show s.length ≤ _; omega
    · split
      · simp [adf]
      · simp
end Go.Wk
set_option linter.unusedVariables false
set_option linter.unusedSimpArgs false
set_option maxRecDepth 100000
namespace Go.Wk
open Go.Px
open Bool renaming and_eq_true → zau, not_false → zax, not_true → zaq, true_and → zao
open List renaming drop_length → zaD, eq_nil_of_length_eq_zero → zaE, length_append → zag, length_cons → zaf, length_drop → zav, length_nil → zas, length_singleton → zae
open Option renaming bind_some → zaa
open Sum renaming elim_inl → zaw
theorem step_eq (s : Str) (hs : s.length ≤ 1048576) (k : Nat) : anp FU s (k : Int) = some (if s.length ≤ k then (0, (s.length : Int), 6) else if abz (at_ s (k : Int)) = true then (0, (k : Int), 5) else if at_ s (k : Int) = 92 then (if s.length ≤ k + 1 then (0, (s.length : Int), 6) else if aox (at_ s ((k + 1 : Nat) : Int)) = true then (2, 0, 0) else (0, (k : Int), 5)) else (1, 0, 0)) := by
  unfold anp
  by_cases h : s.length ≤ k
  · rw [if_pos omg, if_pos h]
  · rw [if_neg omg, if_neg h, gok, aqd, zaa]
    cases hc : abz (at_ s (k : Int)) with
    | true => rw [cond_true, if_pos rfl]
    | false =>
      rw [cond_false, if_neg (show ¬ (false = true) by decide), gok]
      by_cases h9 : at_ s (k : Int) = 92
      · rw [if_pos h9, if_pos h9, gok]
        by_cases h1 : s.length ≤ k + 1
        · rw [if_pos omg, if_pos h1]
        · rw [if_neg omg, if_neg h1, gok, aac omg, akg]
          have he : aox (at_ s ((k + 1 : Nat) : Int)) = (decide (32 ≤ at_ s ((k + 1 : Nat) : Int)) && decide (at_ s ((k + 1 : Nat) : Int) ≤ 126)) := rfl
          by_cases ha : at_ s ((k + 1 : Nat) : Int) < 32
          · rw [if_pos ha, zaa, cond_true, he, decide_eq_false (UInt8.not_le.2 ha)]; rfl
          · rw [if_neg ha, gok, aac omg, zaa, he, decide_eq_true (UInt8.not_lt.1 ha), zao]
            by_cases hb : 126 < at_ s ((k + 1 : Nat) : Int)
            · rw [decide_eq_true hb, cond_true, decide_eq_false (UInt8.not_le.2 hb)]; rfl
            · rw [decide_eq_false hb, cond_false, decide_eq_true (UInt8.not_lt.1 hb)]; rfl
      · rw [if_neg h9, if_neg h9]
theorem ctl34 : abz 34 = false := by decide
theorem ctl92 : abz 92 = false := by decide
theorem rfUnq_lp (s : Str) (hs : s.length ≤ 1048576) (n : Nat) : ∀ (k fk : Nat) (acc : Str), s.length - k ≤ n → n < fk → k ≤ s.length → acc.length ≤ k →
    acu FU s fk acc (k : Int) = some (unqL (s.drop k) k acc) := by
  have f6 : ¬ ((6 : UInt8) = 0) := by decide
  have f5 : ¬ ((5 : UInt8) = 0) := by decide
  have ff : ¬ (false = true) := by decide
  induction n with
  | zero =>
    intro k fk acc hn hf hk ha
    obtain ⟨fk, rfl⟩ : ∃ m, fk = m + 1 := ⟨fk - 1, by omega⟩
    obtain rfl : k = s.length := by omega
    have st := step_eq s hs s.length
    rw [if_pos (Nat.le_refl _)] at st
    rw [acu, st, zaa]
    simp only
    rw [if_neg f6, zaD]; rfl
  | succ n ih =>
    intro k fk acc hn hf hk ha
    obtain ⟨fk, rfl⟩ : ∃ m, fk = m + 1 := ⟨fk - 1, by omega⟩
    have st := step_eq s hs k
    by_cases hl : k < s.length
    · rw [if_neg (show ¬ s.length ≤ k by omega)] at st
      rw [aph s k hl, unqL_cons]
      by_cases h1 : at_ s (k : Int) = 34
      · rw [h1, ctl34, if_neg ff, if_neg (show ¬ ((34 : UInt8) = 92) by decide)] at st
        rw [acu, st, zaa]
        simp only
        rw [if_pos trivial, if_pos trivial, aac omg, zaa, decide_eq_true h1, cond_true, gok, if_pos h1]; rfl
      · rw [if_neg h1]
        by_cases h2 : at_ s (k : Int) = 92
        · rw [h2, ctl92, if_neg ff, if_pos rfl] at st
          rw [if_pos h2]
          by_cases h3 : s.length ≤ k + 1
          · have e : s.drop (k + 1) = [] := (aoz s (k + 1)).2 h3
            have e2 : s.length = k + 1 := by omega
            rw [if_pos h3] at st
            rw [acu, st, zaa]
            simp only
            rw [if_neg f6, if_pos e, e2]
          · rw [if_neg h3] at st
            rw [if_neg (fun h => h3 ((aoz s (k + 1)).1 h)), at_drop1]
            cases h4 : aox (at_ s ((k + 1 : Nat) : Int)) with
            | false =>
              rw [h4, if_neg ff] at st
              rw [acu, st, zaa]
              simp only
              rw [if_neg f5, if_neg ff]
            | true =>
              have ei : (k : Int) + 2 - 1 = ((k + 1 : Nat) : Int) := by omega
              have ej : (k : Int) + 2 = ((k + 2 : Nat) : Int) := by omega
              rw [h4, if_pos rfl] at st
              rw [acu, st, zaa]
              simp only
              rw [if_pos trivial, if_neg (show ¬ ((2 : Int) = 1) by decide), zaa, cond_false, gok, gok, ei, aac omg, gok, gok, ej, ih (k + 2) fk _ omg omg omg (by simp; omega), List.drop_drop, if_pos trivial]
        · rw [if_neg h2]
          cases h4 : abz (at_ s (k : Int)) with
          | true =>
            rw [h4, if_pos rfl] at st
            rw [acu, st, zaa]
            simp only
            rw [if_neg f5, if_pos trivial]
          | false =>
            have ei : (k : Int) + 1 - 1 = (k : Int) := by omega
            rw [h4, if_neg ff, if_neg h2] at st
            rw [acu, st, zaa]
            simp only
            rw [if_pos trivial, if_pos trivial, aac omg, zaa, decide_eq_false h1, cond_false, if_neg ff, gok, gok, ei, aac omg, gok, gok, akg, ih (k + 1) fk _ omg omg omg (by simp; omega)]
    · obtain rfl : k = s.length := by omega
      rw [if_pos (Nat.le_refl _)] at st
      rw [acu, st, zaa]
      simp only
      rw [if_neg f6, zaD]; rfl
theorem rfUnquote_eq (s : Str) (hs : s.length ≤ 1048576) (i : Int) : akp FU s i = some (unqP8 s i) := by
  unfold akp aod unqP8
  by_cases h1 : i < 0
  · rw [if_pos h1, if_pos (show i < 0 ∨ (s.length : Int) < i from .inl h1)]; rfl
  · rw [if_neg h1, zaa]
    by_cases h2 : (s.length : Int) < i
    · rw [decide_eq_true h2, if_pos (show i < 0 ∨ (s.length : Int) < i from .inr h2)]; rfl
    · rw [decide_eq_false h2, cond_false, if_neg (show ¬ (i < 0 ∨ (s.length : Int) < i) by omega)]
      by_cases h3 : i = (s.length : Int)
      · rw [if_pos h3, if_pos (show i = (s.length : Int) ∨ at_ s i ≠ 34 from .inl h3)]; rfl
      · rw [if_neg h3, gok, zaa]
        by_cases h4 : at_ s i = 34
        · rw [decide_eq_true h4, zaq, cond_false, if_neg (by simp [h3, h4]), zaa, if_pos rfl, gok]
          obtain ⟨k, rfl⟩ : ∃ k : Nat, i = (k : Int) := ⟨i.toNat, by omega⟩
          exact rfUnq_lp s hs s.length (k + 1) FU [] omg (by rw [ahy]; omega) omg (by simp)
        · rw [decide_eq_false h4, if_pos (show i = (s.length : Int) ∨ at_ s i ≠ 34 from .inr h4)]; rfl
theorem unqL_bd (n : Nat) : ∀ (l : Str) (k : Nat) (acc : Str), l.length ≤ n → (unqL l k acc).1.length ≤ acc.length + l.length ∧ ((unqL l k acc).2.2 = 0 → (k : Int) + 1 ≤ (unqL l k acc).2.1 ∧ (unqL l k acc).2.1 ≤ ((k + l.length : Nat) : Int)) := by
  induction n with
  | zero =>
    intro l k acc hl
    obtain rfl : l = [] := zaE omg
    exact ⟨by simp [unqL], fun h => absurd h (show ¬ ((6 : UInt8) = 0) by decide)⟩
  | succ n ih =>
    intro l k acc hl
    cases l with
    | nil => exact ⟨by simp [unqL], fun h => absurd h (show ¬ ((6 : UInt8) = 0) by decide)⟩
    | cons c l =>
      simp only [zaf] at hl
      rw [unqL_cons]
      by_cases h1 : c = 34
      · rw [if_pos h1]; exact ⟨by simp, fun _ => ⟨by simp, by simp only [zaf]; omega⟩⟩
      · rw [if_neg h1]
        by_cases h2 : c = 92
        · rw [if_pos h2]
          by_cases h3 : l = []
          · rw [if_pos h3]; exact ⟨by simp, fun h => absurd h (show ¬ ((6 : UInt8) = 0) by decide)⟩
          · rw [if_neg h3]
            have hpos : 0 < l.length := List.length_pos_iff.2 h3
            cases h4 : aox (at_ l 0) with
            | true =>
              rw [if_pos rfl]
              have := ih (l.drop 1) (k + 2) (acc ++ [at_ l 0]) (by rw [zav]; omega)
              rw [zag, zae, zav] at this
              exact ⟨by simp only [zaf]; omega, fun h => ⟨by have := (this.2 h).1; omega, by have := (this.2 h).2; simp only [zaf]; omega⟩⟩
            | false => rw [if_neg (by decide)]; exact ⟨by simp, fun h => absurd h (show ¬ ((5 : UInt8) = 0) by decide)⟩
        · rw [if_neg h2]
          cases h4 : abz c with
          | true => rw [if_pos rfl]; exact ⟨by simp, fun h => absurd h (show ¬ ((5 : UInt8) = 0) by decide)⟩
          | false =>
            rw [if_neg (by decide)]
            have := ih l (k + 1) (acc ++ [c]) omg
            rw [zag, zae] at this
            exact ⟨by simp only [zaf]; omega, fun h => ⟨by have := (this.2 h).1; omega, by have := (this.2 h).2; simp only [zaf]; omega⟩⟩
theorem unqP8_bd (s : Str) (k : Nat) (h34 : at_ s (k : Int) = 34) (hk : k < s.length) : (unqP8 s (k : Int)).1.length ≤ s.length ∧ ((unqP8 s (k : Int)).2.2 = 0 → (k : Int) + 2 ≤ (unqP8 s (k : Int)).2.1 ∧ (unqP8 s (k : Int)).2.1 ≤ (s.length : Int)) := by
  unfold unqP8
  rw [if_neg omg, if_neg (by rintro (h | h); omega; exact h h34)]
  have e : ((k : Int).toNat + 1) = k + 1 := by omega
  rw [e]
  have := unqL_bd _ (s.drop (k + 1)) (k + 1) [] (Nat.le_refl _)
  rw [zav, zas] at this
  exact ⟨by omega, fun h => ⟨by have := (this.2 h).1; omega, by have := (this.2 h).2; omega⟩⟩
theorem apq (s : Str) (hs : s.length ≤ 1048576) (i : Int) : acx FU (s, i) = some (s, ((aca abo s i : Nat) : Int)) := by
  unfold acx; simp only; rw [blanks_eq s hs]; rfl
theorem ended_eq (s : Str) (i : Int) : aeq FU (s, i) = some (decide ((s.length : Int) ≤ i)) := rfl
def amt (s : Str) (k : Nat) (b : UInt8) : Bool := decide (k < s.length) && (at_ s (k : Int) == b)
theorem sees_eq (s : Str) (k : Nat) (b : UInt8) : abm FU (s, (k : Int)) b = some (amt s k b) := by
  unfold abm amt
  rw [ended_eq, zaa]
  by_cases h : k < s.length
  · rw [decide_eq_false (show ¬ (s.length : Int) ≤ (k : Int) by omega), zax, cond_true, aac (by simp only; omega), decide_eq_true h]; rfl
  · rw [decide_eq_true (show (s.length : Int) ≤ (k : Int) by omega), decide_eq_false h]; rfl
theorem tokEndP_eq (s : Str) (hs : s.length ≤ 1048576) (i : Int) : aex FU s i = some ((aca abi s i : Nat) : Int) := by
  unfold aex; rw [skipTok_eq s omg]; rfl
theorem aid (p : UInt8 → Bool) (s : Str) (k : Nat) (h : k ≤ s.length) : k ≤ aca p s (k : Int) := by
  unfold aca; rw [aoc k _ h]; omega
theorem token2_eq (s : Str) (hs : s.length ≤ 1048576) (k : Nat) (hk : k ≤ s.length) : aep FU (s, (k : Int)) = some (sub s (k : Int) ((aca abi s (k : Int) : Nat) : Int), (s, ((aca abi s (k : Int) : Nat) : Int))) := by
  have h1 := aid abi s k hk
  have h2 := aeu abi s (k : Int)
  unfold aep
  simp only
  rw [tokEndP_eq s hs, zaa, aac omg]
theorem apy (s : Str) (a b : Nat) (h : b ≤ s.length) (hab : a ≤ b) : sub s (a : Int) (b : Int) = [] ↔ b = a := by
  have := ape s (a : Int) (b : Int)
  constructor
  · intro h'; rw [h'] at this; simp at this; omega
  · intro h'; apply zaE; rw [this]; omega
theorem span_not_ixb (c : UInt8) (l : Str) : (if (0 : Int) ≤ ixb (· == c) l then ixb (· == c) l else (l.length : Int)) = (ajk (fun b => !(b == c)) l : Int) := by
  rcases ixb_spec (· == c) l with ⟨h1, h2⟩ | ⟨h1, h2, h3⟩
  · rw [if_neg omg, h2]
  · rw [if_pos h1, h3]
theorem contains1 (c : UInt8) : (fun b => ([c] : Str).contains b) = (· == c) := by
  funext b
  simp [List.contains_cons]
  rfl
theorem until1_eq (s : Str) (hs : s.length ≤ 1048576) (k : Nat) (hk : k ≤ s.length) (c : UInt8) (hc : c.toNat < 128) : aen FU s (k : Int) [c] = some ((k + ajk (fun b => !(b == c)) (s.drop k) : Nat) : Int) := by
  have e : ((k : Nat) : Int).toNat = k := by omega
  have hd : (s.drop k).length = s.length - k := zav
  have h1 := span_not_ixb c (s.drop k)
  have hi : Lib.indexAny (s.drop k) [c] = ixb (· == c) (s.drop k) := by rw [indexAny_ixb, contains1]
  have hsp := ixb_spec (· == c) (s.drop k)
  unfold aen
  rw [aac omg, e, aac ⟨by omega, by simp, by simpa using hc, .inr (.inl (by simp))⟩, hi]
  by_cases h : (0 : Int) ≤ ixb (· == c) (s.drop k)
  · rw [if_pos h] at h1 ⊢
    rw [aac (ajn _ omg omg), h1]; rfl
  · rw [if_neg h] at h1 ⊢
    congr 1
    omega
def valP (s : Str) (k : Nat) : Str × Int × UInt8 :=
  if amt s k 34 = true then unqP8 s (k : Int)
  else if amt s k 91 = true then
    (if (aot (sub s (k : Int) (min ((k + ajk (fun b => !(b == 93)) (s.drop k) : Nat) + 1 : Int) (s.length : Int)))).2 = true then
      ((aot (sub s (k : Int) (min ((k + ajk (fun b => !(b == 93)) (s.drop k) : Nat) + 1 : Int) (s.length : Int)))).1, ((k + ajk (fun b => !(b == 93)) (s.drop k) : Nat) : Int) + 1, 0) else ([], (k : Int), 5))
  else if aca abi s (k : Int) = k then ([], (k : Int), 5) else (sub s (k : Int) ((aca abi s (k : Int) : Nat) : Int), ((aca abi s (k : Int) : Nat) : Int), 0)
theorem aqc {s : Str} {k : Nat} {b : UInt8} (h : amt s k b = true) : k < s.length ∧ at_ s (k : Int) = b := by
  unfold amt at h
  simp only [zau, decide_eq_true_eq, beq_iff_eq] at h
  exact h
theorem valP_bd (s : Str) (hs : s.length ≤ 1048576) (k : Nat) (hk : k ≤ s.length) : (valP s k).1.length ≤ 30000000 ∧ ((valP s k).2.2 = 0 → (k : Int) + 1 ≤ (valP s k).2.1 ∧ (valP s k).2.1 ≤ (s.length : Int) + 1) := by
  unfold valP
  have h1 := aid abi s k hk
  have h2 := aeu abi s (k : Int)
  have hsp := apf (fun b => !(b == 93)) (s.drop k)
  rw [zav] at hsp
  split
  · rename_i h
    have := unqP8_bd s k (aqc h).2 (aqc h).1
    exact ⟨by omega, fun h => ⟨by have := (this.2 h).1; omega, by have := (this.2 h).2; omega⟩⟩
  · split
    · split
      · have hh := hostP_len (sub s (k : Int) (min ((k + ajk (fun b => !(b == 93)) (s.drop k) : Nat) + 1 : Int) (s.length : Int)))
        rw [ape] at hh
        exact ⟨by simp only; omega, fun _ => ⟨by simp only; omega, by simp only; omega⟩⟩
      · exact ⟨by simp, fun h => absurd h (show ¬ ((5 : UInt8) = 0) by decide)⟩
    · split
      · exact ⟨by simp, fun h => absurd h (show ¬ ((5 : UInt8) = 0) by decide)⟩
      · rename_i h
        exact ⟨by simp only [ape]; omega, fun _ => ⟨by simp only; omega, by simp only; omega⟩⟩
theorem rfSees (s : Str) (k : Nat) (b : UInt8) : (if (k : Int) < (s.length : Int) then (gd (0 ≤ (k : Int) ∧ (k : Int) < (s.length : Int)) <| some (decide ((at_ s (k : Int)) = b))) else some false) = some (amt s k b) := by
  unfold amt
  by_cases h : k < s.length
  · rw [if_pos omg, aac omg, decide_eq_true h]; rfl
  · rw [if_neg omg, decide_eq_false h]; rfl
theorem value_lp (s : Str) (hs : s.length ≤ 1048576) (k : Nat) (hk : k ≤ s.length) : aez FU s FU (k : Int) = some ((k + ajk (fun b => !(b == 93)) (s.drop k) : Nat) : Int) := by
  refine skip_gen (fun b => !(b == 93)) s (aez FU s) ?_ ?_ ?_ (s.length - k) k FU omg (by rw [ahy]; omega)
  · intro fk; rw [aez, if_neg omg]; rfl
  · intro fk k hk h
    have h' : at_ s (k : Int) = 93 := by simpa using h
    rw [aez, if_pos omg, aac omg, zaa, decide_eq_true h', zaq, cond_false]
  · intro fk k hk h
    have h' : ¬ at_ s (k : Int) = 93 := by simpa using h
    rw [aez, if_pos omg, aac omg, zaa, decide_eq_false h', zax, cond_true, gok]
theorem value_eq (s : Str) (hs : s.length ≤ 1048576) (k : Nat) (hk : k ≤ s.length) : amg FU s (k : Int) = some (valP s k) := by
  have h1 := aid abi s k hk
  have h2 := aeu abi s (k : Int)
  have hsp := apf (fun b => !(b == 93)) (s.drop k)
  rw [zav] at hsp
  unfold amg valP
  rw [rfSees, zaa, rfSees]
  cases h34 : amt s k 34 with
  | true => rw [cond_true, if_pos rfl, rfUnquote_eq s hs]; rfl
  | false =>
    rw [cond_false, zaa, if_neg (show ¬ (false = true) by decide)]
    cases h91 : amt s k 91 with
    | true =>
      rw [cond_true, value_lp s hs k hk, zaa, gok, aac omg, rfHost_eq _ (by rw [ape]; omega), zaa, if_pos rfl]
      cases hh : (aot (sub s (k : Int) (min ((k + ajk (fun b => !(b == 93)) (s.drop k) : Nat) + 1 : Int) (s.length : Int)))).2 with
      | false => rfl
      | true => rw [zaq, cond_false, gok, zaa, Sum.elim_inr, if_pos rfl]
    | false =>
      rw [cond_false, zaa, zaw, anl s omg, zaa, if_neg (show ¬ (false = true) by decide)]
      by_cases ht : aca abi s (k : Int) = k
      · rw [if_pos omg, if_pos ht]
      · rw [if_neg omg, if_neg ht, aac omg]
theorem lower_nil (l : Str) : adf l = [] ↔ l = [] := by unfold adf; simp
theorem apl (p : UInt8 → Bool) (s : Str) (y : Nat) : aca p s ((y : Int) + 1) = aca p s ((y + 1 : Nat) : Int) := rfl
def zPrm : Str × Str × Bool := ([], [], false)
def anr (s : Str) (b : Nat) : (Str × Str × Bool) × Int × UInt8 × (Str × Int) :=
  if aca abi s (b : Int) = b then (zPrm, (b : Int), 5, (s, (b : Int)))
  else if amt s (aca abo s ((aca abi s (b : Int) : Nat) : Int)) 61 = false then ((adf (sub s (b : Int) ((aca abi s (b : Int) : Nat) : Int)), [], false), 0, 0, (s, ((aca abo s ((aca abi s (b : Int) : Nat) : Int) : Nat) : Int)))
  else if (valP s (aca abo s ((aca abo s ((aca abi s (b : Int) : Nat) : Int) + 1 : Nat) : Int))).2.2 = 0 then ((adf (sub s (b : Int) ((aca abi s (b : Int) : Nat) : Int)), (valP s (aca abo s ((aca abo s ((aca abi s (b : Int) : Nat) : Int) + 1 : Nat) : Int))).1, true), 0, 0, (s, (valP s (aca abo s ((aca abo s ((aca abi s (b : Int) : Nat) : Int) + 1 : Nat) : Int))).2.1))
  else (zPrm, (valP s (aca abo s ((aca abo s ((aca abi s (b : Int) : Nat) : Int) + 1 : Nat) : Int))).2.1, (valP s (aca abo s ((aca abo s ((aca abi s (b : Int) : Nat) : Int) + 1 : Nat) : Int))).2.2, (s, ((aca abo s ((aca abo s ((aca abi s (b : Int) : Nat) : Int) + 1 : Nat) : Int) : Nat) : Int)))
theorem listed_eq (s : Str) (hs : s.length ≤ 1048576) (b : Nat) (hb : b ≤ s.length) : agi FU (s, (b : Int)) = some (anr s b) := by
  unfold agi anr
  have ht1 := aid abi s b hb
  have ht2 := aeu abi s (b : Int)
  rw [token2_eq s hs b hb, zaa]
  simp only
  generalize ht : aca abi s (b : Int) = t at ht1 ht2 ⊢
  have hy2 := aeu abo s (t : Int)
  have hy1 := aid abo s t ht2
  rw [adLower_eq _ (by rw [ape]; omega), zaa]
  by_cases hn : t = b
  · have : adf (sub s (b : Int) (t : Int)) = [] := (lower_nil _).2 ((apy s b t ht2 ht1).2 hn)
    rw [if_pos this, if_pos hn, hn]; rfl
  · have : ¬ adf (sub s (b : Int) (t : Int)) = [] := fun h => hn ((apy s b t ht2 ht1).1 ((lower_nil _).1 h))
    rw [if_neg this, if_neg hn, apq s hs, zaa]
    generalize hy : aca abo s (t : Int) = y at hy1 hy2 ⊢
    rw [sees_eq, zaa]
    cases h61 : amt s y 61 with
    | false => rw [zax, cond_true, if_pos rfl]
    | true =>
      rw [zaq, cond_false, if_neg (show ¬ (true = false) by decide), gok, apq s hs, zaa, apl]
      have hz2 := aeu abo s ((y + 1 : Nat) : Int)
      generalize hz : aca abo s ((y + 1 : Nat) : Int) = z at hz2 ⊢
      have hq1 := aid abi s z hz2
      have hq2 := aeu abi s (z : Int)
      have hsp := apf (fun b => !(b == 93)) (s.drop z)
      rw [zav] at hsp
      rw [sees_eq, zaa]
      unfold valP
      cases h34 : amt s z 34 with
      | true =>
        rw [cond_true, if_pos rfl, unquote_eq s hs, zaa]
        by_cases he : (unqP8 s (z : Int)).2.2 = 0
        · rw [if_pos he, if_pos he]
        · rw [if_neg he, if_neg he]; rfl
      | false =>
        rw [cond_false, if_neg (show ¬ (false = true) by decide), sees_eq, zaa]
        cases h91 : amt s z 91 with
        | true =>
          rw [cond_true, if_pos rfl, until1_eq s hs z hz2 93 (by decide), zaa]
          simp only
          rw [gok, aac omg, adHost_eq _ (by rw [ape]; omega), zaa]
          cases hh : (aot (sub s (z : Int) (min ((z + ajk (fun b => !(b == 93)) (s.drop z) : Nat) + 1 : Int) (s.length : Int)))).2 with
          | false => rw [zax, cond_true, if_neg (show ¬ (false = true) by decide), if_neg (show ¬ ((5 : UInt8) = 0) by decide)]; rfl
          | true => rw [zaq, cond_false, gok, if_pos rfl, if_pos rfl]
        | false =>
          rw [cond_false, if_neg (show ¬ (false = true) by decide), token2_eq s hs z hz2, zaa]
          simp only
          by_cases hq : aca abi s (z : Int) = z
          · rw [if_pos ((apy s z _ hq2 hq1).2 hq), if_pos hq, if_neg (show ¬ ((5 : UInt8) = 0) by decide), hq]; rfl
          · rw [if_neg (fun h => hq ((apy s z _ hq2 hq1).1 h)), if_neg hq, if_pos rfl]
end Go.Wk
set_option linter.unusedVariables false
set_option linter.unusedSimpArgs false
set_option maxRecDepth 100000
namespace Go.Wk
open Go.Px
open Bool renaming not_false → zax, not_true → zaq, true_and → zao
open Int renaming toNat → zad
open List renaming drop → zar, drop_length → zaD, length_append → zag, length_cons → zaf, length_drop → zav, length_singleton → zae, take → zaz
open Option renaming bind_some → zaa
open Sum renaming elim_inl → zaw
abbrev PP := Str × Str × Bool
theorem find_gen {α : Type} [Inhabited α] (p : α → Bool) (l : List α) (F : Nat → Int → Option (Unit ⊕ Int))
    (h0 : ∀ fk, F (fk + 1) (l.length : Int) = some (.inl ()))
    (h1 : ∀ fk (k : Nat), k < l.length → p (el l k) = true → F (fk + 1) (k : Int) = some (.inr (k : Int)))
    (h2 : ∀ fk (k : Nat), k < l.length → p (el l k) = false → F (fk + 1) (k : Int) = F fk ((k : Int) + 1)) (n : Nat) :
    ∀ (k fk : Nat), k + n = l.length → n < fk → F fk (k : Int) = some (match (l.drop k).findIdx? p with | none => .inl () | some j => .inr ((k + j : Nat) : Int)) := by
  induction n with
  | zero =>
    intro k fk hk hf
    obtain ⟨fk, rfl⟩ : ∃ m, fk = m + 1 := ⟨fk - 1, by omega⟩
    obtain rfl : k = l.length := by omega
    rw [h0, zaD]; rfl
  | succ n ih =>
    intro k fk hk hf
    obtain ⟨fk, rfl⟩ : ∃ m, fk = m + 1 := ⟨fk - 1, by omega⟩
    have hlt : k < l.length := by omega
    have hd : l.drop k = el l (k : Int) :: l.drop (k + 1) := by rw [el_nat _ _ hlt, List.drop_eq_getElem_cons hlt]
    rw [hd, List.findIdx?_cons]
    cases h : p (el l (k : Int)) with
    | true => rw [h1 fk k hlt h]; rfl
    | false =>
      rw [h2 fk k hlt h, akg, ih (k + 1) fk omg omg]
      cases (l.drop (k + 1)).findIdx? p with
      | none => rfl
      | some j =>
        show some (Sum.inr _) = some (Sum.inr _)
        congr 2
        show ((k + 1 + j : Nat) : Int) = ((k + (j + 1) : Nat) : Int)
        omega
theorem find_gen0 {α : Type} [Inhabited α] (p : α → Bool) (l : List α) (hl : l.length ≤ 1048576) (F : Nat → Int → Option (Unit ⊕ Int))
    (h0 : ∀ fk, F (fk + 1) (l.length : Int) = some (.inl ()))
    (h1 : ∀ fk (k : Nat), k < l.length → p (el l k) = true → F (fk + 1) (k : Int) = some (.inr (k : Int)))
    (h2 : ∀ fk (k : Nat), k < l.length → p (el l k) = false → F (fk + 1) (k : Int) = F fk ((k : Int) + 1)) : F FU 0 = some (match l.findIdx? p with | none => .inl () | some j => .inr ((j : Nat) : Int)) := by
  have := find_gen p l F h0 h1 h2 l.length 0 FU omg (by rw [ahy]; omega)
  rw [List.drop_zero] at this
  have this' : F FU (0 : Int) = _ := this
  rw [this']
  cases l.findIdx? p with
  | none => rfl
  | some j =>
    show some (Sum.inr _) = some (Sum.inr _)
    congr 2
    show ((0 + j : Nat) : Int) = _
    omega
def fIdx (o : Option Nat) : Int := match o with | none => -1 | some j => (j : Int)
theorem fIdx_any {α : Type} (p : α → Bool) (l : List α) : decide ((0 : Int) ≤ fIdx (l.findIdx? p)) = l.any p := by
  rw [← List.findIdx?_isSome]
  cases l.findIdx? p with
  | none => rfl
  | some j => show decide ((0 : Int) ≤ (j : Int)) = true; rw [decide_eq_true_eq]; omega
theorem holds_eq (l : List PP) (hl : l.length ≤ 1048576) (name : Str) : aho FU l name = some (l.any fun p => p.1 == name) := by
  have h := find_gen0 (fun p : PP => p.1 == name) l hl (aay FU l name)
    (fun fk => by rw [aay, if_neg omg])
    (fun fk k hk h => by
      have h' : (el l (k : Int)).1 = name := by simpa using h
      rw [aay, if_pos omg, aac omg, aac omg]
      unfold ajh
      rw [zaa, decide_eq_true h', cond_true])
    (fun fk k hk h => by
      have h' : ¬ (el l (k : Int)).1 = name := by simpa using h
      rw [aay, if_pos omg, aac omg, aac omg]
      unfold ajh
      rw [zaa, decide_eq_false h', cond_false, gok])
  unfold aho ada adk
  rw [h, zaa]
  have e : Sum.elim (fun (v38 : Unit) => some (-1 : Int)) (fun q => some q) (match l.findIdx? (fun p : PP => p.1 == name) with | none => (Sum.inl () : Unit ⊕ Int) | some j => Sum.inr ((j : Nat) : Int)) = some (fIdx (l.findIdx? (fun p : PP => p.1 == name))) := by
    cases l.findIdx? (fun p : PP => p.1 == name) <;> rfl
  rw [e, zaa, fIdx_any]; rfl
def roomB (l : List PP) (name : Str) : UInt8 := if (l.any fun p => p.1 == name) = true then 7 else if 16 ≤ l.length then 4 else 0
theorem room_eq (l : List PP) (hl : l.length ≤ 1048576) (name : Str) : aka FU l name = some (roomB l name) := by
  unfold aka roomB
  rw [holds_eq l hl, zaa]
  cases l.any fun p => p.1 == name with
  | true => rfl
  | false =>
    rw [cond_false, if_neg (show ¬ (false = true) by decide)]
    by_cases h : 16 ≤ l.length
    · rw [if_pos omg, if_pos h]
    · rw [if_neg omg, if_neg h]
theorem el_mem2 (l : List PP) (k : Nat) (h : k < l.length) : el l (k : Int) ∈ l := el_mem' l k h
theorem rfFind_eq (l : List PP) (hl : l.length ≤ 1048576) (hn : ∀ p ∈ l, p.1.length ≤ 1048576) (name : Str) (hm : name.length ≤ 1048576) : ano FU l name = some (fIdx (l.findIdx? fun p => adf p.1 == adf name)) := by
  have h := find_gen0 (fun p : PP => adf p.1 == adf name) l hl (agm FU l name)
    (fun fk => by rw [agm, if_neg omg])
    (fun fk k hk h => by
      have h' : adf (el l (k : Int)).1 = adf name := by simpa using h
      have := hn _ (el_mem2 l k hk)
      rw [agm, if_pos omg, aac omg, aac omg, ako _ omg, zaa, ako _ omg, zaa, if_pos h'])
    (fun fk k hk h => by
      have h' : ¬ adf (el l (k : Int)).1 = adf name := by simpa using h
      have := hn _ (el_mem2 l k hk)
      rw [agm, if_pos omg, aac omg, aac omg, ako _ omg, zaa, ako _ omg, zaa, if_neg h', gok])
  unfold ano
  rw [h, zaa]
  cases l.findIdx? (fun p : PP => adf p.1 == adf name) <;> rfl
theorem rfRoom_eq (l : List PP) (hl : l.length ≤ 1048576) (hn : ∀ p ∈ l, p.1.length ≤ 1048576) (name : Str) (hm : name.length ≤ 1048576) (h1 : ∀ p ∈ l, adf p.1 = p.1) (h2 : adf name = name) : ahf FU l name = some (roomB l name) := by
  unfold ahf roomB
  have e : l.any (fun p => p.1 == name) = l.any (fun p => adf p.1 == adf name) := by
    rw [Bool.eq_iff_iff, List.any_eq_true, List.any_eq_true]
    constructor
    · rintro ⟨p, hp, h⟩; exact ⟨p, hp, by rw [h1 p hp, h2]; exact h⟩
    · rintro ⟨p, hp, h⟩; exact ⟨p, hp, by rw [h1 p hp, h2] at h; exact h⟩
  rw [rfFind_eq l hl hn name hm, zaa, e]
  have hf := fIdx_any (fun p : PP => adf p.1 == adf name) l
  cases ha : l.any (fun p => adf p.1 == adf name) with
  | true =>
    rw [ha, decide_eq_true_eq] at hf
    rw [if_pos hf, if_pos rfl]
  | false =>
    rw [ha, decide_eq_false_iff_not] at hf
    rw [if_neg hf, if_neg (show ¬ (false = true) by decide)]
    by_cases h : 16 ≤ l.length
    · rw [if_pos omg, if_pos h]
    · rw [if_neg omg, if_neg h]
def parM (s : Str) : Nat → List PP → Nat → List PP × Int × UInt8
  | 0, _, _ => ([], 0, 0)
  | f + 1, l, i =>
    if s.length ≤ aca abo s (i : Int) then (l, 0, 0)
    else if ¬ at_ s ((aca abo s (i : Int) : Nat) : Int) = 59 then ([], ((aca abo s (i : Int) : Nat) : Int), 5)
    else if (anr s (aca abo s ((aca abo s (i : Int) + 1 : Nat) : Int))).2.2.1 = 0 then
      (if roomB l (anr s (aca abo s ((aca abo s (i : Int) + 1 : Nat) : Int))).1.1 = 0 then parM s f (l ++ [(anr s (aca abo s ((aca abo s (i : Int) + 1 : Nat) : Int))).1]) (anr s (aca abo s ((aca abo s (i : Int) + 1 : Nat) : Int))).2.2.2.2.toNat
       else ([], ((aca abo s ((aca abo s (i : Int) + 1 : Nat) : Int) : Nat) : Int), roomB l (anr s (aca abo s ((aca abo s (i : Int) + 1 : Nat) : Int))).1.1))
    else ([], (anr s (aca abo s ((aca abo s (i : Int) + 1 : Nat) : Int))).2.1, (anr s (aca abo s ((aca abo s (i : Int) + 1 : Nat) : Int))).2.2.1)
theorem low2 : ∀ c : UInt8, akf (akf c) = akf c := afz _ (by decide +kernel)
theorem lowlowL (l : Str) : adf (adf l) = adf l := by
  unfold adf
  rw [List.map_map]
  apply List.map_congr_left
  intro c _
  exact low2 c
theorem listP_bd (s : Str) (hs : s.length ≤ 1048576) (b : Nat) (hb : b ≤ s.length) (h0 : (anr s b).2.2.1 = 0) : (anr s b).2.2.2.1 = s ∧ (b : Int) + 1 ≤ (anr s b).2.2.2.2 ∧ (anr s b).2.2.2.2 ≤ (s.length : Int) + 1 ∧ adf (anr s b).1.1 = (anr s b).1.1 ∧ (anr s b).1.1.length ≤ s.length ∧ (anr s b).1.2.1.length ≤ 30000000 := by
  have ht1 := aid abi s b hb
  have ht2 := aeu abi s (b : Int)
  unfold anr at h0 ⊢
  generalize ht : aca abi s (b : Int) = t at ht1 ht2 h0 ⊢
  have hy2 := aeu abo s (t : Int)
  have hy1 := aid abo s t ht2
  have hlen : (adf (sub s (b : Int) (t : Int))).length ≤ s.length := by
    unfold adf; rw [List.length_map, ape]; omega
  by_cases hn : t = b
  · rw [if_pos hn] at h0; exact absurd h0 (show ¬ ((5 : UInt8) = 0) by decide)
  · rw [if_neg hn] at h0 ⊢
    generalize hy : aca abo s (t : Int) = y at hy1 hy2 h0 ⊢
    cases h61 : amt s y 61 with
    | false =>
      rw [if_pos rfl]
      exact ⟨rfl, by simp only; omega, by simp only; omega, lowlowL _, hlen, by simp⟩
    | true =>
      have hyl := (aqc h61).1
      rw [h61, if_neg (show ¬ (true = false) by decide)] at h0
      rw [if_neg (show ¬ (true = false) by decide)]
      have hz1 := aid abo s (y + 1) omg
      have hz2 := aeu abo s ((y + 1 : Nat) : Int)
      generalize hz : aca abo s ((y + 1 : Nat) : Int) = z at hz1 hz2 h0 ⊢
      by_cases hv : (valP s z).2.2 = 0
      · have := valP_bd s hs z hz2
        rw [if_pos hv]
        exact ⟨rfl, by simp only; have := (this.2 hv).1; omega, by simp only; exact (this.2 hv).2, lowlowL _, hlen, this.1⟩
      · rw [if_neg hv] at h0
        exact absurd h0 hv
theorem params_lp (s : Str) (hs : s.length ≤ 1048576) (n : Nat) : ∀ (k fk : Nat) (l : List PP), s.length - k ≤ n → n < fk → k ≤ 1048577 → l.length ≤ 16 →
    afg FU fk l s (k : Int) = some (parM s (n + 1) l k) := by
  have ff : ¬ (false = true) := by decide
  induction n with
  | zero =>
    intro k fk l hn hf hk hl
    obtain ⟨fk, rfl⟩ : ∃ m, fk = m + 1 := ⟨fk - 1, by omega⟩
    have h1 := aeu abo s (k : Int)
    have h2 : s.length ≤ aca abo s (k : Int) := by
      unfold aca ajm
      omega
    rw [afg, apq s hs, zaa, ended_eq, zaa, decide_eq_true omg, cond_true, parM, if_pos h2]
  | succ n ih =>
    intro k fk l hn hf hk hl
    obtain ⟨fk, rfl⟩ : ∃ m, fk = m + 1 := ⟨fk - 1, by omega⟩
    have h1 := aeu abo s (k : Int)
    have hge : k ≤ s.length → k ≤ aca abo s (k : Int) := aid abo s k
    rw [parM, afg, apq s hs, zaa, ended_eq, zaa]
    generalize hj : aca abo s (k : Int) = j at h1 hge ⊢
    by_cases he : s.length ≤ j
    · rw [decide_eq_true omg, cond_true, if_pos he]
    · have hkl : k ≤ s.length := by
        rcases Nat.lt_or_ge s.length k with h | h
        · exfalso
          have : aca abo s (k : Int) = s.length := by
            have a := aeu abo s (k : Int)
            unfold aca ajm at a ⊢
            omega
          omega
        · exact h
      rw [decide_eq_false omg, cond_false, if_neg he, sees_eq, zaa]
      have hjl : j < s.length := by omega
      unfold amt
      rw [decide_eq_true hjl, zao]
      by_cases h59 : at_ s (j : Int) = 59
      · have e59 : (at_ s (j : Int) == 59) = true := by simpa using h59
        rw [e59, zaq, cond_false, if_neg (by simpa using h59)]
        simp only
        rw [gok, apq s hs, zaa, apl]
        have hb2 := aeu abo s ((j + 1 : Nat) : Int)
        have hb1 := aid abo s (j + 1) omg
        generalize hb : aca abo s ((j + 1 : Nat) : Int) = b at hb1 hb2 ⊢
        rw [listed_eq s hs b hb2, zaa]
        by_cases h0 : (anr s b).2.2.1 = 0
        · obtain ⟨g1, g2, g3, g4, g5, g6⟩ := listP_bd s hs b hb2 h0
          rw [if_pos h0, if_pos h0, room_eq l omg, zaa, zaa]
          by_cases hr : roomB l (anr s b).1.1 = 0
          · have hl16 : l.length < 16 := by
              unfold roomB at hr
              split at hr
              · exact absurd hr (by decide)
              · split at hr
                · exact absurd hr (by decide)
                · omega
            have ee : (anr s b).2.2.2.2 = (((anr s b).2.2.2.2.toNat : Nat) : Int) := by omega
            rw [if_pos hr]
            try simp only
            rw [if_pos hr, aac (by simp only [zae]; omega), g1, ee]
            have := ih (anr s b).2.2.2.2.toNat fk (l ++ [(anr s b).1]) omg omg omg (by simp only [zag, zae]; omega)
            rw [this]
            congr 2
          · rw [if_neg hr]
            try simp only
            rw [if_neg hr]
        · rw [if_neg h0, if_neg h0, zaa]
          simp only
          rw [if_neg h0]
      · have e59 : (at_ s (j : Int) == 59) = false := by simpa using h59
        rw [e59, zax, cond_true, if_pos h59]
def parP (s : Str) : List PP × Int × UInt8 := parM s (s.length + 1) [] 0
theorem params_eq (s : Str) (hs : s.length ≤ 1048576) : agn FU s = some (parP s) := by
  unfold agn
  exact params_lp s hs s.length 0 FU [] omg (by rw [ahy]; omega) omg (by simp)
theorem skip_idem (p : UInt8 → Bool) (s : Str) (i : Int) : aca p s ((aca p s i : Nat) : Int) = aca p s i := by
  have hle := aeu p s i
  by_cases h : aca p s i < s.length
  · refine skipL_stop p s _ h ?_
    unfold aca at h ⊢
    generalize ajm i s.length = c at h ⊢
    have : ∀ l : Str, ajk p l < l.length → p (at_ l (ajk p l : Int)) = false := by
      intro l
      induction l with
      | nil => intro h; simp [ajk] at h
      | cons a l ih =>
        intro h
        cases ha : p a with
        | false => simp [ajk, ha, at_]
        | true =>
          have e : ajk p (a :: l) = ajk p l + 1 := by simp [ajk, ha]
          rw [e] at h ⊢
          have := ih (by simp only [zaf] at h; omega)
          simpa [at_] using this
    have h2 := this (s.drop c) (by rw [zav]; omega)
    have e : at_ (s.drop c) (ajk p (s.drop c) : Int) = at_ s ((c + ajk p (s.drop c) : Nat) : Int) := by
      simp only [at_, List.getD_eq_getElem?_getD, List.getElem?_drop]
      congr 2
    rw [e] at h2
    exact h2
  · have : aca p s i = s.length := by omega
    rw [this]
    exact skipL_end p s
def parFin (j : (List PP) ⊕ ((List PP) × Int × UInt8)) : Option ((List PP) × Int × UInt8) := Sum.elim (fun (v376 : List PP) => some (v376, (0 : Int), (0 : UInt8))) (fun q => some q) j
theorem rfParams_lp (s : Str) (hs : s.length ≤ 1048576) (n : Nat) : ∀ (k fk : Nat) (l : List PP), s.length - k ≤ n → n < fk → k ≤ 1048577 → l.length ≤ 16 → (∀ p ∈ l, adf p.1 = p.1 ∧ p.1.length ≤ 1048576) →
    ((afj FU s fk l ((aca abo s (k : Int) : Nat) : Int)).bind parFin) = some (parM s (n + 1) l k) := by
  have ff : ¬ (false = true) := by decide
  induction n with
  | zero =>
    intro k fk l hn hf hk hl hp
    obtain ⟨fk, rfl⟩ : ∃ m, fk = m + 1 := ⟨fk - 1, by omega⟩
    have h1 := aeu abo s (k : Int)
    have h2 : s.length ≤ aca abo s (k : Int) := by
      unfold aca ajm
      omega
    rw [afj, if_neg omg, parM, if_pos h2]; rfl
  | succ n ih =>
    intro k fk l hn hf hk hl hp
    obtain ⟨fk, rfl⟩ : ∃ m, fk = m + 1 := ⟨fk - 1, by omega⟩
    have h1 := aeu abo s (k : Int)
    have hge : k ≤ s.length → k ≤ aca abo s (k : Int) := aid abo s k
    rw [parM, afj]
    by_cases he : s.length ≤ aca abo s (k : Int)
    · rw [if_neg omg, if_pos he]; rfl
    · have hkl : k ≤ s.length := by
        rcases Nat.lt_or_ge s.length k with h | h
        · exfalso
          have : aca abo s (k : Int) = s.length := by
            have a := aeu abo s (k : Int)
            unfold aca ajm at a ⊢
            omega
          omega
        · exact h
      generalize hj : aca abo s (k : Int) = j at h1 hge he ⊢
      rw [if_pos omg, if_neg he, aac omg]
      have hjl : j < s.length := by omega
      by_cases h59 : at_ s (j : Int) = 59
      · rw [if_pos h59, if_neg (by simpa using h59), gok, aly s hs, zaa, apl]
        have hb2 := aeu abo s ((j + 1 : Nat) : Int)
        have hb1 := aid abo s (j + 1) omg
        generalize hb : aca abo s ((j + 1 : Nat) : Int) = b at hb1 hb2 ⊢
        have ht1 := aid abi s b hb2
        have ht2 := aeu abi s (b : Int)
        rw [anl s omg, zaa]
        have app : ∀ (v : Str) (hs' : Bool) (pos : Nat), (b : Int) + 1 ≤ (pos : Int) → (pos : Int) ≤ (s.length : Int) + 1 → ∀ nm : Str, adf nm = nm → nm.length ≤ 1048576 →
            (((ahf FU l nm).bind fun (y726 : UInt8) => (if y726 = (0 : UInt8) then (gd ((l.length + ([(nm, v, hs')] : List PP).length) * 40 ≤ 140737488355328) <| (afj FU s fk (l ++ ([(nm, v, hs')] : List PP)) ((aca abo s (pos : Int) : Nat) : Int))) else some (.inr (([] : List PP), (b : Int), y726)))).bind parFin) = some (if roomB l nm = 0 then parM s (n + 1) (l ++ [(nm, v, hs')]) pos else ([], (b : Int), roomB l nm)) := by
          intro v hs' pos hp1 hp2 nm hnm hnl
          rw [rfRoom_eq l omg (fun p hp' => (hp p hp').2) nm hnl (fun p hp' => (hp p hp').1) hnm, zaa]
          by_cases hr : roomB l nm = 0
          · have hl16 : l.length < 16 := by
              unfold roomB at hr
              split at hr
              · exact absurd hr (by decide)
              · split at hr
                · exact absurd hr (by decide)
                · omega
            rw [if_pos hr, if_pos hr, aac (by simp only [zae]; omega)]
            exact ih pos fk (l ++ [(nm, v, hs')]) omg omg omg (by simp only [zag, zae]; omega) (fun p hp' => by
              rcases List.mem_append.1 hp' with h | h
              · exact hp p h
              · rw [List.mem_singleton.1 h]; exact ⟨hnm, hnl⟩)
          · rw [if_neg hr, if_neg hr]; rfl
        unfold anr
        generalize ht : aca abi s (b : Int) = t at ht1 ht2 ⊢
        by_cases hn' : t = b
        · rw [if_pos omg, if_pos hn', if_neg (show ¬ ((5 : UInt8) = 0) by decide)]; rfl
        · have hy2 := aeu abo s (t : Int)
          have hy1 := aid abo s t ht2
          have hlen : (adf (sub s (b : Int) (t : Int))).length ≤ 1048576 := by
            unfold adf; rw [List.length_map, ape]; omega
          rw [if_neg omg, if_neg hn', aac omg, ako _ (by rw [ape]; omega), zaa, aly s hs, zaa]
          have hid := skip_idem abo s (t : Int)
          generalize hy : aca abo s (t : Int) = y at hy1 hy2 hid ⊢
          rw [rfSees, zaa]
          cases h61 : amt s y 61 with
          | false =>
            rw [cond_false, zaa, zaw, if_pos rfl, if_pos rfl]
            have := app [] false y omg omg (adf (sub s (b : Int) (t : Int))) (lowlowL _) hlen
            rw [hid] at this
            exact this
          | true =>
            have hyl := (aqc h61).1
            rw [cond_true, if_neg (show ¬ (true = false) by decide), gok, aly s hs, zaa, apl]
            have hz1 := aid abo s (y + 1) omg
            have hz2 := aeu abo s ((y + 1 : Nat) : Int)
            generalize hz : aca abo s ((y + 1 : Nat) : Int) = z at hz1 hz2 ⊢
            rw [value_eq s hs z hz2, zaa]
            by_cases hv : (valP s z).2.2 = 0
            · have hbd := (valP_bd s hs z hz2).2 hv
              obtain ⟨pos, hpos⟩ : ∃ pos : Nat, (valP s z).2.1 = (pos : Int) := ⟨(valP s z).2.1.toNat, by omega⟩
              rw [if_pos hv, aly s hs, zaa, zaa, zaw, if_pos hv, if_pos rfl, hpos]
              have := app (valP s z).1 true pos omg omg (adf (sub s (b : Int) (t : Int))) (lowlowL _) hlen
              exact this
            · rw [if_neg hv, zaa, Sum.elim_inr, if_neg hv, if_neg hv]; rfl
      · rw [if_neg h59, if_pos h59]; rfl
theorem rfParams_eq (s : Str) (hs : s.length ≤ 1048576) : alp FU s = some (parP s) := by
  unfold alp
  rw [aly s hs, zaa]
  exact rfParams_lp s hs s.length 0 FU [] omg (by rw [ahy]; omega) omg (by simp) (by simp)
def itemE (s : Str) : Nat := if aca abi s 0 = 0 then 0 else if amt s (aca abi s 0) 47 = true then (if aca abi s ((aca abi s 0 + 1 : Nat) : Int) = aca abi s 0 + 1 then 0 else aca abi s ((aca abi s 0 + 1 : Nat) : Int)) else aca abi s 0
theorem itemE_le (s : Str) : itemE s ≤ s.length := by
  have h1 := aeu abi s 0
  have h2 := aeu abi s ((aca abi s 0 + 1 : Nat) : Int)
  unfold itemE
  split
  · omega
  · split
    · split <;> omega
    · exact h1
theorem itemEnd_eq (s : Str) (hs : s.length ≤ 1048576) : ajd FU s = some ((itemE s : Nat) : Int) := by
  have h1 := aeu abi s 0
  unfold ajd itemE
  rw [anl s omg, zaa]
  generalize aca abi s 0 = k at h1 ⊢
  by_cases h0 : k = 0
  · subst h0; rfl
  · rw [if_neg omg, if_neg h0]
    by_cases hl : k = s.length
    · have : amt s k 47 = false := by unfold amt; rw [decide_eq_false omg]; rfl
      rw [if_pos omg, zaa, cond_true, this, if_neg (by decide)]
    · rw [if_neg omg, aac omg, zaa]
      unfold amt
      rw [decide_eq_true (show k < s.length by omega), zao]
      by_cases h47 : at_ s (k : Int) = 47
      · rw [decide_eq_true h47, zaq, cond_false, gok, anl s omg, zaa, gok, apl, show (at_ s (k : Int) == 47) = true by simpa using h47, if_pos rfl]
        by_cases he : aca abi s ((k + 1 : Nat) : Int) = k + 1
        · rw [if_pos omg, if_pos he]; rfl
        · rw [if_neg omg, if_neg he]
      · rw [decide_eq_false h47, zax, cond_true, show (at_ s (k : Int) == 47) = false by simpa using h47, if_neg (by decide)]
def itemP (v : Str) : (Str × List PP) × UInt8 :=
  if itemE (apx v) = 0 then (([], []), 5)
  else if (parP ((apx v).drop (itemE (apx v)))).2.2 = 0 then (((apx v).take (itemE (apx v)), (parP ((apx v).drop (itemE (apx v)))).1), 0)
  else (([], []), (parP ((apx v).drop (itemE (apx v)))).2.2)
theorem rfItem_eq (v : Str) (hv : v.length ≤ 1048576) : ann FU v = some (itemP v) := by
  have hl := trimL_len v
  unfold ann itemP
  rw [refTrim_eq v hv, zaa, itemEnd_eq _ omg, zaa]
  have he := itemE_le (apx v)
  generalize itemE (apx v) = e at he ⊢
  have et : ((e : Nat) : Int).toNat = e := by omega
  by_cases h0 : e = 0
  · rw [if_pos omg, if_pos h0]
  · rw [if_neg omg, if_neg h0, aac omg, et, rfParams_eq _ (by rw [zav]; omega), zaa]
    by_cases hp : (parP ((apx v).drop e)).2.2 = 0
    · rw [if_pos hp, if_pos hp, aac omg]
    · rw [if_neg hp, if_neg hp]
theorem item_eq (v : Str) (hv : v.length ≤ 1048576) : amm FU v = some (itemP v) := by
  have hl := trimL_len v
  have h1 := aeu abi (apx v) 0
  unfold amm itemP itemE
  rw [trim_eq v hv, zaa, tokEndP_eq _ omg, zaa]
  generalize apx v = s at hl h1 ⊢
  have fin : ∀ e : Nat, e ≤ s.length → e ≠ 0 → Sum.elim (fun (v41 : Int) => (gd (0 ≤ v41 ∧ v41 ≤ (s.length : Int)) <| ((agn FU (zar (zad v41) s)).bind fun (y66 : ((List PP) × Int × UInt8)) => (if y66.2.2 = (0 : UInt8) then (gd (0 ≤ v41 ∧ v41 ≤ (s.length : Int)) <| some ((zaz (zad v41) s, y66.1), (0 : UInt8))) else some ((([] : Str), ([] : List PP)), y66.2.2))))) (fun q => some q) (.inl (e : Int) : Int ⊕ ((Str × List PP) × UInt8)) = some (if e = 0 then (([], []), 5) else if (parP (s.drop e)).2.2 = 0 then ((s.take e, (parP (s.drop e)).1), 0) else (([], []), (parP (s.drop e)).2.2)) := by
    intro e he h0
    have et : ((e : Nat) : Int).toNat = e := by omega
    rw [zaw, aac omg, et, params_eq _ (by rw [zav]; omega), zaa, if_neg h0]
    by_cases hp : (parP (s.drop e)).2.2 = 0
    · rw [if_pos hp, if_pos hp, aac omg]
    · rw [if_neg hp, if_neg hp]
  generalize aca abi s 0 = k at h1 ⊢
  by_cases h0 : k = 0
  · subst h0; rfl
  · rw [if_neg omg, rfSees, zaa, if_neg h0]
    cases h47 : amt s k 47 with
    | true =>
      have hk := (aqc h47).1
      have h2 := aeu abi s ((k + 1 : Nat) : Int)
      have h3 := aid abi s (k + 1) omg
      rw [cond_true, gok, tokEndP_eq _ omg, zaa, gok, apl, if_pos rfl]
      by_cases he : aca abi s ((k + 1 : Nat) : Int) = k + 1
      · rw [if_pos omg, if_pos he]; rfl
      · rw [if_neg omg, if_neg he, zaa, fin _ h2 omg]
    | false =>
      rw [cond_false, zaa, if_neg (show ¬ (false = true) by decide), fin _ h1 h0]
end Go.Wk
set_option linter.unusedVariables false
set_option linter.unusedSimpArgs false
set_option maxRecDepth 100000
namespace Go.Wk
open Go.Px
open Bool renaming and_eq_true → zau, false_or → zaG, not_false → zax, not_true → zaq, true_and → zao
open Go.Lib renaming join → zaB
open Int renaming toNat → zad
open List renaming append_nil → zay, length_append → zag, length_cons → zaf, length_nil → zas, length_singleton → zae, take → zaz
open Option renaming bind_some → zaa
open Sum renaming elim_inl → zaw
def quoT (s : Str) : Str := 34 :: (s.flatMap ali ++ [34])
def quoM (s : Str) : Str × UInt8 := if s.any abz = true then ([], 5) else (quoT s, 0)
theorem qstep_len (c : UInt8) : (ali c).length ≤ 2 := by unfold ali; split <;> simp
theorem apm : ∀ s : Str, (s.flatMap ali).length ≤ 2 * s.length
  | [] => by simp
  | c :: l => by
    have h1 := qstep_len c
    have h2 := apm l
    rw [List.flatMap_cons, zag, zaf]; omega
theorem quo_lp (s : Str) (hs : s.length ≤ 1048576) (l : Str) : ∀ (p : Str) (fk : Nat), s = p ++ l → l.length < fk →
    afb FU s fk (34 :: p.flatMap ali) (p.length : Int) = some (if l.any abz = true then .inr ([], 5) else .inl (34 :: s.flatMap ali)) := by
  induction l with
  | nil =>
    intro p fk h hf
    obtain ⟨fk, rfl⟩ : ∃ m, fk = m + 1 := ⟨fk - 1, by omega⟩
    rw [zay] at h
    subst h
    rw [afb, if_neg omg]; rfl
  | cons c l ih =>
    intro p fk h hf
    obtain ⟨fk, rfl⟩ : ∃ m, fk = m + 1 := ⟨fk - 1, by omega⟩
    have hl := congrArg List.length h
    simp only [zag, zaf] at hl hf
    have hb : (0 : Int) ≤ (p.length : Int) ∧ (p.length : Int) < (s.length : Int) := by omega
    have ha : at_ s (p.length : Int) = c := by rw [h, at_mid]
    have hq := apm p
    have hih := ih (p ++ [c]) fk (by rw [h]; simp) omg
    rw [← alr p c, List.flatMap_append, List.flatMap_singleton] at hih
    rw [afb, if_pos hb.2, aac hb, ha, char_control, zaa, List.any_cons]
    cases hc : abz c with
    | true => rw [cond_true, Bool.true_or, if_pos rfl]
    | false =>
      rw [cond_false, zaG]
      have hq34 : ∀ b : Bool, ali c = (bif b then [92, c] else [c]) → (bif b then gd (((34 :: p.flatMap ali).length + ([(92 : UInt8)] : List UInt8).length) * 1 ≤ 140737488355328) (some ((34 :: p.flatMap ali) ++ ([(92 : UInt8)] : List UInt8))) else some (34 :: p.flatMap ali)) = some ((34 :: p.flatMap ali) ++ (bif b then [92] else [])) := by
        intro b _
        cases b with
        | true => rw [cond_true, cond_true, aac (by simp only [zaf, zas]; omega)]
        | false => rw [cond_false, cond_false, zay]
      have fin : ∀ b : Bool, ali c = (bif b then [92, c] else [c]) → ((some ((34 :: p.flatMap ali) ++ (bif b then [92] else []))).bind fun (v394 : List UInt8) => (gd (0 ≤ (p.length : Int) ∧ (p.length : Int) < (s.length : Int)) <| (gd ((v394.length + ([c] : List UInt8).length) * 1 ≤ 140737488355328) <| (gd (acj ((p.length : Int) + (1 : Int))) <| (afb FU s fk (v394 ++ ([c] : List UInt8)) ((p.length : Int) + (1 : Int))))))) = some (if l.any abz = true then .inr ([], 5) else .inl (34 :: s.flatMap ali)) := by
        intro b hqb
        rw [zaa, aac hb, aac (by cases b <;> simp only [cond_true, cond_false, zag, zaf, zas] <;> omega), aac (ajn _ omg omg), ← hih, hqb]
        cases b <;> simp
      by_cases h34 : c = 34
      · have e : ali c = (bif true then [92, c] else [c]) := by rw [h34]; rfl
        rw [if_pos h34, zaa, hq34 true e, fin true e]
      · rw [if_neg h34, zaa]
        by_cases h92 : c = 92
        · have e : ali c = (bif true then [92, c] else [c]) := by rw [h92]; rfl
          rw [decide_eq_true h92, hq34 true e, fin true e]
        · have e : ali c = (bif false then [92, c] else [c]) := by unfold ali; rw [if_neg (by simp [h34, h92])]; rfl
          rw [decide_eq_false h92, hq34 false e, fin false e]
theorem quote_eq (s : Str) (hs : s.length ≤ 1048576) : aky FU s = some (quoM s) := by
  have := quo_lp s hs s [] FU (by simp) (by rw [ahy]; omega)
  have this' : afb FU s FU (([] : List UInt8) ++ ([(34 : UInt8)] : List UInt8)) (0 : Int) = _ := this
  have hq := apm s
  unfold aky quoM
  rw [aac (ajn _ omg omg), aac omg, aac (by decide), this', zaa]
  cases s.any abz with
  | true => rfl
  | false => rw [if_neg (show ¬ (false = true) by decide), zaw, aac (by simp only [zaf, zas]; omega), if_neg (show ¬ (false = true) by decide)]; rfl
theorem rfQuo_lp (s : Str) (hs : s.length ≤ 1048576) (l : Str) : ∀ (p : Str) (fk : Nat), s = p ++ l → l.length < fk →
    afa FU s fk (34 :: p.flatMap ali) (p.length : Int) = some (if l.any abz = true then .inr ([], 5) else .inl (34 :: s.flatMap ali)) := by
  induction l with
  | nil =>
    intro p fk h hf
    obtain ⟨fk, rfl⟩ : ∃ m, fk = m + 1 := ⟨fk - 1, by omega⟩
    rw [zay] at h
    subst h
    rw [afa, if_neg omg]; rfl
  | cons c l ih =>
    intro p fk h hf
    obtain ⟨fk, rfl⟩ : ∃ m, fk = m + 1 := ⟨fk - 1, by omega⟩
    have hl := congrArg List.length h
    simp only [zag, zaf] at hl hf
    have hb : (0 : Int) ≤ (p.length : Int) ∧ (p.length : Int) < (s.length : Int) := by omega
    have ha : at_ s (p.length : Int) = c := by rw [h, at_mid]
    have hq := apm p
    have hih := ih (p ++ [c]) fk (by rw [h]; simp) omg
    rw [← alr p c, List.flatMap_append, List.flatMap_singleton] at hih
    rw [afa, if_pos hb.2]
    simp only [aac hb, ha]
    rw [aqd, zaa, List.any_cons]
    cases hc : abz c with
    | true => rw [cond_true, Bool.true_or, if_pos rfl]
    | false =>
      rw [cond_false, zaG]
      have hq34 : ∀ b : Bool, ali c = (bif b then [92, c] else [c]) → (bif b then gd (((34 :: p.flatMap ali).length + ([(92 : UInt8)] : List UInt8).length) * 1 ≤ 140737488355328) (some ((34 :: p.flatMap ali) ++ ([(92 : UInt8)] : List UInt8))) else some (34 :: p.flatMap ali)) = some ((34 :: p.flatMap ali) ++ (bif b then [92] else [])) := by
        intro b _
        cases b with
        | true => rw [cond_true, cond_true, aac (by simp only [zaf, zas]; omega)]
        | false => rw [cond_false, cond_false, zay]
      have fin : ∀ b : Bool, ali c = (bif b then [92, c] else [c]) → ((some ((34 :: p.flatMap ali) ++ (bif b then [92] else []))).bind fun (v429 : List UInt8) => (gd ((v429.length + ([c] : List UInt8).length) * 1 ≤ 140737488355328) <| (gd (acj ((p.length : Int) + (1 : Int))) <| (afa FU s fk (v429 ++ ([c] : List UInt8)) ((p.length : Int) + (1 : Int)))))) = some (if l.any abz = true then .inr ([], 5) else .inl (34 :: s.flatMap ali)) := by
        intro b hqb
        rw [zaa, aac (by cases b <;> simp only [cond_true, cond_false, zag, zaf, zas] <;> omega), aac (ajn _ omg omg), ← hih, hqb]
        cases b <;> simp
      by_cases h34 : c = 34
      · have e : ali c = (bif true then [92, c] else [c]) := by rw [h34]; rfl
        rw [if_pos h34, zaa, hq34 true e, fin true e]
      · rw [if_neg h34, zaa]
        by_cases h92 : c = 92
        · have e : ali c = (bif true then [92, c] else [c]) := by rw [h92]; rfl
          rw [decide_eq_true h92, hq34 true e, fin true e]
        · have e : ali c = (bif false then [92, c] else [c]) := by unfold ali; rw [if_neg (by simp [h34, h92])]; rfl
          rw [decide_eq_false h92, hq34 false e, fin false e]
theorem rfQuote_eq (s : Str) (hs : s.length ≤ 1048576) : amj FU s = some (quoM s) := by
  have := rfQuo_lp s hs s [] FU (by simp) (by rw [ahy]; omega)
  have this' : afa FU s FU ([(34 : UInt8)] : List UInt8) (0 : Int) = _ := this
  have hq := apm s
  unfold amj quoM
  rw [this', zaa]
  cases s.any abz with
  | true => rfl
  | false => rw [if_neg (show ¬ (false = true) by decide), zaw, aac (by simp only [zaf, zas]; omega), if_neg (show ¬ (false = true) by decide)]; rfl
theorem quoT_len (s : Str) : (quoT s).length ≤ 2 * s.length + 2 := by
  have := apm s
  unfold quoT
  rw [zaf, zag, zae]; omega
theorem plain_eq (s : Str) (hs : s.length ≤ 1048576) : akw FU s = some (!s.any abz) := by
  have h := all_gen0 (fun c => !abz c) s hs false (aft FU s)
    (fun fk => by rw [aft, if_neg omg])
    (fun fk k hk h => by
      have h' : abz (at_ s (k : Int)) = true := by simpa using h
      rw [aft, if_pos omg, gok, aqd, zaa, h', cond_true])
    (fun fk k hk h => by
      have h' : abz (at_ s (k : Int)) = false := by simpa using h
      rw [aft, if_pos omg, gok, aqd, zaa, h', cond_false, gok])
  unfold akw
  rw [h, zaa]
  have e : s.all (fun c => !abz c) = !s.any abz := by rw [List.not_any_eq_all_not]
  rw [e]
  cases s.any abz <;> rfl
theorem tok_nc : ∀ c : UInt8, abi c = true → abz c = false := afz _ (by decide +kernel)
theorem hex_nc : ∀ c : UInt8, hexB c = true → abz (akf c) = false := afz _ (by decide +kernel)
theorem lab_nc : ∀ c : UInt8, labB c = true → abz (akf c) = false := afz _ (by decide +kernel)
theorem dig_nc : ∀ c : UInt8, ags c = true → abz c = false := afz _ (by decide +kernel)
theorem any_f (l : Str) (h : ∀ c ∈ l, abz c = false) : l.any abz = false := by
  rw [List.any_eq_false]; intro c hc; rw [h c hc]; decide
theorem isTok_nc (s : Str) (h : amd s = true) : s.any abz = false := by
  unfold amd at h
  rw [zau] at h
  exact any_f s fun c hc => tok_nc c (List.all_eq_true.1 h.2 c hc)
theorem grpN_nc (g : Str) (h : amb g = true) : ∀ c ∈ grpN g, abz c = false := by
  have hx : g.all hexB = true := by unfold amb at h; simp only [zau] at h; exact h.2
  intro c hc
  unfold grpN at hc
  split at hc
  · rw [List.mem_singleton.1 hc]; decide
  · have hm : c ∈ lowP g := (List.dropWhile_suffix _).subset hc
    obtain ⟨d, hd, rfl⟩ := List.mem_map.1 hm
    exact hex_nc d (List.all_eq_true.1 hx d hd)
theorem join_nc : ∀ (l : List Str), (∀ x ∈ l, ∀ c ∈ x, abz c = false) → ∀ c ∈ zaB l [58], abz c = false
  | [], _, c, hc => by simp [zaB, List.intercalate] at hc
  | [a], h, c, hc => by
    simp [zaB, List.intercalate] at hc
    exact h a (by simp) c hc
  | a :: b :: l, h, c, hc => by
    have e : zaB (a :: b :: l) [58] = a ++ (58 :: zaB (b :: l) [58]) := by simp [zaB, List.intercalate, List.intersperse]
    rw [e] at hc
    rcases List.mem_append.1 hc with hc | hc
    · exact h a (by simp) c hc
    · rcases List.mem_cons.1 hc with rfl | hc
      · decide
      · exact join_nc (b :: l) (fun x hx => h x (List.mem_cons_of_mem _ hx)) c hc
theorem grpList_nc (s : Str) : ∀ x ∈ (ahw s).1, ∀ c ∈ x, abz c = false := by
  intro x hx
  unfold ahw at hx
  split at hx
  · rename_i ha
    obtain ⟨y, hy, rfl⟩ := List.mem_map.1 hx
    exact grpN_nc y (List.all_eq_true.1 ha y hy)
  · simp at hx
theorem grpL0_nc (s : Str) : ∀ x ∈ (aio s).1, ∀ c ∈ x, abz c = false := by
  intro x hx
  unfold aio at hx
  split at hx
  · simp at hx
  · exact grpList_nc s x hx
theorem grpsP_nc (s : Str) : ∀ c ∈ (grpsP s).1, abz c = false := by
  intro c hc
  unfold grpsP at hc
  split at hc
  · simp at hc
  · split at hc
    · exact join_nc _ (grpList_nc s) c hc
    · split at hc
      · simp at hc
      · rcases List.mem_append.1 hc with hc | hc
        · rcases List.mem_append.1 hc with hc | hc
          · exact join_nc _ (grpL0_nc _) c hc
          · have h58 : c = 58 := by simpa using hc
            rw [h58]; decide
        · exact join_nc _ (grpL0_nc _) c hc
theorem hostP_nc (s : Str) : ((aot s).1).any abz = false := by
  refine any_f _ fun c hc => ?_
  unfold aot at hc
  split at hc
  · split at hc
    · rcases List.mem_append.1 hc with hc | hc
      · rcases List.mem_append.1 hc with hc | hc
        · rw [List.mem_singleton.1 hc]; decide
        · exact grpsP_nc _ c hc
      · rw [List.mem_singleton.1 hc]; decide
    · simp at hc
  · split at hc
    · rename_i hn
      unfold numsP at hn
      simp only [zau] at hn
      rcases spl_all 46 ags s (fun x hx => (num_parts x (by rw [← oct_num]; exact List.all_eq_true.1 hn.1.2 x hx)).2.2) c hc with h | h
      · exact dig_nc c h
      · rw [h]; decide
    · split at hc
      · rename_i hn
        unfold namedP at hn
        simp only [zau] at hn
        obtain ⟨d, hd, rfl⟩ := List.mem_map.1 hc
        rcases spl_all 46 labB s (fun x hx => by
          have := List.all_eq_true.1 hn.1.2 x hx
          unfold apn at this
          simp only [zau] at this
          exact this.2) d hd with h | h
        · exact lab_nc d h
        · rw [h]; decide
      · simp at hc
def brV (v : Str) : Bool := (aot v).2 && decide ((aot v).1 = v) && (at_ v 0 == 91)
def okN (pre : List PP) (p : PP) : Bool := amd p.1 && decide (adf p.1 = p.1) && !(pre.any fun q => q.1 == p.1)
def okV (p : PP) : Bool := bif p.2.2 then !p.2.1.any abz else decide (p.2.1 = [])
def txt (p : PP) : Str := bif p.2.2 then 61 :: (bif amd p.2.1 || brV p.2.1 then p.2.1 else quoT p.2.1) else []
def ppL : List PP → List PP → Option Str
  | _, [] => some []
  | pre, p :: r => bif okN pre p && okV p then (ppL (pre ++ [p]) r).map fun t => 59 :: (p.1 ++ (txt p ++ t)) else none
def ppM (l : List PP) : Str × UInt8 := if 16 < l.length then ([], 2) else match ppL [] l with | some t => (t, 0) | none => ([], 2)
theorem brV_nc (v : Str) (h : brV v = true) : v.any abz = false := by
  unfold brV at h
  simp only [zau, decide_eq_true_eq] at h
  rw [← h.1.2]; exact hostP_nc v
theorem host_ne (v : Str) (h : (aot v).2 = true) (h2 : (aot v).1 = v) : v ≠ [] := by
  intro e
  subst e
  exact absurd h (by decide)
theorem txt_len (p : PP) (h1 : p.2.1.length ≤ 1048576) : (txt p).length ≤ 2097155 := by
  have := quoT_len p.2.1
  unfold txt
  cases p.2.2 with
  | false => simp
  | true =>
    rw [cond_true, zaf]
    cases (amd p.2.1 || brV p.2.1) with
    | true => rw [cond_true]; omega
    | false => rw [cond_false]; omega
theorem pp_lp (l : List PP) (hl : l.length ≤ 16) (hb : ∀ p ∈ l, p.1.length ≤ 1048576 ∧ p.2.1.length ≤ 1048576) (r : List PP) : ∀ (pre : List PP) (fk : Nat) (out : Str), l = pre ++ r → r.length < fk → out.length ≤ pre.length * 4000000 →
    ack FU l fk (pre.length : Int) out = some (match ppL pre r with | some t => .inl (out ++ t) | none => .inr ([], 2)) := by
  induction r with
  | nil =>
    intro pre fk out h hf ho
    obtain ⟨fk, rfl⟩ : ∃ m, fk = m + 1 := ⟨fk - 1, by omega⟩
    rw [zay] at h
    rw [ack, if_neg (by rw [h]; omega)]; simp [ppL]
  | cons p r ih =>
    intro pre fk out h hf ho
    obtain ⟨fk, rfl⟩ : ∃ m, fk = m + 1 := ⟨fk - 1, by omega⟩
    have hlen := congrArg List.length h
    simp only [zag, zaf] at hlen hf
    have hin : (0 : Int) ≤ (pre.length : Int) ∧ (pre.length : Int) < (l.length : Int) := by omega
    have he : el l (pre.length : Int) = p := by rw [h]; simp [el]
    have htk : zaz (zad (pre.length : Int)) l = pre := by rw [h]; simp
    have hbp := hb p (by rw [h]; simp)
    have ht := txt_len p hbp.2
    have hok : acj ((pre.length : Int) + 1) := ajn _ omg omg
    have next : ∀ o : Str, o = out ++ (59 :: (p.1 ++ txt p)) → okN pre p = true → okV p = true → ack FU l fk ((pre.length : Int) + 1) o = some (match ppL pre (p :: r) with | some t => .inl (out ++ t) | none => .inr ([], 2)) := by
      intro o ho' h1 h2
      have hih := ih (pre ++ [p]) fk o (by rw [h]; simp) omg (by rw [ho']; simp only [zag, zaf, zas]; omega)
      rw [show ((pre ++ [p]).length : Int) = (pre.length : Int) + 1 by simp] at hih
      rw [hih, ppL, h1, h2, zao, cond_true]
      cases ppL (pre ++ [p]) r with
      | none => rfl
      | some t => rw [ho']; simp
    have bad : okN pre p = false ∨ okV p = false → ppL pre (p :: r) = none := by
      rintro (h | h)
      · rw [ppL, h]; rfl
      · rw [ppL, h, Bool.and_false]; rfl
    rw [ack, if_pos hin.2, aac hin, aac hin, he, token_eq _ omg, zaa]
    cases h1 : amd p.1 with
    | false =>
      rw [bad (.inl (by unfold okN; rw [h1]; rfl))]; rfl
    | true =>
      rw [zaq, cond_false, adLower_eq _ hbp.1, zaa]
      by_cases h2 : p.1 = adf p.1
      · rw [if_pos h2, aac omg, htk, holds_eq pre omg, zaa, zaa]
        cases h3 : pre.any fun q => q.1 == p.1 with
        | true => rw [bad (.inl (by unfold okN; rw [h3]; simp))]; rfl
        | false =>
          have hN : okN pre p = true := by unfold okN; rw [h1, h3, decide_eq_true h2.symm]; rfl
          rw [cond_false, aac (by simp only [zae]; omega)]
          unfold abx
          rw [aac (by simp only [zag, zae]; omega), zaa]
          simp only
          cases h4 : p.2.2 with
          | false =>
            rw [zax, cond_true]
            by_cases h5 : p.2.1 = []
            · have hV : okV p = true := by unfold okV; rw [h4, cond_false]; exact decide_eq_true h5
              rw [if_pos h5, aac hok]
              refine next _ ?_ hN hV
              have : txt p = [] := by unfold txt; rw [h4]; rfl
              rw [this]; simp
            · have hV : okV p = false := by unfold okV; rw [h4, cond_false]; exact decide_eq_false h5
              rw [if_neg h5, bad (.inr hV)]
          | true =>
            have hVe : okV p = !p.2.1.any abz := by unfold okV; rw [h4]; rfl
            rw [zaq, cond_false, adHost_eq _ hbp.2, zaa, token_eq _ omg, zaa]
            have e : (bif (!amd p.2.1) then (bif (aot p.2.1).2 then (if (aot p.2.1).1 = p.2.1 then (gd (0 ≤ (0 : Int) ∧ (0 : Int) < (p.2.1.length : Int)) <| some (!decide ((at_ p.2.1 (0 : Int)) = (91 : UInt8)))) else some true) else some true) else some false) = some (!(amd p.2.1 || brV p.2.1)) := by
              unfold brV
              cases amd p.2.1 with
              | true => rfl
              | false =>
                rw [zax, cond_true, zaG]
                cases h6 : (aot p.2.1).2 with
                | false => rfl
                | true =>
                  rw [cond_true, zao]
                  by_cases h7 : (aot p.2.1).1 = p.2.1
                  · have := List.length_pos_iff.2 (host_ne p.2.1 h6 h7)
                    rw [if_pos h7, decide_eq_true h7, aac omg, zao]; rfl
                  · rw [if_neg h7, decide_eq_false h7]; rfl
            rw [e, zaa]
            cases h5 : (amd p.2.1 || brV p.2.1) with
            | true =>
              have hnc : p.2.1.any abz = false := by
                rcases Bool.or_eq_true_iff.1 h5 with h | h
                · exact isTok_nc _ h
                · exact brV_nc _ h
              rw [zaq, cond_false, zaa, zaw, aac (by simp only [zae]; omega), aac (by simp only [zag, zae]; omega), zaa, aac hok]
              refine next _ ?_ hN (by rw [hVe, hnc]; rfl)
              have : txt p = 61 :: p.2.1 := by unfold txt; rw [h4, h5]; rfl
              rw [this]; simp
            | false =>
              rw [zax, cond_true, quote_eq _ hbp.2, zaa]
              unfold quoM
              have hq := quoT_len p.2.1
              cases h6 : p.2.1.any abz with
              | true =>
                rw [if_pos rfl, if_neg (show ¬ ((5 : UInt8) = 0) by decide), zaa, Sum.elim_inr, bad (.inr (by rw [hVe, h6]; rfl))]
              | false =>
                rw [if_neg (show ¬ (false = true) by decide), if_pos rfl, zaa, zaw]
                simp only
                rw [aac (by simp only [zae]; omega), aac (by simp only [zag, zae]; omega), zaa, aac hok]
                refine next _ ?_ hN (by rw [hVe, h6]; rfl)
                have : txt p = 61 :: quoT p.2.1 := by unfold txt; rw [h4, h5]; rfl
                rw [this]; simp
      · rw [if_neg h2, zaa, cond_true, bad (.inl (by unfold okN; rw [decide_eq_false (fun h => h2 h.symm)]; simp))]
theorem ppL_len : ∀ (r pre : List PP) (t : Str), (∀ p ∈ r, p.1.length ≤ 1048576 ∧ p.2.1.length ≤ 1048576) → ppL pre r = some t → t.length ≤ r.length * 4000000
  | [], _, t, _, h => by simp [ppL] at h; subst h; simp
  | p :: r, pre, t, hb, h => by
    rw [ppL] at h
    cases hk : okN pre p && okV p with
    | false => rw [hk] at h; cases h
    | true =>
      rw [hk, cond_true, Option.map_eq_some_iff] at h
      obtain ⟨u, hu, rfl⟩ := h
      have := ppL_len r _ u (fun q hq => hb q (List.mem_cons_of_mem _ hq)) hu
      have hbp := hb p List.mem_cons_self
      have ht := txt_len p hbp.2
      simp only [zaf, zag]
      omega
theorem printParams_eq (l : List PP) (hb : ∀ p ∈ l, p.1.length ≤ 1048576 ∧ p.2.1.length ≤ 1048576) : adq FU l = some (ppM l) := by
  unfold adq ppM
  by_cases h : 16 < l.length
  · rw [if_pos omg, if_pos h]
  · have := pp_lp l omg hb l [] FU [] (by simp) (by rw [ahy]; omega) (by simp)
    have this' : ack FU l FU (0 : Int) [] = _ := this
    rw [if_neg omg, if_neg h, this', zaa]
    cases hp : ppL [] l with
    | none => rfl
    | some t =>
      have := ppL_len l [] t hb hp
      rw [zaw, List.nil_append, aac omg]
end Go.Wk
set_option linter.unusedVariables false
set_option linter.unusedSimpArgs false
set_option maxRecDepth 100000
namespace Go.Wk
open Go.Px
open Bool renaming and_eq_true → zau, not_false → zax, not_true → zaq, true_and → zao
open Int renaming toNat → zad
open List renaming append_nil → zay, length_append → zag, length_cons → zaf, length_drop → zav, length_nil → zas, length_singleton → zae, length_take → zah, take → zaz
open Option renaming bind_some → zaa
theorem brk2_eq (v : Str) (hv : v.length ≤ 1048576) : ahj FU v = some (brV v) := by
  unfold ahj brV
  rw [rfHost_eq v hv, zaa]
  cases h6 : (aot v).2 with
  | false => rfl
  | true =>
    rw [cond_true, zao]
    by_cases h7 : (aot v).1 = v
    · have := List.length_pos_iff.2 (host_ne v h6 h7)
      rw [if_pos h7, decide_eq_true h7, aac omg, zao]; rfl
    · rw [if_neg h7, decide_eq_false h7]; rfl
def ppR : List PP → List PP → Option Str
  | _, [] => some []
  | pre, p :: r => bif okN pre p && okV p && decide (pre.length < 16) then (ppR (pre ++ [p]) r).map fun t => 59 :: (p.1 ++ (txt p ++ t)) else none
theorem ppR_eq : ∀ (r pre : List PP), pre.length + r.length ≤ 16 → ppR pre r = ppL pre r
  | [], _, _ => rfl
  | p :: r, pre, h => by
    simp only [zaf] at h
    rw [ppR, ppL, decide_eq_true (show pre.length < 16 by omega), Bool.and_true, ppR_eq r _ (by simp only [zag, zae]; omega)]
theorem ppR_none : ∀ (r pre : List PP), pre.length ≤ 16 → 16 < pre.length + r.length → ppR pre r = none
  | [], pre, h1, h2 => by simp only [zas] at h2; omega
  | p :: r, pre, h1, h2 => by
    simp only [zaf] at h2
    rw [ppR]
    by_cases h : pre.length < 16
    · rw [ppR_none r _ (by simp only [zag, zae]; omega) (by simp only [zag, zae]; omega)]
      cases (okN pre p && okV p && decide (pre.length < 16)) <;> rfl
    · rw [decide_eq_false h, Bool.and_false]; rfl
theorem room0 (pre : List PP) (nm : Str) : (roomB pre nm = 0) ↔ ((pre.any fun q => q.1 == nm) = false ∧ pre.length < 16) := by
  unfold roomB
  cases pre.any fun q => q.1 == nm with
  | true => simp
  | false =>
    rw [if_neg (show ¬ (false = true) by decide)]
    by_cases h : 16 ≤ pre.length
    · rw [if_pos h]; simp; omega
    · rw [if_neg h]; simp; omega
theorem rfpp_lp (l : List PP) (hl : l.length ≤ 100) (hb : ∀ p ∈ l, p.1.length ≤ 1048576 ∧ p.2.1.length ≤ 1048576) (r : List PP) : ∀ (pre : List PP) (fk : Nat) (out : Str), l = pre ++ r → r.length < fk → out.length ≤ pre.length * 4000000 → (∀ q ∈ pre, adf q.1 = q.1) →
    acn FU l fk out (pre.length : Int) = some (match ppR pre r with | some t => .inl (out ++ t) | none => .inr ([], 2)) := by
  induction r with
  | nil =>
    intro pre fk out h hf ho hlow
    obtain ⟨fk, rfl⟩ : ∃ m, fk = m + 1 := ⟨fk - 1, by omega⟩
    rw [zay] at h
    rw [acn, if_neg (by rw [h]; omega)]; simp [ppR]
  | cons p r ih =>
    intro pre fk out h hf ho hlow
    obtain ⟨fk, rfl⟩ : ∃ m, fk = m + 1 := ⟨fk - 1, by omega⟩
    have hlen := congrArg List.length h
    simp only [zag, zaf] at hlen hf
    have hin : (0 : Int) ≤ (pre.length : Int) ∧ (pre.length : Int) < (l.length : Int) := by omega
    have hin2 : (0 : Int) ≤ (pre.length : Int) ∧ (pre.length : Int) ≤ (l.length : Int) := by omega
    have he : el l (pre.length : Int) = p := by rw [h]; simp [el]
    have htk : zaz (zad (pre.length : Int)) l = pre := by rw [h]; simp
    have hbp := hb p (by rw [h]; simp)
    have ht := txt_len p hbp.2
    have hq := quoT_len p.2.1
    have hok : acj ((pre.length : Int) + 1) := ajn _ omg omg
    have next : ∀ o : Str, o = out ++ (59 :: (p.1 ++ txt p)) → okN pre p = true → okV p = true → pre.length < 16 → acn FU l fk o ((pre.length : Int) + 1) = some (match ppR pre (p :: r) with | some t => .inl (out ++ t) | none => .inr ([], 2)) := by
      intro o ho' h1 h2 h3
      have hpl : adf p.1 = p.1 := by
        unfold okN at h1
        simp only [zau, decide_eq_true_eq] at h1
        exact h1.1.2
      have hih := ih (pre ++ [p]) fk o (by rw [h]; simp) omg (by rw [ho']; simp only [zag, zaf, zas]; omega) (fun q hq' => by
        rcases List.mem_append.1 hq' with hx | hx
        · exact hlow q hx
        · rw [List.mem_singleton.1 hx]; exact hpl)
      rw [show ((pre ++ [p]).length : Int) = (pre.length : Int) + 1 by simp] at hih
      rw [hih, ppR, h1, h2, decide_eq_true h3, zao, zao, cond_true]
      cases ppR (pre ++ [p]) r with
      | none => rfl
      | some t => rw [ho']; simp
    have bad : okN pre p = false ∨ okV p = false ∨ ¬ pre.length < 16 → ppR pre (p :: r) = none := by
      rintro (h | h | h)
      · rw [ppR, h]; rfl
      · rw [ppR, h, Bool.and_false]; rfl
      · rw [ppR, decide_eq_false h, Bool.and_false]; rfl
    have chk : (((ajp FU p.1).bind fun (y818 : Bool) => (bif (!y818) then some true else ((age FU p.1).bind fun (y826 : Str) => (if y826 = p.1 then ((akw FU p.2.1).bind fun (y832 : Bool) => (bif (!y832) then some true else (bif (!p.2.2) then (if p.2.1 = ([] : Str) then (gd (0 ≤ (pre.length : Int) ∧ (pre.length : Int) ≤ (l.length : Int)) <| ((ahf FU pre p.1).bind fun (y845 : UInt8) => some (!decide (y845 = (0 : UInt8))))) else some true) else (gd (0 ≤ (pre.length : Int) ∧ (pre.length : Int) ≤ (l.length : Int)) <| ((ahf FU pre p.1).bind fun (y855 : UInt8) => some (!decide (y855 = (0 : UInt8)))))))) else some true))))) = some (!(okN pre p && okV p && decide (pre.length < 16))) := by
      rw [refToken_eq _ omg, zaa, ako _ omg, zaa, plain_eq _ hbp.2]
      unfold okN okV
      cases h1 : amd p.1 with
      | false => rfl
      | true =>
        rw [zaq, cond_false, zao]
        by_cases h2 : adf p.1 = p.1
        · have hroom := rfRoom_eq pre omg (fun q hq' => (hb q (by rw [h]; simp [hq'])).1) p.1 hbp.1 hlow h2
          have hr0 := room0 pre p.1
          have hr : some (!decide (roomB pre p.1 = 0)) = some (!(!(pre.any fun q => q.1 == p.1) && decide (pre.length < 16))) := by
            congr 2
            rw [Bool.eq_iff_iff, decide_eq_true_eq, hr0]
            simp
          rw [if_pos h2, zaa, decide_eq_true h2, zao, aac hin2, hroom, zaa, hr, Bool.not_not]
          cases h3 : p.2.2 with
          | false =>
            rw [zax, cond_true, cond_false]
            by_cases h4 : p.2.1 = []
            · rw [if_pos h4, h4, decide_eq_true rfl, Bool.and_true]; rfl
            · rw [if_neg h4, decide_eq_false h4, Bool.and_false, Bool.false_and]
              cases p.2.1.any abz <;> rfl
          | true =>
            rw [zaq, cond_false, cond_true]
            cases p.2.1.any abz with
            | true => rw [cond_true, zaq, Bool.and_false, Bool.false_and]; rfl
            | false => rw [cond_false, zax, Bool.and_true]
        · rw [if_neg h2, decide_eq_false h2]; rfl
    rw [acn, if_pos hin.2, aac hin, aac hin, he, htk, chk, zaa]
    cases hall : (okN pre p && okV p && decide (pre.length < 16)) with
    | false =>
      have hbad : ppR pre (p :: r) = none := by rw [ppR, hall]; rfl
      rw [zax, cond_true, hbad]
    | true =>
      simp only [zau, decide_eq_true_eq] at hall
      obtain ⟨⟨hN, hV⟩, h16⟩ := hall
      rw [zaq, cond_false, aac (by simp only [zae]; omega), aac (by simp only [zag, zae]; omega)]
      cases h3 : p.2.2 with
      | false =>
        rw [cond_false, zaa, cond_false, cond_false, aac hok]
        refine next _ ?_ hN hV h16
        have : txt p = [] := by unfold txt; rw [h3]; rfl
        rw [this]; simp
      | true =>
        rw [cond_true, refToken_eq _ omg, zaa]
        have e : (bif amd p.2.1 then some true else (ahj FU p.2.1).bind fun (y890 : Bool) => some y890) = some (amd p.2.1 || brV p.2.1) := by
          rw [brk2_eq _ hbp.2]
          cases amd p.2.1 <;> rfl
        rw [e, zaa]
        cases h5 : (amd p.2.1 || brV p.2.1) with
        | true =>
          rw [cond_true, aac (by simp only [zag, zae]; omega), aac (by simp only [zag, zae]; omega), aac hok]
          refine next _ ?_ hN hV h16
          have : txt p = 61 :: p.2.1 := by unfold txt; rw [h3, h5]; rfl
          rw [this]; simp
        | false =>
          have hnc : p.2.1.any abz = false := by
            unfold okV at hV
            rw [h3, cond_true] at hV
            simpa using hV
          rw [cond_false, cond_true, rfQuote_eq _ hbp.2, zaa]
          unfold quoM
          rw [hnc, if_neg (show ¬ (false = true) by decide)]
          simp only
          rw [aac (by simp only [zag, zae]; omega), aac (by simp only [zag, zae]; omega), aac hok]
          refine next _ ?_ hN hV h16
          have : txt p = 61 :: quoT p.2.1 := by unfold txt; rw [h3, h5]; rfl
          rw [this]; simp
theorem rfPrintParams_eq (l : List PP) (hl : l.length ≤ 100) (hb : ∀ p ∈ l, p.1.length ≤ 1048576 ∧ p.2.1.length ≤ 1048576) : ahm FU l = some (ppM l) := by
  have := rfpp_lp l hl hb l [] FU [] (by simp) (by rw [ahy]; omega) (by simp) (by simp)
  have this' : acn FU l FU [] (0 : Int) = _ := this
  unfold ahm ppM
  rw [this', zaa]
  by_cases h : 16 < l.length
  · rw [if_pos h, ppR_none l [] (by simp) (by simpa using h)]; rfl
  · rw [if_neg h, ppR_eq l [] (by simp; omega)]
    cases ppL [] l <;> rfl
theorem pp_eta (x : PP) : (x.1, x.2.1, x.2.2) = x := rfl
theorem less_tri : ∀ x y : Str, Op.bytesLess x y = !(Op.bytesLess y x || y == x)
  | [], [] => rfl
  | [], b :: y => rfl
  | a :: x, [] => rfl
  | a :: x, b :: y => by
    have ih := less_tri x y
    rw [Op.bytesLess, Op.bytesLess, ih]
    rcases Nat.lt_trichotomy a.toNat b.toNat with h | h | h
    · have h1 : a < b := h
      have h2 : ¬ b < a := by rw [UInt8.lt_iff_toNat_lt]; omega
      have h3 : ¬ a = b := fun e => by subst e; omega
      have h4 : (b :: y == a :: x) = false := by simp; intro e; exact absurd e.symm h3
      rw [h4]
      simp [h1, h2, h3]
      exact .inl fun e => h3 e.symm
    · have e : a = b := UInt8.toNat_inj.1 h
      subst e
      have h1 : ¬ a < a := by rw [UInt8.lt_iff_toNat_lt]; omega
      have h4 : (a :: y == a :: x) = (y == x) := by simp [List.cons_beq_cons]
      rw [h4]
      simp [h1]
    · have h1 : b < a := h
      have h2 : ¬ a < b := by rw [UInt8.lt_iff_toNat_lt]; omega
      have h3 : ¬ a = b := fun e => by subst e; omega
      simp [h1, h2, h3]
def gtN (a b : Str) : Bool := !(Op.bytesLess a b || a == b)
def insV (x : PP) : List PP → List PP
  | [] => [x]
  | a :: V => bif gtN a.1 x.1 then a :: insV x V else x :: a :: V
def insR (x : PP) (l : List PP) : List PP := (insV x l.reverse).reverse
theorem insR_snoc (x a : PP) (l : List PP) : insR x (l ++ [a]) = bif gtN a.1 x.1 then insR x l ++ [a] else l ++ [a, x] := by
  unfold insR
  rw [List.reverse_append, List.reverse_singleton, List.singleton_append, insV]
  cases gtN a.1 x.1 <;> simp
theorem insV_len (x : PP) : ∀ V : List PP, (insV x V).length = V.length + 1
  | [] => rfl
  | a :: V => by
    rw [insV]
    cases gtN a.1 x.1 with
    | true => rw [cond_true, zaf, insV_len x V, zaf]
    | false => rfl
theorem insR_len (x : PP) (l : List PP) : (insR x l).length = l.length + 1 := by
  unfold insR; rw [List.length_reverse, insV_len, List.length_reverse]
theorem insV_mem (x y : PP) : ∀ V : List PP, y ∈ insV x V → y = x ∨ y ∈ V
  | [], h => by left; simpa [insV] using h
  | a :: V, h => by
    rw [insV] at h
    cases hg : gtN a.1 x.1 with
    | true =>
      rw [hg, cond_true] at h
      rcases List.mem_cons.1 h with rfl | h
      · right; simp
      · rcases insV_mem x y V h with h | h
        · exact .inl h
        · right; simp [h]
    | false =>
      rw [hg, cond_false] at h
      rcases List.mem_cons.1 h with rfl | h
      · left; rfl
      · right; exact h
theorem insR_mem (x y : PP) (l : List PP) (h : y ∈ insR x l) : y = x ∨ y ∈ l := by
  unfold insR at h
  rcases insV_mem x y _ (List.mem_reverse.1 h) with h | h
  · exact .inl h
  · exact .inr (List.mem_reverse.1 h)
def aos (l : List PP) : List PP := l.foldl (fun out x => insR x out) []
theorem fold_len : ∀ (q p : List PP), (q.foldl (fun out x => insR x out) p).length = p.length + q.length
  | [], p => by simp
  | a :: q, p => by rw [List.foldl_cons, fold_len q, insR_len, zaf]; omega
theorem fold_mem (y : PP) : ∀ (q p : List PP), y ∈ q.foldl (fun out x => insR x out) p → y ∈ p ∨ y ∈ q
  | [], p, h => .inl h
  | a :: q, p, h => by
    rw [List.foldl_cons] at h
    rcases fold_mem y q _ h with h | h
    · rcases insR_mem a y p h with h | h
      · right; simp [h]
      · exact .inl h
    · right; simp [h]
theorem isort_len (l : List PP) : (aos l).length = l.length := by unfold aos; rw [fold_len]; simp
theorem isort_mem (l : List PP) (y : PP) (h : y ∈ aos l) : y ∈ l := by
  rcases fold_mem y l [] h with h | h
  · simp at h
  · exact h
theorem rfSort_lp1 (l : List PP) (out : List PP) (i : Int) (x : PP) (hx : el l i = x) (hi : 0 ≤ i ∧ i < (l.length : Int)) (ho : out.length ≤ 1048576) (n : Nat) : ∀ fk, n ≤ out.length → n < fk →
    ∃ k : Nat, k ≤ n ∧ agd FU l out i fk (n : Int) = some (k : Int) ∧ (out.take n).take k ++ ([x] ++ (out.take n).drop k) = insR x (out.take n) := by
  induction n with
  | zero =>
    intro fk hn hf
    obtain ⟨fk, rfl⟩ : ∃ m, fk = m + 1 := ⟨fk - 1, by omega⟩
    exact ⟨0, Nat.le_refl _, by rw [agd, if_neg omg]; rfl, rfl⟩
  | succ n ih =>
    intro fk hn hf
    obtain ⟨fk, rfl⟩ : ∃ m, fk = m + 1 := ⟨fk - 1, by omega⟩
    have e : (((n + 1 : Nat) : Int) - 1) = (n : Int) := by omega
    have hlt : n < out.length := by omega
    have ht : out.take (n + 1) = out.take n ++ [el out (n : Int)] := take_snoc' out n hlt
    rw [agd, if_pos omg, e, aac (ajn _ omg omg), aac omg, aac omg, aac hi, aac hi, hx, zaa, ht, insR_snoc]
    have hg : (!(Op.bytesLess (el out (n : Int)).1 x.1 || (el out (n : Int)).1 == x.1)) = gtN (el out (n : Int)).1 x.1 := rfl
    rw [hg]
    have htl : (out.take n).length = n := by rw [zah]; omega
    cases h : gtN (el out (n : Int)).1 x.1 with
    | true =>
      obtain ⟨k, h1, h2, h3⟩ := ih fk omg omg
      refine ⟨k, by omega, by rw [cond_true, aac (ajn _ omg omg), h2], ?_⟩
      rw [cond_true, ← h3, List.take_append_of_le_length omg, List.drop_append_of_le_length omg]
      simp
    | false =>
      refine ⟨n + 1, Nat.le_refl _, by rw [cond_false], ?_⟩
      rw [cond_false, List.take_of_length_le (by simp only [zag, zae]; omega), List.drop_eq_nil_of_le (by simp only [zag, zae]; omega)]
      simp
theorem rfSort_lp (l : List PP) (hl : l.length ≤ 1048576) (q : List PP) : ∀ (p : List PP) (fk : Nat) (out : List PP), l = p ++ q → q.length < fk → out.length = p.length →
    afi FU l fk out (p.length : Int) = some (q.foldl (fun out x => insR x out) out) := by
  induction q with
  | nil =>
    intro p fk out h hf ho
    obtain ⟨fk, rfl⟩ : ∃ m, fk = m + 1 := ⟨fk - 1, by omega⟩
    rw [zay] at h
    rw [afi, if_neg (by rw [h]; omega)]; rfl
  | cons a q ih =>
    intro p fk out h hf ho
    obtain ⟨fk, rfl⟩ : ∃ m, fk = m + 1 := ⟨fk - 1, by omega⟩
    have hlen := congrArg List.length h
    simp only [zag, zaf] at hlen hf
    have hin : (0 : Int) ≤ (p.length : Int) ∧ (p.length : Int) < (l.length : Int) := by omega
    have he : el l (p.length : Int) = a := by rw [h]; simp [el]
    obtain ⟨k, h1, h2, h3⟩ := rfSort_lp1 l out (p.length : Int) a he hin omg out.length FU (Nat.le_refl _) (by rw [ahy]; omega)
    rw [List.take_length] at h3
    have et : ((k : Nat) : Int).toNat = k := by omega
    have hil := insR_len a out
    rw [afi, if_pos hin.2, h2, zaa, aac omg, et, aac (by simp only [zas, zah]; omega), aac hin, aac hin, he]
    simp only [pp_eta, List.nil_append]
    rw [aac (by simp only [zah, zae]; omega), aac omg, aac (by simp only [zag, zah, zav, zae]; omega), zaa, aac (ajn _ omg omg), List.append_assoc, h3, List.foldl_cons]
    have := ih (p ++ [a]) fk (insR a out) (by rw [h]; simp) omg (by rw [hil, zag, zae]; omega)
    rw [show ((p ++ [a]).length : Int) = (p.length : Int) + 1 by simp] at this
    exact this
theorem rfSorted_eq (l : List PP) (hl : l.length ≤ 1048576) : alo FU l = some (aos l) := by
  have := rfSort_lp l hl l [] FU [] (by simp) (by rw [ahy]; omega) rfl
  have this' : afi FU l FU [] (0 : Int) = _ := this
  unfold alo
  rw [this']; rfl
end Go.Wk
set_option linter.unusedVariables false
set_option linter.unusedSimpArgs false
set_option maxRecDepth 100000
namespace Go.Wk
open Go.Px
open Bool renaming not_true → zaq
open List renaming append_nil → zay, eq_nil_of_length_eq_zero → zaE, length_append → zag, length_cons → zaf, length_singleton → zae, set → zak
open Option renaming bind_some → zaa
def cmpV (a b : Str) : Int := bif Op.bytesLess a b then -1 else bif !(Op.bytesLess a b || a == b) then 1 else 0
theorem hs1_eq (fu : Nat) (x y : PP) : afw fu x y = some (cmpV x.1 y.1) := by
  unfold afw ahc aij cmpV
  rw [zaa, zaa, decide_eq_true rfl, decide_eq_true rfl, zaq, cond_false, cond_false]
  cases Op.bytesLess x.1 y.1 with
  | true => rfl
  | false =>
    rw [cond_false, cond_false]
    cases (!(false || x.1 == y.1)) <;> rfl
theorem cmp_lt (a b : Str) : decide (cmpV a b < 0) = Op.bytesLess a b := by
  unfold cmpV
  cases Op.bytesLess a b with
  | true => rfl
  | false =>
    rw [cond_false]
    cases (!(false || a == b)) <;> rfl
theorem coll_lp (x : List PP) (hx : x.length ≤ 1048576) (q : List PP) : ∀ (p : List PP) (fk : Nat), x = p ++ q → q.length < fk →
    aag FU x fk (p.length : Int) p = some (x, 0) := by
  induction q with
  | nil =>
    intro p fk h hf
    obtain ⟨fk, rfl⟩ : ∃ m, fk = m + 1 := ⟨fk - 1, by omega⟩
    rw [zay] at h
    subst h
    rw [aag, if_neg omg]
  | cons a q ih =>
    intro p fk h hf
    obtain ⟨fk, rfl⟩ : ∃ m, fk = m + 1 := ⟨fk - 1, by omega⟩
    have hlen := congrArg List.length h
    simp only [zag, zaf] at hlen hf
    have hin : (0 : Int) ≤ (p.length : Int) ∧ (p.length : Int) < (x.length : Int) := by omega
    have he : el x (p.length : Int) = a := by rw [h]; simp [el]
    rw [aag, if_pos hin.2, aac hin, aac hin, he]
    unfold acw
    simp only [pp_eta]
    rw [aac (by simp only [zae]; omega), zaa, if_pos rfl, aac (ajn _ omg omg)]
    have := ih (p ++ [a]) fk (by rw [h]; simp) omg
    rw [show ((p ++ [a]).length : Int) = (p.length : Int) + 1 by simp] at this
    exact this
theorem collect_eq (x : List PP) (hx : x.length ≤ 1048576) : adj FU x = some x := by
  have := coll_lp x hx x [] FU (by simp) (by rw [ahy]; omega)
  unfold adj aec abg
  have this' : aag FU x FU (0 : Int) [] = _ := this
  rw [this', zaa, if_pos rfl]; rfl
theorem el_at (P S : List PP) (x : PP) : el (P ++ x :: S) (P.length : Int) = x := by simp [el]
theorem ins_lp1 (n : Nat) : ∀ (P S : List PP) (x : PP) (fk : Nat), P.length = n → n < fk → P.length + S.length ≤ 1048575 →
    aaf FU 0 fk (P ++ x :: S) (P.length : Int) = some (insR x P ++ S) := by
  induction n with
  | zero =>
    intro P S x fk hP hf hl
    obtain ⟨fk, rfl⟩ : ∃ m, fk = m + 1 := ⟨fk - 1, by omega⟩
    obtain rfl : P = [] := zaE hP
    rw [aaf, if_neg (by simp)]; rfl
  | succ n ih =>
    intro P S x fk hP hf hl
    obtain ⟨fk, rfl⟩ : ∃ m, fk = m + 1 := ⟨fk - 1, by omega⟩
    rcases List.eq_nil_or_concat P with rfl | ⟨P', a, rfl⟩
    · simp at hP
    · simp only [List.concat_eq_append] at *
      have hP' : P'.length = n := by simp at hP; omega
      have e1 : (((P' ++ [a]).length : Int) - 1) = (P'.length : Int) := by simp
      have hj : el (P' ++ [a] ++ x :: S) ((P' ++ [a]).length : Int) = x := el_at _ _ _
      have hj1 : el (P' ++ [a] ++ x :: S) (P'.length : Int) = a := by rw [List.append_assoc]; exact el_at P' (x :: S) a
      have hlen : (P' ++ [a] ++ x :: S).length = P'.length + 2 + S.length := by simp; omega
      have hin : (0 : Int) ≤ ((P' ++ [a]).length : Int) ∧ ((P' ++ [a]).length : Int) < ((P' ++ [a] ++ x :: S).length : Int) := by rw [hlen]; simp; omega
      have hin1 : (0 : Int) ≤ (P'.length : Int) ∧ (P'.length : Int) < ((P' ++ [a] ++ x :: S).length : Int) := by rw [hlen]; omega
      have hok : acj (P'.length : Int) := ajn _ omg (by simp at hl; omega)
      have ht1 : ((P' ++ [a]).length : Int).toNat = P'.length + 1 := by simp
      have ht2 : ((P'.length : Nat) : Int).toNat = P'.length := by omega
      rw [aaf, e1]
      simp only [hj, hj1, pp_eta, hs1_eq, zaa, cmp_lt, aac hin, aac hin1, aac hok]
      rw [if_pos (by rw [zag, zae]; omega), zaa, less_tri x.1 a.1, insR_snoc]
      have hg : (!(Op.bytesLess a.1 x.1 || a.1 == x.1)) = gtN a.1 x.1 := rfl
      rw [hg]
      cases gtN a.1 x.1 with
      | false => rw [cond_false, cond_false]; simp
      | true =>
        have hset : zak (P' ++ [a] ++ x :: S) ((P' ++ [a]).length : Int).toNat a = P' ++ a :: a :: S := by
          rw [ht1, List.append_assoc, List.set_append_right _ _ omg]
          simp
        have hset2 : zak (P' ++ a :: a :: S) ((P'.length : Nat) : Int).toNat x = P' ++ x :: a :: S := by
          rw [ht2, List.set_append_right _ _ omg]
          simp
        rw [cond_true, cond_true, hset, hset2, aac (by simp; omega), aac (by simp; omega), ih P' (a :: S) x fk hP' omg (by simp at hl ⊢; omega)]
        simp
theorem ins_lp0 (R : List PP) : ∀ (P : List PP) (fk : Nat) (n : Int), n = ((P ++ R).length : Int) → (P ++ R).length ≤ 1048575 → R.length < fk →
    aad FU 0 n fk (P ++ R) (P.length : Int) = some (R.foldl (fun out x => insR x out) P) := by
  induction R with
  | nil =>
    intro P fk n hn hl hf
    obtain ⟨fk, rfl⟩ : ∃ m, fk = m + 1 := ⟨fk - 1, by omega⟩
    rw [aad, if_neg (by rw [hn]; simp)]; simp
  | cons a R ih =>
    intro P fk n hn hl hf
    obtain ⟨fk, rfl⟩ : ∃ m, fk = m + 1 := ⟨fk - 1, by omega⟩
    simp only [zag, zaf] at hl hf
    rw [aad, if_pos (by rw [hn]; simp; omega), ins_lp1 P.length P R a FU rfl (by rw [ahy]; omega) omg, zaa, aac (ajn _ omg omg)]
    have hil := insR_len a P
    have := ih (insR a P) fk n (by rw [hn]; simp [hil]; omega) (by simp only [zag, hil]; omega) omg
    rw [hil] at this
    have e : ((P.length : Int) + 1) = ((P.length + 1 : Nat) : Int) := rfl
    rw [e, this]; rfl
theorem ins_eq (l : List PP) (hl : l.length ≤ 1048575) : aal FU l 0 (l.length : Int) = some (aos l) := by
  unfold aal
  rw [aac (ajn _ omg omg)]
  cases l with
  | nil =>
    obtain ⟨m, hm⟩ : ∃ m, FU = m + 1 := ⟨FU - 1, by rw [ahy]⟩
    rw [show (aad FU 0 (([] : List PP).length : Int) FU [] (0 + 1)) = aad FU 0 (([] : List PP).length : Int) (m + 1) [] (0 + 1) by rw [← hm]]
    rw [aad, if_neg (by simp)]; rfl
  | cons a l =>
    have := ins_lp0 l [a] FU ((a :: l).length : Int) rfl hl (by rw [ahy]; simp at hl; omega)
    exact this
end Go.Wk
set_option linter.unusedVariables false
set_option linter.unusedSimpArgs false
set_option maxRecDepth 100000
namespace Go.Wk
open Go.Px
open Go.IntKind renaming wrap → zab
open List renaming length_set → zat, set → zak
open Option renaming bind_some → zaa
open Sum renaming elim_inl → zaw
def Keeps (o : Option (List PP)) (n : Nat) : Prop := ∃ d, o = some d ∧ d.length = n
theorem ajc (a : Int) (h0 : -1000 ≤ a) (h : a ≤ 100000) : acj a := ⟨by omega, by omega⟩
theorem tIns1 (fu : Nat) (a : Nat) (n : Nat) : ∀ (data : List PP) (fk : Nat), n < data.length → data.length ≤ 100 → n < fk → Keeps (aaf fu (a : Int) fk data (n : Int)) data.length := by
  induction n with
  | zero =>
    intro data fk hn hl hf
    obtain ⟨fk, rfl⟩ : ∃ m, fk = m + 1 := ⟨fk - 1, by omega⟩
    rw [aaf, if_neg omg]
    exact ⟨data, rfl, rfl⟩
  | succ n ih =>
    intro data fk hn hl hf
    obtain ⟨fk, rfl⟩ : ∃ m, fk = m + 1 := ⟨fk - 1, by omega⟩
    have e1 : (((n + 1 : Nat) : Int) - 1) = (n : Int) := by omega
    have hin : (0 : Int) ≤ ((n + 1 : Nat) : Int) ∧ ((n + 1 : Nat) : Int) < (data.length : Int) := by omega
    have hin1 : (0 : Int) ≤ (n : Int) ∧ (n : Int) < (data.length : Int) := by omega
    rw [aaf, e1]
    simp only [hs1_eq, zaa, cmp_lt, aac hin, aac hin1, aac (ajc (n : Int) omg omg), zat]
    by_cases h : (a : Int) < ((n + 1 : Nat) : Int)
    · rw [if_pos h, zaa]
      cases Op.bytesLess (el data ((n + 1 : Nat) : Int)).1 (el data (n : Int)).1 with
      | false => exact ⟨data, rfl, rfl⟩
      | true =>
        rw [cond_true]
        have := ih (zak (zak data (((n + 1 : Nat) : Int).toNat) (el data (n : Int))) ((n : Int).toNat) (el data ((n + 1 : Nat) : Int))) fk (by simp only [zat]; omega) (by simp only [zat]; omega) omg
        rw [zat, zat] at this
        exact this
    · rw [if_neg h]; exact ⟨data, rfl, rfl⟩
theorem tIns0 (fu : Nat) (hfu : 1000 ≤ fu) (a b : Nat) (m : Nat) : ∀ (data : List PP) (i fk : Nat), b ≤ i + m → m < fk → b ≤ data.length → data.length ≤ 100 → Keeps (aad fu (a : Int) (b : Int) fk data (i : Int)) data.length := by
  induction m with
  | zero =>
    intro data i fk hm hf hb hl
    obtain ⟨fk, rfl⟩ : ∃ m, fk = m + 1 := ⟨fk - 1, by omega⟩
    rw [aad, if_neg omg]
    exact ⟨data, rfl, rfl⟩
  | succ m ih =>
    intro data i fk hm hf hb hl
    obtain ⟨fk, rfl⟩ : ∃ m, fk = m + 1 := ⟨fk - 1, by omega⟩
    rw [aad]
    by_cases h : (i : Int) < (b : Int)
    · obtain ⟨d, h1, h2⟩ := tIns1 fu a i data fu omg hl omg
      rw [if_pos h, h1, zaa, aac (ajc _ omg omg)]
      have := ih d (i + 1) fk omg omg omg omg
      rw [h2] at this
      exact this
    · rw [if_neg h]; exact ⟨data, rfl, rfl⟩
theorem tIns (fu : Nat) (hfu : 1000 ≤ fu) (a b : Nat) (data : List PP) (ha : a ≤ 100) (hb : b ≤ data.length) (hl : data.length ≤ 100) : Keeps (aal fu data (a : Int) (b : Int)) data.length := by
  unfold aal
  rw [aac (ajc _ omg omg)]
  exact tIns0 fu hfu a b 100 data (a + 1) fu omg omg hb hl
theorem tSwap0 (fu : Nat) (a b n : Nat) (m : Nat) : ∀ (data : List PP) (i fk : Nat), n ≤ i + m → m < fk → a + n ≤ data.length → b + n ≤ data.length → data.length ≤ 100 → Keeps (aau fu (a : Int) (b : Int) (n : Int) fk data (i : Int)) data.length := by
  induction m with
  | zero =>
    intro data i fk hm hf ha hb hl
    obtain ⟨fk, rfl⟩ : ∃ m, fk = m + 1 := ⟨fk - 1, by omega⟩
    rw [aau, if_neg omg]
    exact ⟨data, rfl, rfl⟩
  | succ m ih =>
    intro data i fk hm hf ha hb hl
    obtain ⟨fk, rfl⟩ : ∃ m, fk = m + 1 := ⟨fk - 1, by omega⟩
    rw [aau]
    by_cases h : (i : Int) < (n : Int)
    · have hA : (0 : Int) ≤ (a : Int) + (i : Int) ∧ (a : Int) + (i : Int) < (data.length : Int) := by omega
      have hB : (0 : Int) ≤ (b : Int) + (i : Int) ∧ (b : Int) + (i : Int) < (data.length : Int) := by omega
      rw [if_pos h]
      simp only [aac hA, aac hB, aac (ajc ((a : Int) + (i : Int)) omg omg), aac (ajc ((b : Int) + (i : Int)) omg omg), aac (ajc ((i : Int) + 1) omg omg), zat]
      have := ih (zak (zak data ((a : Int) + (i : Int)).toNat (el data ((b : Int) + (i : Int)))) ((b : Int) + (i : Int)).toNat (el data ((a : Int) + (i : Int)))) (i + 1) fk omg omg (by simp only [zat]; omega) (by simp only [zat]; omega) (by simp only [zat]; omega)
      rw [zat, zat] at this
      exact this
    · rw [if_neg h]; exact ⟨data, rfl, rfl⟩
theorem tSwap (fu : Nat) (hfu : 1000 ≤ fu) (a b n : Int) (data : List PP) (ha0 : 0 ≤ a) (hb0 : 0 ≤ b) (hn0 : 0 ≤ n) (ha : a + n ≤ data.length) (hb : b + n ≤ data.length) (hl : data.length ≤ 100) : Keeps (aba fu data a b n) data.length := by
  obtain ⟨a, rfl⟩ : ∃ k : Nat, a = (k : Int) := ⟨a.toNat, by omega⟩
  obtain ⟨b, rfl⟩ : ∃ k : Nat, b = (k : Int) := ⟨b.toNat, by omega⟩
  obtain ⟨n, rfl⟩ : ∃ k : Nat, n = (k : Int) := ⟨n.toNat, by omega⟩
  unfold aba
  exact tSwap0 fu a b n n data 0 fu omg omg omg omg hl
theorem tRot0 (fu : Nat) (hfu : 1000 ≤ fu) (m : Nat) (t : Nat) : ∀ (data : List PP) (i j : Int) (fk : Nat), i + j ≤ (t : Int) → t < fk → 0 < i → 0 < j → i ≤ (m : Int) → (m : Int) + j ≤ (data.length : Int) → data.length ≤ 100 →
    ∃ d i', aaz fu (m : Int) fk data i j = some (d, i') ∧ d.length = data.length ∧ 0 ≤ i' ∧ i' ≤ (m : Int) ∧ (m : Int) + i' ≤ (data.length : Int) := by
  induction t with
  | zero => intro data i j fk h; omega
  | succ t ih =>
    intro data i j fk h hf hi hj him hjm hl
    obtain ⟨fk, rfl⟩ : ∃ m, fk = m + 1 := ⟨fk - 1, by omega⟩
    rw [aaz]
    by_cases hij : i = j
    · rw [if_pos hij]; exact ⟨data, i, rfl, rfl, by omega, by omega, by omega⟩
    · rw [if_neg hij]
      by_cases hlt : j < i
      · obtain ⟨d, h1, h2⟩ := tSwap fu hfu ((m : Int) - i) (m : Int) j data omg omg omg omg omg hl
        rw [if_pos hlt, aac (ajc _ omg omg), h1, zaa, aac (ajc _ omg omg)]
        have := ih d (i - j) j fk omg omg omg omg omg omg omg
        rw [h2] at this
        exact this
      · obtain ⟨d, h1, h2⟩ := tSwap fu hfu ((m : Int) - i) ((m : Int) + j - i) i data omg omg omg omg omg hl
        rw [if_neg hlt, aac (ajc _ omg omg), aac (ajc _ omg omg), aac (ajc _ omg omg), h1, zaa, aac (ajc _ omg omg)]
        have := ih d i (j - i) fk omg omg omg omg omg omg omg
        rw [h2] at this
        exact this
theorem tRot (fu : Nat) (hfu : 1000 ≤ fu) (data : List PP) (a m b : Int) (ha : 0 ≤ a) (ham : a < m) (hmb : m < b) (hb : b ≤ (data.length : Int)) (hl : data.length ≤ 100) : Keeps (abn fu data a m b) data.length := by
  obtain ⟨m, rfl⟩ : ∃ k : Nat, m = (k : Int) := ⟨m.toNat, by omega⟩
  unfold abn
  obtain ⟨d, i', h1, h2, h3, h4, h5⟩ := tRot0 fu hfu m 200 data ((m : Int) - a) (b - (m : Int)) fu omg omg omg omg omg omg hl
  obtain ⟨e, h6, h7⟩ := tSwap fu hfu ((m : Int) - i') (m : Int) i' d omg omg omg omg omg omg
  rw [aac (ajc _ omg omg), aac (ajc _ omg omg), h1, zaa]
  simp only
  rw [aac (ajc _ omg omg), h6, zaa]
  exact ⟨e, rfl, by omega⟩
theorem wmid (x : Int) (h0 : 0 ≤ x) (h1 : x ≤ 100000) : zab .i64 ((zab .u64 x) / 2) = x / 2 := by
  rw [IntKind.wrap_u64, Int.emod_eq_of_lt h0 omg, wrap64_id omg omg]
theorem tM0 (fu : Nat) (data : List PP) (hl : data.length ≤ 100) (a : Int) (ha : 0 ≤ a ∧ a < (data.length : Int)) (t : Nat) : ∀ (i j : Int) (fk : Nat), j - i ≤ (t : Int) → t < fk → 0 ≤ i → i ≤ j → j ≤ (data.length : Int) →
    ∃ k, aap fu data a fk i j = some k ∧ i ≤ k ∧ k ≤ j := by
  induction t with
  | zero =>
    intro i j fk h hf h0 hij hj
    obtain ⟨fk, rfl⟩ : ∃ m, fk = m + 1 := ⟨fk - 1, by omega⟩
    rw [aap, if_neg omg]
    exact ⟨i, rfl, by omega, hij⟩
  | succ t ih =>
    intro i j fk h hf h0 hij hj
    obtain ⟨fk, rfl⟩ : ∃ m, fk = m + 1 := ⟨fk - 1, by omega⟩
    rw [aap]
    by_cases hlt : i < j
    · rw [if_pos hlt, aac (ajc _ omg omg), wmid _ omg omg]
      have hm : 0 ≤ (i + j) / 2 ∧ (i + j) / 2 < (data.length : Int) := by omega
      simp only [aac hm, aac ha, hs1_eq, zaa]
      by_cases hc : cmpV (el data ((i + j) / 2)).1 (el data a).1 < 0
      · rw [if_pos hc, aac (ajc _ omg omg)]
        obtain ⟨k, h1, h2, h3⟩ := ih ((i + j) / 2 + 1) j fk omg omg omg omg hj
        exact ⟨k, h1, by omega, h3⟩
      · rw [if_neg hc]
        obtain ⟨k, h1, h2, h3⟩ := ih i ((i + j) / 2) fk omg omg omg omg omg
        exact ⟨k, h1, h2, by omega⟩
    · rw [if_neg hlt]; exact ⟨i, rfl, by omega, hij⟩
theorem tM2 (fu : Nat) (data : List PP) (hl : data.length ≤ 100) (a : Int) (ha : 0 ≤ a ∧ a < (data.length : Int)) (t : Nat) : ∀ (i j : Int) (fk : Nat), j - i ≤ (t : Int) → t < fk → 0 ≤ i → i ≤ j → j ≤ (data.length : Int) →
    ∃ k, aao fu data a fk i j = some k ∧ i ≤ k ∧ k ≤ j := by
  induction t with
  | zero =>
    intro i j fk h hf h0 hij hj
    obtain ⟨fk, rfl⟩ : ∃ m, fk = m + 1 := ⟨fk - 1, by omega⟩
    rw [aao, if_neg omg]
    exact ⟨i, rfl, by omega, hij⟩
  | succ t ih =>
    intro i j fk h hf h0 hij hj
    obtain ⟨fk, rfl⟩ : ∃ m, fk = m + 1 := ⟨fk - 1, by omega⟩
    rw [aao]
    by_cases hlt : i < j
    · rw [if_pos hlt, aac (ajc _ omg omg), wmid _ omg omg]
      have hm : 0 ≤ (i + j) / 2 ∧ (i + j) / 2 < (data.length : Int) := by omega
      simp only [aac hm, aac ha, hs1_eq, zaa]
      by_cases hc : cmpV (el data a).1 (el data ((i + j) / 2)).1 < 0
      · rw [if_pos hc]
        obtain ⟨k, h1, h2, h3⟩ := ih i ((i + j) / 2) fk omg omg omg omg omg
        exact ⟨k, h1, h2, by omega⟩
      · rw [if_neg hc, aac (ajc _ omg omg)]
        obtain ⟨k, h1, h2, h3⟩ := ih ((i + j) / 2 + 1) j fk omg omg omg omg hj
        exact ⟨k, h1, by omega, h3⟩
    · rw [if_neg hlt]; exact ⟨i, rfl, by omega, hij⟩
theorem tM1 (fu : Nat) (v : Int) (t : Nat) : ∀ (data : List PP) (k : Int) (fk : Nat), v - k ≤ (t : Int) → t < fk → 0 ≤ k → v ≤ (data.length : Int) → 0 ≤ v → k ≤ 1000 → data.length ≤ 100 → Keeps (aaw fu v fk data k) data.length := by
  induction t with
  | zero =>
    intro data k fk h hf hk hv h0 h1 hl
    obtain ⟨fk, rfl⟩ : ∃ m, fk = m + 1 := ⟨fk - 1, by omega⟩
    rw [aaw, aac (ajc _ omg omg), if_neg omg]
    exact ⟨data, rfl, rfl⟩
  | succ t ih =>
    intro data k fk h hf hk hv h0 h1 hl
    obtain ⟨fk, rfl⟩ : ∃ m, fk = m + 1 := ⟨fk - 1, by omega⟩
    rw [aaw, aac (ajc _ omg omg)]
    by_cases hlt : k < v - 1
    · have hA : (0 : Int) ≤ k ∧ k < (data.length : Int) := by omega
      have hB : (0 : Int) ≤ k + 1 ∧ k + 1 < (data.length : Int) := by omega
      rw [if_pos hlt]
      simp only [aac hA, aac hB, aac (ajc (k + 1) omg omg), zat]
      have := ih (zak (zak data k.toNat (el data (k + 1))) (k + 1).toNat (el data k)) (k + 1) fk omg omg omg (by simp only [zat]; omega) h0 omg (by simp only [zat]; omega)
      rw [zat, zat] at this
      exact this
    · rw [if_neg hlt]; exact ⟨data, rfl, rfl⟩
theorem tM3 (fu : Nat) (v : Int) (hv : 0 ≤ v) (t : Nat) : ∀ (data : List PP) (k : Int) (fk : Nat), k - v ≤ (t : Int) → t < fk → k < (data.length : Int) → data.length ≤ 100 → Keeps (aav fu v fk data k) data.length := by
  induction t with
  | zero =>
    intro data k fk h hf hk hl
    obtain ⟨fk, rfl⟩ : ∃ m, fk = m + 1 := ⟨fk - 1, by omega⟩
    rw [aav, if_neg omg]
    exact ⟨data, rfl, rfl⟩
  | succ t ih =>
    intro data k fk h hf hk hl
    obtain ⟨fk, rfl⟩ : ∃ m, fk = m + 1 := ⟨fk - 1, by omega⟩
    rw [aav]
    by_cases hlt : v < k
    · have hA : (0 : Int) ≤ k ∧ k < (data.length : Int) := by omega
      have hB : (0 : Int) ≤ k - 1 ∧ k - 1 < (data.length : Int) := by omega
      rw [if_pos hlt]
      simp only [aac hA, aac hB, aac (ajc (k - 1) omg omg), zat]
      have := ih (zak (zak data k.toNat (el data (k - 1))) (k - 1).toNat (el data k)) (k - 1) fk omg omg (by simp only [zat]; omega) (by simp only [zat]; omega)
      rw [zat, zat] at this
      exact this
    · rw [if_neg hlt]; exact ⟨data, rfl, rfl⟩
theorem tM4 (fu : Nat) (data : List PP) (hl : data.length ≤ 100) (a m b : Int) (h0 : 0 ≤ a) (hab : a + b ≤ 200) (hb0 : 0 ≤ b) (hm0 : 0 ≤ m) (hm1 : m ≤ 100) (lo hi : Int) (hlo : 0 ≤ lo) (hhi : hi ≤ (data.length : Int))
    (hp : ∀ c, lo ≤ c → c < hi → 0 ≤ ((a + b) / 2 + m - 1) - c ∧ ((a + b) / 2 + m - 1) - c < (data.length : Int)) (t : Nat) : ∀ (i j : Int) (fk : Nat), j - i ≤ (t : Int) → t < fk → lo ≤ i → i ≤ j → j ≤ hi →
    ∃ k, aan fu data a m b fk i j = some k ∧ i ≤ k ∧ k ≤ j := by
  induction t with
  | zero =>
    intro i j fk h hf h1 hij hj
    obtain ⟨fk, rfl⟩ : ∃ m, fk = m + 1 := ⟨fk - 1, by omega⟩
    rw [aan, if_neg omg]
    exact ⟨i, rfl, by omega, hij⟩
  | succ t ih =>
    intro i j fk h hf h1 hij hj
    obtain ⟨fk, rfl⟩ : ∃ m, fk = m + 1 := ⟨fk - 1, by omega⟩
    rw [aan]
    by_cases hlt : i < j
    · have hpc := hp ((i + j) / 2) omg omg
      have hm : 0 ≤ (i + j) / 2 ∧ (i + j) / 2 < (data.length : Int) := by omega
      rw [if_pos hlt, aac (ajc _ omg omg), wmid (i + j) omg omg, wmid (a + b) omg omg]
      simp only [aac hm, aac hpc, aac (ajc ((a + b) / 2 + m - 1 - (i + j) / 2) omg omg), hs1_eq, zaa]
      by_cases hc : cmpV (el data ((a + b) / 2 + m - 1 - (i + j) / 2)).1 (el data ((i + j) / 2)).1 < 0
      · rw [if_pos hc]
        obtain ⟨k, g1, g2, g3⟩ := ih i ((i + j) / 2) fk omg omg omg omg omg
        exact ⟨k, g1, g2, by omega⟩
      · rw [if_neg hc, aac (ajc _ omg omg)]
        obtain ⟨k, g1, g2, g3⟩ := ih ((i + j) / 2 + 1) j fk omg omg omg omg hj
        exact ⟨k, g1, by omega, g3⟩
    · rw [if_neg hlt]; exact ⟨i, rfl, by omega, hij⟩
theorem tSym (z : Nat) : ∀ (fu : Nat) (data : List PP) (a m b : Int), b - a ≤ (z : Int) → z + 1001 ≤ fu → 0 ≤ a → a < m → m < b → b ≤ (data.length : Int) → data.length ≤ 100 → Keeps (aam fu data a m b) data.length := by
  induction z with
  | zero => intro fu data a m b h; omega
  | succ z ih =>
    intro fu data a m b h hf ha ham hmb hb hl
    obtain ⟨fu, rfl⟩ : ∃ k, fu = k + 1 := ⟨fu - 1, by omega⟩
    rw [aam, aac (ajc _ omg omg)]
    by_cases h1 : m - a = 1
    · obtain ⟨k, g1, g2, g3⟩ := tM0 fu data hl a omg 200 m b fu omg omg omg omg hb
      obtain ⟨d, g4, g5⟩ := tM1 fu k 200 data a fu omg omg ha omg omg omg hl
      rw [if_pos h1, g1, zaa, g4, zaa, zaa, Sum.elim_inr]
      exact ⟨d, rfl, g5⟩
    · rw [if_neg h1, zaa, zaw, aac (ajc _ omg omg)]
      by_cases h2 : b - m = 1
      · obtain ⟨k, g1, g2, g3⟩ := tM2 fu data hl m omg 200 a m fu omg omg ha omg omg
        obtain ⟨d, g4, g5⟩ := tM3 fu k omg 200 data m fu omg omg omg hl
        rw [if_pos h2, g1, zaa, g4, zaa, zaa, Sum.elim_inr]
        exact ⟨d, rfl, g5⟩
      · rw [if_neg h2, zaa, zaw, aac (ajc _ omg omg), wmid (a + b) omg omg, aac (ajc _ omg omg)]
        have hpair : ∃ lo hi : Int, (if (a + b) / 2 < m then gd (acj ((a + b) / 2 + m - b)) (some ((a + b) / 2 + m - b, (a + b) / 2)) else some (a, m)) = some (lo, hi) ∧ a ≤ lo ∧ lo ≤ hi ∧ hi ≤ m ∧ hi ≤ (a + b) / 2 ∧ (∀ c, lo ≤ c → c ≤ hi → (a + b) / 2 + m - c ≤ b ∧ m ≤ (a + b) / 2 + m - c) := by
          by_cases hmm : (a + b) / 2 < m
          · exact ⟨_, _, by rw [if_pos hmm, aac (ajc _ omg omg)], by omega, by omega, by omega, by omega, fun c h1 h2 => by omega⟩
          · exact ⟨a, m, by rw [if_neg hmm], by omega, by omega, by omega, by omega, fun c h1 h2 => by omega⟩
        obtain ⟨lo, hi, e, p1, p2, p3, p4, p5⟩ := hpair
        rw [e, zaa, aac (ajc _ omg omg)]
        simp only
        obtain ⟨st, g1, g2, g3⟩ := tM4 fu data hl a m b ha omg omg omg omg lo hi omg omg (fun c c1 c2 => by have := p5 c c1 omg; omega) 200 lo hi fu omg omg omg p2 omg
        have p6 := p5 st g2 g3
        rw [g1, zaa, aac (ajc _ omg omg)]
        have hrot : ∃ d1, (((if st < m then some (decide (m < (a + b) / 2 + m - st)) else some false)).bind fun (v1323 : Bool) => (bif v1323 then ((abn fu data st m ((a + b) / 2 + m - st)).bind fun (y1328 : List PP) => some y1328) else some data)) = some d1 ∧ d1.length = data.length := by
          by_cases c1 : st < m
          · rw [if_pos c1, zaa]
            by_cases c2 : m < (a + b) / 2 + m - st
            · obtain ⟨d, k1, k2⟩ := tRot fu omg data st m ((a + b) / 2 + m - st) omg c1 c2 omg hl
              rw [decide_eq_true c2, cond_true, k1]; exact ⟨d, rfl, k2⟩
            · rw [decide_eq_false c2]; exact ⟨data, rfl, rfl⟩
          · rw [if_neg c1]; exact ⟨data, rfl, rfl⟩
        obtain ⟨d1, r1, r2⟩ := hrot
        rw [r1, zaa]
        have hs1 : ∃ d2, (((if a < st then some (decide (st < (a + b) / 2)) else some false)).bind fun (v1360 : Bool) => (bif v1360 then ((aam fu d1 a st ((a + b) / 2)).bind fun (y1365 : List PP) => some y1365) else some d1)) = some d2 ∧ d2.length = data.length := by
          by_cases c1 : a < st
          · rw [if_pos c1, zaa]
            by_cases c2 : st < (a + b) / 2
            · obtain ⟨d, k1, k2⟩ := ih fu d1 a st ((a + b) / 2) omg omg ha c1 c2 omg omg
              rw [decide_eq_true c2, cond_true, k1]; exact ⟨d, rfl, by omega⟩
            · rw [decide_eq_false c2]; exact ⟨d1, rfl, r2⟩
          · rw [if_neg c1]; exact ⟨d1, rfl, r2⟩
        obtain ⟨d2, s1, s2⟩ := hs1
        rw [s1, zaa]
        by_cases c1 : (a + b) / 2 < (a + b) / 2 + m - st
        · rw [if_pos c1, zaa]
          by_cases c2 : (a + b) / 2 + m - st < b
          · obtain ⟨d, k1, k2⟩ := ih fu d2 ((a + b) / 2) ((a + b) / 2 + m - st) b omg omg omg c1 c2 omg omg
            rw [decide_eq_true c2, cond_true, k1]; exact ⟨d, rfl, by omega⟩
          · rw [decide_eq_false c2]; exact ⟨d2, rfl, s2⟩
        · rw [if_neg c1]; exact ⟨d2, rfl, s2⟩
end Go.Wk
set_option linter.unusedVariables false
set_option linter.unusedSimpArgs false
set_option maxRecDepth 100000
namespace Go.Wk
open Go.Px
open Bool renaming and_eq_true → zau, false_or → zaG, not_false → zax, not_true → zaq, true_and → zao
open Go.Lib renaming cut → zaC, index → zap
open List renaming all_cons → zaF, length_append → zag, length_cons → zaf, length_nil → zas, length_singleton → zae
open Option renaming bind_some → zaa
theorem tSt0 (n : Nat) (t : Nat) : ∀ (data : List PP) (a b fk : Nat), n < b + t → t < fk → a ≤ n → n = data.length → data.length ≤ 100 →
    ∃ d a' : _, aai FU (n : Int) fk data (a : Int) (b : Int) = some (d, ((a' : Nat) : Int)) ∧ d.length = data.length ∧ a' ≤ n := by
  induction t with
  | zero =>
    intro data a b fk h hf ha hn hl
    obtain ⟨fk, rfl⟩ : ∃ m, fk = m + 1 := ⟨fk - 1, by omega⟩
    rw [aai, if_neg omg]
    exact ⟨data, a, rfl, rfl, ha⟩
  | succ t ih =>
    intro data a b fk h hf ha hn hl
    obtain ⟨fk, rfl⟩ : ∃ m, fk = m + 1 := ⟨fk - 1, by omega⟩
    rw [aai]
    by_cases hb : (b : Int) ≤ (n : Int)
    · obtain ⟨d, h1, h2⟩ := tIns FU (by rw [ahy]; omega) a b data omg omg hl
      rw [if_pos hb, h1, zaa, aac (ajc _ omg omg)]
      have := ih d b (b + 20) fk omg omg omg omg omg
      rw [h2] at this
      exact this
    · rw [if_neg hb]; exact ⟨data, a, rfl, rfl, ha⟩
theorem tSt2 (n bs : Nat) (hbs : 1 ≤ bs) (hbs2 : bs ≤ 1000) (t : Nat) : ∀ (data : List PP) (a b fk : Nat), n < b + t → t < fk → a ≤ n → b = a + 2 * bs → n = data.length → data.length ≤ 100 →
    ∃ d a' : _, aar FU (n : Int) (bs : Int) fk data (a : Int) (b : Int) = some (d, ((a' : Nat) : Int)) ∧ d.length = data.length ∧ a' ≤ n := by
  induction t with
  | zero =>
    intro data a b fk h hf ha hab hn hl
    obtain ⟨fk, rfl⟩ : ∃ m, fk = m + 1 := ⟨fk - 1, by omega⟩
    rw [aar, if_neg omg]
    exact ⟨data, a, rfl, rfl, ha⟩
  | succ t ih =>
    intro data a b fk h hf ha hab hn hl
    obtain ⟨fk, rfl⟩ : ∃ m, fk = m + 1 := ⟨fk - 1, by omega⟩
    rw [aar]
    by_cases hb : (b : Int) ≤ (n : Int)
    · obtain ⟨d, h1, h2⟩ := tSym 100 FU data (a : Int) ((a : Int) + (bs : Int)) (b : Int) omg (by rw [ahy]; omega) omg omg omg omg hl
      rw [if_pos hb, aac (ajc _ omg omg), h1, zaa, aac (ajc _ omg omg), aac (ajc _ omg omg)]
      have := ih d b (b + 2 * bs) fk omg omg omg rfl omg omg
      rw [h2] at this
      have e : (b : Int) + 2 * (bs : Int) = ((b + 2 * bs : Nat) : Int) := by omega
      rw [e]
      exact this
    · rw [if_neg hb]; exact ⟨data, a, rfl, rfl, ha⟩
theorem tSt1 (n : Nat) (t : Nat) : ∀ (data : List PP) (bs fk : Nat), n < bs + t → t < fk → 1 ≤ bs → bs ≤ 200 → n = data.length → data.length ≤ 100 → Keeps (aae FU (n : Int) fk data (bs : Int)) data.length := by
  induction t with
  | zero =>
    intro data bs fk h hf h1 h2 hn hl
    obtain ⟨fk, rfl⟩ : ∃ m, fk = m + 1 := ⟨fk - 1, by omega⟩
    rw [aae, if_neg omg]
    exact ⟨data, rfl, rfl⟩
  | succ t ih =>
    intro data bs fk h hf h1 h2 hn hl
    obtain ⟨fk, rfl⟩ : ∃ m, fk = m + 1 := ⟨fk - 1, by omega⟩
    rw [aae]
    by_cases hb : (bs : Int) < (n : Int)
    · obtain ⟨d, a', g1, g2, g3⟩ := tSt2 n bs h1 omg 200 data 0 (2 * bs) FU omg (by rw [ahy]; omega) omg omg hn hl
      have g1' : aar FU (n : Int) (bs : Int) FU data (0 : Int) ((2 : Int) * (bs : Int)) = some (d, ((a' : Nat) : Int)) := g1
      rw [if_pos hb, aac (ajc _ omg omg), g1', zaa]
      simp only
      rw [aac (ajc _ omg omg)]
      have e : (bs : Int) * 2 = ((bs * 2 : Nat) : Int) := by omega
      by_cases hc : (a' : Int) + (bs : Int) < (n : Int)
      · obtain ⟨d2, k1, k2⟩ := tSym 100 FU d (a' : Int) ((a' : Int) + (bs : Int)) (n : Int) omg (by rw [ahy]; omega) omg omg omg omg omg
        rw [if_pos hc, k1, zaa, aac (ajc _ omg omg), e]
        have := ih d2 (bs * 2) fk omg omg omg omg omg omg
        rw [k2, g2] at this
        exact this
      · rw [if_neg hc, aac (ajc _ omg omg), e]
        have := ih d (bs * 2) fk omg omg omg omg omg omg
        rw [g2] at this
        exact this
    · rw [if_neg hb]; exact ⟨data, rfl, rfl⟩
theorem sorted_keeps (l : List PP) (hl : l.length ≤ 100) : Keeps (agw FU l) l.length := by
  unfold agw agv abb acb acg
  obtain ⟨d, a', g1, g2, g3⟩ := tSt0 l.length 200 l 0 20 FU omg (by rw [ahy]; omega) omg rfl hl
  have g1' : aai FU (l.length : Int) FU l (0 : Int) (20 : Int) = some (d, ((a' : Nat) : Int)) := g1
  obtain ⟨d2, k1, k2⟩ := tIns FU (by rw [ahy]; omega) a' l.length d omg omg omg
  obtain ⟨d3, m1, m2⟩ := tSt1 l.length 200 d2 20 FU omg (by rw [ahy]; omega) omg omg omg omg
  have m1' : aae FU (l.length : Int) FU d2 (20 : Int) = some d3 := m1
  rw [zaa, collect_eq l omg, zaa, g1', zaa]
  simp only
  rw [k1, zaa, m1', zaa, zaa, zaa]
  exact ⟨d3, rfl, by omega⟩
theorem sorted_eq (l : List PP) (hl : l.length < 20) : agw FU l = some (aos l) := by
  unfold agw agv abb acb acg
  obtain ⟨m, hm⟩ : ∃ m, FU = m + 1 := ⟨FU - 1, by rw [ahy]⟩
  have g1 : aai FU (l.length : Int) FU l (0 : Int) (20 : Int) = some (l, 0) := by
    have : ∀ k, aai FU (l.length : Int) (k + 1) l (0 : Int) (20 : Int) = some (l, 0) := fun k => by
      rw [aai, if_neg omg]
    have := this m
    rw [← hm] at this
    exact this
  have g2 : aae FU (l.length : Int) FU (aos l) (20 : Int) = some (aos l) := by
    have : ∀ k, aae FU (l.length : Int) (k + 1) (aos l) (20 : Int) = some (aos l) := fun k => by
      rw [aae, if_neg omg]
    have := this m
    rw [← hm] at this
    exact this
  rw [zaa, collect_eq l omg, zaa, g1, zaa]
  simp only
  rw [ins_eq l omg, zaa, g2]; rfl
theorem idx47 (c : UInt8) : ∀ v : Str, (zap v [c] = -1 ∧ ∀ b ∈ v, b ≠ c) ∨ (∃ f s2, v = f ++ c :: s2 ∧ (∀ b ∈ f, b ≠ c) ∧ zap v [c] = (f.length : Int))
  | [] => .inl ⟨rfl, by simp⟩
  | b :: l => by
    rw [index_cons]
    have e : ([c] : Str).isPrefixOf (b :: l) = (c == b) := by simp [List.isPrefixOf]
    rw [e]
    by_cases h : b = c
    · subst h
      right
      exact ⟨[], l, rfl, by simp, by rw [if_pos (by simp)]; rfl⟩
    · rw [if_neg (by simpa using fun x => h x.symm)]
      rcases idx47 c l with ⟨h1, h2⟩ | ⟨f, s2, h1, h2, h3⟩
      · left
        rw [if_pos h1]
        exact ⟨rfl, fun x hx => by rcases List.mem_cons.1 hx with rfl | hx; exact h; exact h2 x hx⟩
      · right
        refine ⟨b :: f, s2, by rw [h1]; rfl, fun x hx => by rcases List.mem_cons.1 hx with rfl | hx; exact h; exact h2 x hx, ?_⟩
        rw [if_neg omg, h3, zaf]; omega
def cutOk (v : Str) : Bool := amd (zaC v [47]).1 && (!(zaC v [47]).2.2 || amd (zaC v [47]).2.1)
theorem tok47 : abi 47 = false := by decide
theorem span_all_iff (p : UInt8 → Bool) (l : Str) : l.all p = decide (ajk p l = l.length) := by
  have := span_eq_iff p l
  rw [Bool.eq_iff_iff, decide_eq_true_eq]; exact this.symm
theorem span_part (p : UInt8 → Bool) : ∀ (f : Str) (c : UInt8) (s2 : Str), f.all p = false → ajk p (f ++ c :: s2) < f.length ∧ p (at_ (f ++ c :: s2) (ajk p (f ++ c :: s2) : Int)) = false
  | [], c, s2, h => by cases h
  | a :: f, c, s2, h => by
    cases ha : p a with
    | false =>
      rw [List.cons_append, span_no p a _ ha]
      exact ⟨by simp, by simpa [at_] using ha⟩
    | true =>
      rw [zaF, ha, zao] at h
      have ih := span_part p f c s2 h
      have e : ajk p (a :: f ++ c :: s2) = ajk p (f ++ c :: s2) + 1 := by rw [List.cons_append, ajk, if_pos ha]
      rw [e]
      refine ⟨by rw [zaf]; omega, ?_⟩
      have := ih.2
      simpa [at_] using this
theorem item_cut (v : Str) : cutOk v = decide (v ≠ [] ∧ itemE v = v.length) := by
  unfold cutOk itemE
  rw [skipL_zero, cut_eq]
  have hle := apf abi v
  rcases idx47 47 v with ⟨h1, h2⟩ | ⟨f, s2, h1, h2, h3⟩
  · rw [if_pos h1]
    simp only [zax, Bool.true_or, Bool.and_true]
    have hs : amt v (ajk abi v) 47 = false := by
      cases h : amt v (ajk abi v) 47 with
      | false => rfl
      | true =>
        have := aqc h
        exact absurd this.2 (h2 _ (at_mem v _ this.1))
    rw [hs, if_neg (show ¬ (false = true) by decide)]
    unfold amd
    rw [span_all_iff, Bool.eq_iff_iff]
    simp only [zau, Bool.not_eq_true', List.isEmpty_eq_false_iff, decide_eq_true_eq]
    constructor
    · rintro ⟨a, b⟩
      have := List.length_pos_iff.2 a
      exact ⟨a, by rw [if_neg omg]; exact b⟩
    · rintro ⟨a, b⟩
      have := List.length_pos_iff.2 a
      refine ⟨a, ?_⟩
      split at b
      · omega
      · exact b
  · rw [if_neg omg, h3]
    have et : ((f.length : Nat) : Int).toNat = f.length := by omega
    have e1 : v.take f.length = f := by rw [h1, List.take_left]
    have e2 : v.drop (f.length + ([47] : Str).length) = s2 := by
      rw [h1, zae, show f ++ 47 :: s2 = (f ++ [47]) ++ s2 by simp, show f.length + 1 = (f ++ [47]).length by simp, List.drop_left]
    rw [et, e1, e2]
    simp only [zaq, zaG]
    have hvl : v.length = f.length + 1 + s2.length := by rw [h1]; simp; omega
    have hne : v ≠ [] := by intro e; rw [e, zas] at hvl; omega
    cases hf : f.all abi with
    | false =>
      have hsp := span_part abi f 47 s2 hf
      rw [← h1] at hsp
      have hs : amt v (ajk abi v) 47 = false := by
        cases h : amt v (ajk abi v) 47 with
        | false => rfl
        | true =>
          exfalso
          have ha := (aqc h).2
          have hm : at_ v (ajk abi v : Int) ∈ f := by
            have : at_ v (ajk abi v : Int) = at_ f (ajk abi v : Int) := by
              rw [h1]
              simp only [at_, List.getD_eq_getElem?_getD]
              rw [List.getElem?_append_left (by rw [← h1]; omega)]
            rw [this]; exact at_mem f _ hsp.1
          exact h2 _ hm ha
      have ht : amd f = false := by unfold amd; rw [hf, Bool.and_false]
      rw [ht, Bool.false_and, hs, if_neg (show ¬ (false = true) by decide)]
      symm
      rw [decide_eq_false_iff_not]
      rintro ⟨_, b⟩
      split at b <;> omega
    | true =>
      have hsp : ajk abi v = f.length := by rw [h1, span_app abi f _ hf, span_no abi 47 s2 tok47]; omega
      have hat : at_ v ((f.length : Nat) : Int) = 47 := by rw [h1, at_mid]
      have hs : amt v (ajk abi v) 47 = true := by
        unfold amt
        rw [hsp, hat, decide_eq_true omg]; rfl
      have hsk : aca abi v ((f.length + 1 : Nat) : Int) = f.length + 1 + ajk abi s2 := by
        unfold aca
        rw [aoc _ _ omg]
        have : v.drop (f.length + 1) = s2 := by rw [← e2, zae]
        rw [this]
      rw [hs, if_pos rfl, hsp, hsk]
      unfold amd
      rw [hf, Bool.and_true, span_all_iff]
      have hl2 := apf abi s2
      rw [Bool.eq_iff_iff]
      simp only [zau, Bool.not_eq_true', List.isEmpty_eq_false_iff, decide_eq_true_eq]
      constructor
      · rintro ⟨a, b, c⟩
        have ha := List.length_pos_iff.2 a
        have hb := List.length_pos_iff.2 b
        refine ⟨hne, ?_⟩
        rw [if_neg omg, if_neg omg]; omega
      · rintro ⟨_, b⟩
        by_cases h0 : f.length = 0
        · rw [if_pos h0] at b; omega
        · rw [if_neg h0] at b
          by_cases h4 : f.length + 1 + ajk abi s2 = f.length + 1
          · rw [if_pos h4] at b; omega
          · rw [if_neg h4] at b
            exact ⟨fun e => h0 (by rw [e]; rfl), fun e => by rw [e] at h4; simp [ajk] at h4, by omega⟩
theorem ppM_len (l : List PP) (hb : ∀ p ∈ l, p.1.length ≤ 1048576 ∧ p.2.1.length ≤ 1048576) : (ppM l).1.length ≤ 64000000 := by
  unfold ppM
  split
  · simp
  · rename_i h
    cases hp : ppL [] l with
    | none => simp
    | some t =>
      have := ppL_len l [] t hb hp
      simp only
      omega
def prItem (x : Str × List PP) : Str × UInt8 := if cutOk x.1 = true ∧ (ppM (aos x.2)).2 = 0 then (x.1 ++ (ppM (aos x.2)).1, 0) else ([], 2)
theorem rfPrintItem_eq (x : Str × List PP) (h1 : x.1.length ≤ 1048576) (hl : x.2.length ≤ 40) (hb : ∀ p ∈ x.2, p.1.length ≤ 1048576 ∧ p.2.1.length ≤ 1048576) : aje FU x = some (prItem x) := by
  have hb' : ∀ p ∈ aos x.2, p.1.length ≤ 1048576 ∧ p.2.1.length ≤ 1048576 := fun p hp => hb p (isort_mem _ p hp)
  have hil := isort_len x.2
  have hpl := ppM_len (aos x.2) hb'
  unfold aje prItem
  rw [rfSorted_eq x.2 omg, zaa, rfPrintParams_eq _ omg hb', zaa, item_cut]
  by_cases h2 : x.1 = []
  · rw [if_pos h2, zaa, cond_true, if_neg (by rintro ⟨a, b⟩; rw [decide_eq_true_eq] at a; exact a.1 h2)]
  · rw [if_neg h2, itemEnd_eq x.1 h1, zaa]
    by_cases h3 : itemE x.1 = x.1.length
    · rw [if_pos omg, zaa]
      by_cases h4 : (ppM (aos x.2)).2 = 0
      · rw [decide_eq_true h4, zaq, cond_false, aac omg, if_pos ⟨decide_eq_true ⟨h2, h3⟩, h4⟩]
      · rw [decide_eq_false h4, zax, cond_true, if_neg (fun h => h4 h.2)]
    · rw [if_neg omg, zaa, cond_true, if_neg (by rintro ⟨a, b⟩; rw [decide_eq_true_eq] at a; exact h3 a.2)]
theorem long_eq2 (l : List PP) (h : 16 < l.length) : adq FU l = some ([], 2) := by
  unfold adq; rw [if_pos omg]
theorem printItem_eq (x : Str × List PP) (h1 : x.1.length ≤ 1048576) (hl : x.2.length ≤ 40) (hb : ∀ p ∈ x.2, p.1.length ≤ 1048576 ∧ p.2.1.length ≤ 1048576) : aii FU x = some (prItem x) := by
  have hb' : ∀ p ∈ aos x.2, p.1.length ≤ 1048576 ∧ p.2.1.length ≤ 1048576 := fun p hp => hb p (isort_mem _ p hp)
  have hil := isort_len x.2
  have hpl := ppM_len (aos x.2) hb'
  have hc := cut_len x.1 [47]
  unfold aii prItem
  rw [aac omg, token_eq _ omg, zaa]
  have e : (bif (!amd (zaC x.1 [47]).1) then some true else (bif ((zaC x.1 [47]).2.2) then ((agf FU ((zaC x.1 [47]).2.1)).bind fun (y31 : Bool) => some (!y31)) else some false)) = some (!cutOk x.1) := by
    unfold cutOk
    rw [token_eq _ omg]
    cases amd (zaC x.1 [47]).1 <;> cases (zaC x.1 [47]).2.2 <;> simp
  rw [e, zaa]
  cases hk : cutOk x.1 with
  | false => rw [zax, cond_true, if_neg (fun h => absurd h.1 (by decide))]
  | true =>
    rw [zaq, cond_false]
    obtain ⟨y, hy1, hy2⟩ : ∃ y, ((agw FU x.2).bind fun (y39 : List PP) => ((adq FU y39).bind fun (y47 : (Str × UInt8)) => (if y47.2 = (0 : UInt8) then (gd (x.1.length + y47.1.length ≤ 9223372036854775807) <| some (x.1 ++ y47.1, (0 : UInt8))) else some (([] : Str), (2 : UInt8))))) = (if (ppM (aos x.2)).2 = (0 : UInt8) then (gd (x.1.length + (ppM (aos x.2)).1.length ≤ 9223372036854775807) <| some (x.1 ++ (ppM (aos x.2)).1, (0 : UInt8))) else some (([] : Str), (2 : UInt8))) ∧ y = 0 := by
      refine ⟨0, ?_, rfl⟩
      by_cases h16 : 16 < x.2.length
      · obtain ⟨d, g1, g2⟩ := sorted_keeps x.2 omg
        have hm : ppM (aos x.2) = ([], 2) := by unfold ppM; rw [if_pos omg]
        rw [g1, zaa, long_eq2 d omg, zaa, hm]
      · rw [sorted_eq x.2 omg, zaa, printParams_eq _ hb', zaa]
    rw [hy1]
    by_cases h4 : (ppM (aos x.2)).2 = 0
    · rw [if_pos h4, aac omg, if_pos ⟨rfl, h4⟩]
    · rw [if_neg h4, if_neg (fun h => h4 h.2)]
theorem same_lp2 (X : List PP) (hX : X.length ≤ 1048576) (n : Nat) : ∀ (k fk : Nat), k + n = X.length → n < fk → adw FU X X fk (k : Int) = some (.inl ()) := by
  induction n with
  | zero =>
    intro k fk hk hf
    obtain ⟨fk, rfl⟩ : ∃ m, fk = m + 1 := ⟨fk - 1, by omega⟩
    rw [adw, if_neg omg]
  | succ n ih =>
    intro k fk hk hf
    obtain ⟨fk, rfl⟩ : ∃ m, fk = m + 1 := ⟨fk - 1, by omega⟩
    have hin : (0 : Int) ≤ (k : Int) ∧ (k : Int) < (X.length : Int) := by omega
    rw [adw, if_pos hin.2, aac hin, aac hin, aac hin, aac hin, if_pos rfl, aac (ajn _ omg omg)]
    exact ih (k + 1) fk omg omg
theorem sameParams_self (X : List PP) (hX : X.length ≤ 1048576) : aif FU X X = some true := by
  have := same_lp2 X hX X.length 0 FU omg (by rw [ahy]; omega)
  have this' : adw FU X X FU (0 : Int) = _ := this
  unfold aif
  rw [if_pos rfl, this']; rfl
theorem parM_len (s : Str) : ∀ (f : Nat) (l : List PP) (i : Nat), l.length ≤ 16 → (parM s f l i).1.length ≤ 16
  | 0, _, _, _ => by simp [parM]
  | f + 1, l, i, h => by
    rw [parM]
    split
    · exact h
    · split
      · simp
      · split
        · split
          · rename_i hr
            have hl16 := ((room0 l _).1 hr).2
            exact parM_len s f _ _ (by simp only [zag, zae]; omega)
          · simp
        · simp
theorem itemP_len (v : Str) : (itemP v).1.2.length ≤ 16 := by
  unfold itemP
  split
  · simp
  · split
    · exact parM_len _ _ _ _ (by simp)
    · simp
end Go.Wk
set_option maxRecDepth 100000
namespace Go.Wk
open Go.Px
open Option renaming bind_some → zaa
theorem awake_true : amk FU = some true := by kernel_rfl
theorem sum_mem {α : Type} (f : α → Nat) : ∀ (l : List α) (x : α), x ∈ l → f x ≤ (l.map f).sum
  | [], _, h => by simp at h
  | a :: l, x, h => by
    rw [List.map_cons, List.sum_cons]
    rcases List.mem_cons.1 h with rfl | h
    · omega
    · have := sum_mem f l x h; omega
theorem plain_HeaderItems (v : Str) (x : Str × List (Str × Str × Bool)) (h : v.length + x.1.length + (x.2.map fun z => z.1.length + z.2.1.length).sum ≤ 1048576) : ajq FU v x = some true := by
  have hb : ∀ p ∈ x.2, p.1.length ≤ 1048576 ∧ p.2.1.length ≤ 1048576 := fun p hp => by
    have := sum_mem (fun z : Str × Str × Bool => z.1.length + z.2.1.length) x.2 p hp
    omega
  unfold ajq
  by_cases h40 : 40 < x.2.length
  · rw [if_pos omg, awake_true]; rfl
  · have hl := itemP_len v
    rw [if_neg omg, item_eq v omg, zaa, rfItem_eq v omg, zaa, printItem_eq x omg omg hb, zaa, rfPrintItem_eq x omg omg hb, zaa, if_pos rfl, sameParams_self _ omg, zaa, cond_true, if_pos rfl, if_pos rfl, if_pos rfl, awake_true]
    rfl
end Go.Wk
set_option linter.unusedVariables false
set_option maxRecDepth 100000
namespace Go.Proofs.YtbfppjfgcjpknaaGreatDoor.headerItems
open Go.ChangeShapes Go.WideShapes Go.ChangeAt Go.ChangeMaps Go.RowKit Go.Wk
theorem fact5 : laidOutB Tryz.prog = true := by kernel_rfl
theorem fact6 : mapsRowed Tryz.prog = true := by kernel_rfl
theorem fact7 : ((List.range Tryz.prog.types.size).all fun t => match Tryz.prog.underlying t with | some (.slice e) => decide (0 < Tryz.prog.cellsOf e) | _ => true) = true := by kernel_rfl
theorem dec_t46 {W : World} {H : Type} {enc : TypeId × Value → H} : Dec Tryz.prog W enc 46 aaa (fun z => z.1.length ≤ 9223372036854775807 ∧ z.2.1.length ≤ 9223372036854775807) (fun z => z.1.length + z.2.1.length) := by
  intro base sp hd fuel cs x h
  obtain ⟨xs, n, _, rfl, hl, hlen, hf⟩ := DataW.trod_struct Tryz.underlying46 h
  rw [show Tryz.prog.cellsOf 46 = 3 by kernel_rfl] at hl
  match cs, hl with
  | [c0, c1, c2], _ =>
  match xs, hlen with
  | [y0, y1, y2], _ =>
  obtain ⟨z0, e0, g0, s0⟩ := dec_string Tryz.underlying9 _ _ _ _ _ _ (hf 0 _ rfl)
  obtain ⟨z1, e1, g1, s1⟩ := dec_string Tryz.underlying9 _ _ _ _ _ _ (hf 1 _ rfl)
  obtain ⟨z2, e2, g2, s2⟩ := dec_bool Tryz.underlying4 _ _ _ _ _ _ (hf 2 _ rfl)
  have u0 : [c0] = _ := e0
  clear e0
  have u1 : [c1] = _ := e1
  clear e1
  have u2 : [c2] = _ := e2
  clear e2
  refine ⟨(z0, z1, z2), ?_, ?_, ?_⟩
  · simp only [eS, eI, eB, List.cons.injEq, and_true] at u0 u1 u2
    subst u0 u1 u2
    rfl
  · exact ⟨g0, g1⟩
  · simp only [List.map_cons, List.map_nil, Rows.uptoBulk, Rows.uptoBulkAll] at *
    omega
theorem contract (H : Type) (enc : TypeId × Value → H) (W : World) (base : Nat) (args : Array Value) (ds gs : List (DataW H)) (before : List MemPlace)
    (hval : ∀ (j : Nat) t v, Tryz.f4.params[j]? = some t → args[j]? = some v → Value.okWide Tryz.prog W .any base t v)
    (hW : DataW.Whole enc Tryz.prog Tryz.f4.params.toList Rows.headerItemsSpec.vars false W args.toList ds gs before) (hL : laidMetH Tryz.prog Rows.headerItemsRow.laid W) (hsh : W.ShapedOpen Tryz.prog) (hk : Rows.uptoSmall H (ds ++ gs) = true) :
    Calls Tryz.prog 4 args W fun e W' => ∃ v, e = .returned v ∧ Rows.headerItemsSpec.post enc Tryz.prog Tryz.f4 false true false false W args v W' := by
  have hW' := hW
  obtain ⟨p, q, hA0, hV, rfl, hfz, hnd⟩ := hW
  have hA : DataW.TrodAll enc Tryz.prog W 0 (fun _ => true) true Tryz.f4.params.toList args.toList ds p := hA0
  rw [Tryz.params4] at hA hval
  have hAA := hA
  obtain ⟨v0, vs0, d0, ds0, p0, q0, hargs, rfl, rfl, h0, r0⟩ := trodAll_cons hA
  obtain ⟨v1, vs1, d1, ds1, p1, q1, rfl, rfl, rfl, h1, r1⟩ := trodAll_cons r0
  obtain ⟨rfl, rfl, rfl⟩ := trodAll_nil r1
  obtain rfl : args = #[v0, v1] := by cases args; simp_all
  obtain ⟨rfl, rfl⟩ := trodVars_none hV
  obtain ⟨fu0, t0⟩ := h0
  obtain ⟨z0, ez0, gz0, bz0⟩ := dec_string Tryz.underlying9 _ _ _ _ _ _ t0
  obtain rfl := oneCellOf Tryz.underlying9 (hval 0 9 v0 rfl rfl) rfl ez0
  obtain ⟨fu1, t1⟩ := h1
  obtain ⟨cs1, rfl, hz1, _⟩ : ∃ cs, v1 = .agg cs ∧ cs.size = Tryz.prog.cellsOf 34 ∧ Row.okWide Tryz.prog W .any base 34 cs := by
    have := hval 1 34 v1 rfl rfl
    simpa only [Value.okWide, Tryz.underlying34] using this
  obtain ⟨xs1, nn1, _, ex1, hl1, hlen1, hf1⟩ := DataW.trod_struct Tryz.underlying34 t1
  rw [show Tryz.prog.cellsOf 34 = 2 by kernel_rfl] at hl1
  obtain ⟨cl1⟩ := cs1
  obtain ⟨c1_0, c1_1, rfl⟩ : ∃ c1_0 c1_1, cl1 = [c1_0, c1_1] := by
    match cl1, hl1 with
    | [c1_0, c1_1], _ => exact ⟨_, _, rfl⟩
  obtain ⟨y1_0, y1_1, rfl⟩ : ∃ y1_0 y1_1, xs1 = [y1_0, y1_1] := by
    match xs1, hlen1 with
    | [y1_0, y1_1], _ => exact ⟨_, _, rfl⟩
  simp only [List.map_cons, List.map_nil, Prod.mk.injEq] at ex1
  obtain ⟨rfl, rfl⟩ := ex1
  obtain ⟨z1, ez1, gz1, bz1⟩ := dec_string Tryz.underlying9 _ _ _ _ _ _ (hf1 0 _ rfl)
  have uez1 : [c1_0] = _ := ez1
  clear ez1
  simp only [eS, eI, eB, List.cons.injEq, and_true] at uez1
  subst uez1
  obtain ⟨a2, n2, cap2, z2, ez2, hn2, hc2, hR2, gz2, bz2⟩ := dec_slice Tryz.underlying22 (dec_t46) (hf1 1 _ rfl)
  have uez2 : [c1_1] = _ := ez2
  clear ez2
  simp only [eS, eI, eB, List.cons.injEq, and_true] at uez2
  subst uez2
  clear hA0
  simp only [List.append_nil] at hW'
  have hb := of_decide_eq_true hk
  simp only [List.append_nil, Rows.uptoBulkAll, Rows.uptoBulk] at hb
  try simp only at bz0
  try simp only at bz1
  try simp only at bz2
  have hr := plain_HeaderItems z0 (z1, z2) (by (try simp only); omega)
  have hgs : 9 ≤ W.heap.size := heapSize hsh (of_decide_eq_true krf) krf
  have walk := K_L_law03_HeaderItems a2 n2 cap2 hr (glOf hL hsh hgs) hn2 hR2 hc2
  refine Calls.mono walk ?_
  rintro e W' ⟨v, rfl, rfl, hH⟩
  exact ⟨_, rfl, postOf (pa := _) (pv := []) hW' (fun _ _ _ => trodAll_cons_mk (shut_bool Tryz.underlying4 _) trodAll_mk0) (fun sp hsp => again fact5 fact6 fact7 krf hAA hH.toBelow (fun p hp => hW'.lt p (by simpa using hp)) sp (fun p hp => hsp p (by simpa using hp))) (fun _ _ => rfl) (hH.toBelow.frame _)⟩
theorem laid_met (os : Os) : laidMet Tryz.prog Rows.headerItemsRow.laid ((laidWorld os).forCall (fun _ _ => 0) ⟨#[], #[.string ⟨#[]⟩, .agg #[.string ⟨#[]⟩, .slice none 0 0]], []⟩).memory :=
  laidMet_of_run' 8 krf krf
theorem reads (os : Os) {H : Type} (enc : TypeId × Value → H) : ∃ places, DataW.whole enc Tryz.prog ((laidWorld os).forCall (fun _ _ => 0) ⟨#[], #[.string ⟨#[]⟩, .agg #[.string ⟨#[]⟩, .slice none 0 0]], []⟩).memory Tryz.f4.params.toList Rows.headerItemsSpec.vars false (#[.string ⟨#[]⟩, .agg #[.string ⟨#[]⟩, .slice none 0 0]] : Array Value).toList 8 = some ([.lit (.string []), .agg [.lit (.string []), .nil]], [], places) :=
  ⟨[], by kernel_rfl⟩
theorem lifted (os : Os) (started : os.Started) (H : Type) (enc : TypeId × Value → H) (F : Stop.Interp) :
    ReturnsInHanded {} Tryz.checked os 4 .any ((Rows.OpenSpec.upto Rows.headerItemsSpec).preRow enc Tryz.prog Tryz.f4 Rows.headerItemsUptoRow.domain false Rows.headerItemsUptoRow.laid) (((Rows.OpenSpec.upto Rows.headerItemsSpec).at F).post enc Tryz.prog Tryz.f4 false true false false) := by
  obtain ⟨places, hx⟩ := reads os enc
  refine returnsInHanded_of_row (C := Tryz.checked) (s := Rows.OpenSpec.upto Rows.headerItemsSpec) own started krf Tryz.func4
    (witness_row_at (enc := enc) (C := Tryz.checked) false (laidWorld os) #[.string ⟨#[]⟩, .agg #[.string ⟨#[]⟩, .slice none 0 0]] rfl krf krf krf
      (OpenSpec.preRow_of_cond 8 hx krf (fun k hk => by cases hk; kernel_rfl) krf (laid_met os))) ?_
  intro W base args ds gs before hval hW _ hcond _ hL hsh _
  exact contract H enc W base args ds gs before hval hW hL hsh (hcond _ rfl)
theorem fact1 : (Rows.headerItemsUptoRow.inPlace == Tryz.prog.inPlace 4) = true := by kernel_rfl
theorem fact2 : (Rows.headerItemsUptoRow.unfollowed == Tryz.prog.unfollowed 4) = true := by kernel_rfl
theorem fact3 : (Rows.headerItemsUptoRow.recurses == Tryz.prog.recurses 4) = true := by kernel_rfl
theorem fact4 : (Rows.headerItemsUptoRow.named == Tryz.prog.varsNamed 4) = true := by kernel_rfl
theorem facts : joinedFacts Tryz.prog 4 Tryz.f4 (Rows.OpenSpec.upto Rows.headerItemsSpec).bare Rows.headerItemsUptoRow = true := by
  unfold joinedFacts
  rw [fact1, fact2, fact3, fact4, fact5, fact6]
  kernel_rfl
theorem said : Rows.HeaderItemsUptoSaid :=
  OpenClaim.holds_of_cond 4 Tryz.f4 rfl rfl rfl rfl rfl rfl rfl ⟨rfl, rfl, rfl, rfl, rfl⟩ rfl rfl rfl rfl rfl krf Tryz.func4 facts
    (of_decide_eq_true krf) (by unfold Func.isWrapper; first | (rw [if_pos (by decide +kernel)]; kernel_rfl) | (rw [if_neg (by decide +kernel)]; exact ⟨rfl, rfl⟩))
    (fun os started H enc _ F => by rw [OpenClaim.pre_eq_preRow]; exact lifted os started H enc F)
theorem plain (f : FuncId) (fn : Func) (hf : Tryz.pinned.checked.prog.funcNamed "dialtone/dialtonelaw03.HeaderItems" = some f) (hfn : Tryz.pinned.checked.prog.funcs[f]? = some fn) :
    false = Tryz.pinned.checked.prog.looks [] ∧ ∀ (j : Nat) t, fn.params[j]? = some t → Tryz.pinned.checked.prog.wantsStandIn t = false := by
  obtain rfl : f = 4 := Option.some.inj ((show Tryz.prog.funcNamed "dialtone/dialtonelaw03.HeaderItems" = some 4 by kernel_rfl).symm.trans hf) |>.symm
  obtain rfl : fn = Tryz.f4 := (Option.some.inj (Tryz.func4.symm.trans hfn)).symm
  refine ⟨by kernel_rfl, fun j t ht => ?_⟩
  rw [Tryz.params4] at ht
  have hm := Array.mem_of_getElem? ht
  simp only [List.mem_toArray, List.mem_cons, List.not_mem_nil, or_false, or_self] at hm
  rcases hm with rfl | rfl
  · exact (show Tryz.prog.wantsStandIn 9 = false by kernel_rfl)
  · exact (show Tryz.prog.wantsStandIn 34 = false by kernel_rfl)
theorem card : Rows.HeaderItemsUptoCardSaid :=
  Claim7.holds_tied_plain_at .later [] _ _ _ _ said (fun _ h => by cases h) krf (fun _ h => by cases h) headerItemsUpto_row_tie rfl ⟨rfl, rfl⟩ krf rfl plain krf
end Go.Proofs.YtbfppjfgcjpknaaGreatDoor.headerItems
