/-
  The law HeaderElements holds: for every list of numbers and every number of blanks the call returns true; no condition beyond the statement's own (part 8 of 8).
-/
import Derived.Test.YtbfppjfgcjpknaaGreatDoorHe7
import Derived.Test.YtbfppjfgcjpknaaGreatDoorRows
import Derived.ProofKit
import Derived.OpenShut
import Derived.Deep.DeepHandedRow
import Derived.Lib.LaidTab
import Derived.Shelf.Vars
import Derived.ChangeSame
import Derived.WalkKit
import Derived.SevenTiedAt
import Derived.Deep.Slices
import Derived.ReadAgain
import Derived.Test.YtbfppjfgcjpknaaGreatDoorCards
import Derived.Test.YtbfppjfgcjpknaaGreatDoorTie
import Derived.ChangeMaps5
set_option linter.unusedVariables false
set_option linter.unusedSimpArgs false
set_option maxRecDepth 20000
namespace Go.Proofs
open Go.Wk Go.Px Go.RowKit
theorem lenOf {s : ByteArray} (h : s.size ≤ maxLen) : s.data.toList.length ≤ 9223372036854775807 := Nat.le_trans (by rw [Array.length_toList]; exact h) (show maxLen ≤ 9223372036854775807 by decide)
theorem laidAt {P : Program} {w : World} : ∀ {l : List (String × DataW Unit)} {ps : List MemPlace}, DataW.LaidVars P w l ps → ∀ (i : Nat) {n : String} {d : DataW Unit}, l[i]? = some (n, d) →
    ∃ g t cs fuel p, P.globalNamed n = some g ∧ (P.globals[g]?).map (·.type) = some t ∧ w.var? P n = some cs ∧ DataW.trod (fun _ => ()) P w 0 (fun _ => true) false fuel t cs.toList = some (d, p)
  | [], _, _, i, n, d, hi => by simp at hi
  | (n', d') :: l, ps, h, 0, n, d, hi => by
    obtain ⟨g, t, cs, fuel, p, q, h1, h2, h3, h4, _, _⟩ := h
    simp only [List.getElem?_cons_zero, Option.some.injEq, Prod.mk.injEq] at hi
    obtain ⟨rfl, rfl⟩ := hi
    exact ⟨g, t, cs, fuel, p, h1, h2, h3, h4⟩
  | (n', d') :: l, ps, h, i + 1, n, d, hi => by
    obtain ⟨g, t, cs, fuel, p, q, _, _, _, _, h5, _⟩ := h
    exact laidAt h5 i (by simpa using hi)
theorem vrOf {P : Program} {w : World} {n : String} {g : Nat} {cs : Array Value} (hg : P.globalNamed n = some g) (h : w.var? P n = some cs) : Vr w g cs.toList := by
  simp only [World.var?, hg, Option.bind_some] at h
  split at h
  · rename_i cs' t f e
    cases h
    exact ⟨t, f, by rw [e]⟩
  · cases h
theorem chunks {α : Type} {f : α → List Value} {sz : Nat} : ∀ (zs : List α) (cs : List Value), cs.length = zs.length * sz → (∀ (i : Nat) (z : α), zs[i]? = some z → (cs.drop (i * sz)).take sz = f z) → cs = zs.flatMap f
  | [], cs, hl, _ => by simpa using hl
  | z :: zs, cs, hl, h => by
    have h0 := h 0 z rfl
    simp only [Nat.zero_mul, List.drop_zero] at h0
    have h1 := chunks (f := f) (sz := sz) zs (cs.drop sz) (by rw [List.length_drop, hl, List.length_cons, Nat.succ_mul]; omega) (fun i z' hi => by
      have := h (i + 1) z' (by simpa using hi)
      rw [List.drop_drop, Nat.add_comm, ← Nat.succ_mul]
      exact this)
    rw [List.flatMap_cons, ← h0, ← h1, List.take_append_drop]
theorem arrCells {P : Program} {w : World} {fuel n sz : Nat} {t e : TypeId} {cs : List Value} {p : List MemPlace} {α : Type} {dz : α → DataW Unit} {f : α → List Value} (zs : List α)
    (ht : P.underlying t = some (.array n e)) (hce : P.cellsOf e = sz) (hct : P.cellsOf t = n * sz) (hz : zs.length = n)
    (hel : ∀ fuel cs' z p, DataW.trod (fun _ => ()) P w 0 (fun _ => true) false fuel e cs' = some (dz z, p) → cs' = f z)
    (h : DataW.trod (fun _ => ()) P w 0 (fun _ => true) false fuel t cs = some (.agg (zs.map dz), p)) : cs = zs.flatMap f := by
  cases fuel with
  | zero => simp [DataW.trod] at h
  | succ fuel =>
    simp only [DataW.trod, ht, hce, hct] at h
    split at h
    · rename_i hl
      obtain ⟨xs, hm, hx⟩ := Option.map_eq_some_iff.1 h
      have hxs : xs.map (·.1) = zs.map dz := by
        have := congrArg Prod.fst hx
        simpa using this
      refine chunks zs cs (by rw [hl, hz]) fun i z hi => ?_
      have hi' : i < n := by rw [← hz]; exact (List.getElem?_eq_some_iff.1 hi).1
      obtain ⟨b, hb, hf⟩ := Lib.mapM_at hm i i (by simp [hi'])
      have hb1 : b.1 = dz z := by
        have e1 : (xs.map (·.1))[i]? = some b.1 := by simp [hb]
        rw [hxs] at e1
        simp only [List.getElem?_map, hi, Option.map_some, Option.some.injEq] at e1
        exact e1.symm
      exact hel fuel _ z b.2 (by rw [hf, ← hb1])
    · cases h
theorem strCell {P : Program} {w : World} {fuel : Nat} {e : TypeId} {cs : List Value} {p : List MemPlace} (he : P.underlying e = some .string) (z : List UInt8)
    (h : DataW.trod (fun _ => ()) P w 0 (fun _ => true) false fuel e cs = some (.lit (.string z), p)) : cs = eS z := by
  obtain ⟨s, rfl, hx, _⟩ := DataW.trod_string he h
  simp only [Prod.mk.injEq, DataW.lit.injEq, Lit.string.injEq] at hx
  obtain ⟨rfl, _⟩ := hx
  rfl
theorem intCell {P : Program} {w : World} {fuel : Nat} {e : TypeId} {k : IntKind} {cs : List Value} {p : List MemPlace} (he : P.underlying e = some (.int k)) (z : Int)
    (h : DataW.trod (fun _ => ()) P w 0 (fun _ => true) false fuel e cs = some (.lit (.int k z), p)) : cs = [.int k z] := by
  obtain ⟨n, rfl, hx, _⟩ := DataW.trod_int he h
  simp only [Prod.mk.injEq, DataW.lit.injEq, Lit.int.injEq] at hx
  obtain ⟨⟨_, rfl⟩, _⟩ := hx
  rfl
theorem pairCell {P : Program} {w : World} {fuel : Nat} {e a b : TypeId} {f0 f1 : Field} {k : IntKind} {cs : List Value} {p : List MemPlace} (he : P.underlying e = some (.struct #[f0, f1])) (ha : P.underlying a = some .string) (hb : P.underlying b = some (.int k))
    (h0 : (f0.type, f0.offset, f1.type, f1.offset) = (a, 0, b, 1)) (hca : P.cellsOf a = 1) (hcb : P.cellsOf b = 1) (hc : P.cellsOf e = 2) (z : List UInt8 × Int)
    (h : DataW.trod (fun _ => ()) P w 0 (fun _ => true) false fuel e cs = some (.agg [.lit (.string z.1), .lit (.int k z.2)], p)) : cs = [str z.1, .int k z.2] := by
  obtain ⟨z1, z2⟩ := z
  simp only [Prod.mk.injEq] at h0
  obtain ⟨t0, o0, t1, o1⟩ := h0
  cases fuel with
  | zero => simp [DataW.trod] at h
  | succ fuel =>
    simp only [DataW.trod, he, hc] at h
    split at h
    · rename_i hl
      obtain ⟨xs, hm, hx⟩ := Option.map_eq_some_iff.1 h
      simp only [List.mapM_cons, List.mapM_nil, Option.bind_eq_bind, Option.bind_eq_some_iff, Option.pure_def, Option.some.injEq, t0, t1, o0, o1, hca, hcb, List.drop_zero] at hm
      obtain ⟨x0, hx0, r0, ⟨x1, hx1, r1, rfl, rfl⟩, rfl⟩ := hm
      simp only [List.map_cons, List.map_nil, Prod.mk.injEq, DataW.agg.injEq, List.cons.injEq, and_true] at hx
      obtain ⟨⟨e0, e1⟩, _⟩ := hx
      have g0 := strCell ha z1 (p := x0.2) (by rw [hx0, ← e0])
      have g1 := intCell hb z2 (p := x1.2) (by rw [hx1, ← e1])
      match cs, hl, g0, g1 with
      | [u, v], _, g0, g1 =>
        simp only [List.take_succ_cons, List.take_zero, List.drop_succ_cons, List.drop_zero, eS, List.cons.injEq, and_true] at g0 g1
        rw [g0, g1]
    · cases h
theorem intVar {P : Program} {w : World} {g : Nat} {t : TypeId} {zero : Array Value} {k : IntKind} (h : w.ShapedOpen P) (hg : g < P.globals.size)
    (h0 : ((begin P (fun _ _ => 0) default).world.heap[g]?).bind Obj.row? = some (zero, t)) (hz : zero.size = 1)
    (hb : P.buildable t = true) (hc : P.cellTypes P.depth t = some [t]) (hu : P.underlying t = some (.int k)) : ∃ m, Vr w g [.int k m] := by
  obtain ⟨m, hm⟩ := cell_of_shapedOpen_int h hg h0 hz hb hc hu
  obtain ⟨cs, hh, hs, _⟩ := h.1 g zero t hg h0
  refine ⟨m, t, (0, 0), ?_⟩
  rw [hh]
  have h1 : cs.size = 1 := by omega
  have h2 : cs[0]? = some (.int k m) := by
    have : w.cell? ⟨g, 0, none⟩ = cs[0]? := by simp [World.cell?, hh]
    rw [← this]; exact hm
  have e : cs = [Value.int k m].toArray := by
    apply Array.ext
    · simp [h1]
    · intro i hi hi'
      have : i = 0 := by omega
      subst this
      simpa [hi] using h2
  rw [e]
theorem heapSize {P : Program} {w : World} {g : Nat} (h : w.ShapedOpen P) (hg : g < P.globals.size) (h0 : (((begin P (fun _ _ => 0) default).world.heap[g]?).bind Obj.row?).isSome = true) : g + 1 ≤ w.heap.size := by
  obtain ⟨⟨zero, t⟩, h1⟩ := Option.isSome_iff_exists.1 h0
  obtain ⟨cs, hh, _⟩ := h.1 g zero t hg h1
  exact (Array.getElem?_eq_some_iff.1 hh).1
theorem laidOf {P : Program} {l : List (String × DataW Unit)} {w : World} (h : laidMetH P l w) (hn : (l.filter fun x => x.2.handleName?.isSome) = []) : ∃ ps, DataW.LaidVars P w l ps := by
  unfold laidMetH at h
  rw [hn] at h
  obtain ⟨ps, h1, _⟩ := h
  exact ⟨ps, h1⟩
theorem postOf {H : Type} {enc : TypeId × Value → H} {P : Program} {f : Func} {s : ChangeSpec} {apart fresh handsOn : Bool} {W W' : World} {args : Array Value} {v : Value} {ds gs : List (DataW H)} {before pa pv : List MemPlace}
    (hW : DataW.Whole enc P f.params.toList s.vars apart W args.toList ds gs before)
    (hres : ∀ (b : Nat) (sp : Nat → Bool) (hd : Bool), DataW.TrodAll enc P W' b sp hd f.resultTypes.toList (v.resultList f.resultTypes.size) (s.fn H (ds ++ gs)).results [])
    (hargs : ∀ sp : Nat → Bool, (∀ p ∈ before, sp p.block = true) → DataW.TrodAll enc P W' 0 sp true f.params.toList args.toList (s.fn H (ds ++ gs)).args pa)
    (hvars : ∀ sp : Nat → Bool, (∀ p ∈ before, sp p.block = true) → DataW.TrodVars enc P W' sp s.vars (s.fn H (ds ++ gs)).vars pv)
    (hk : W.keptBut W' (fun p => p ∈ before ∧ (p ∈ ([] : List MemPlace) ∨ p ∈ pa ∨ p ∈ pv))) : s.post enc P f apart fresh handsOn false W args v W' := by
  have hold : ∀ p ∈ before, (fun b => decide (b < W.heap.size)) p.block = true := fun p hp => by simpa using hW.lt p hp
  exact ⟨ds, gs, before, [], pa, pv, hW, hres _ _ _, hargs _ hold, hvars _ hold, hk, fun h => by cases h⟩
end Go.Proofs
set_option linter.unusedVariables false
set_option maxRecDepth 100000
namespace Go.Proofs
open Go.Wk Go.Px Go.RowKit
theorem glOf {W : World} (hL : laidMetH Tryz.prog YtbfppjfgcjpknaaGreatDoor.Rows.headerElementsRow.laid W) (hsh : W.ShapedOpen Tryz.prog) (hs : 9 ≤ W.heap.size) : Gl W := by
  obtain ⟨ps, h⟩ := laidOf hL (by kernel_rfl)
  have v0 : Vr W 0 (List.flatMap eS ahw) := by
    obtain ⟨g, t, cs, fuel, p, h1, h2, h3, h4⟩ := laidAt h 5 rfl
    obtain rfl := Option.some.inj ((show Tryz.prog.globalNamed "dialtone/header.specials" = some 0 by kernel_rfl).symm.trans h1)
    obtain rfl := Option.some.inj ((show (Tryz.prog.globals[0]?).map (·.type) = some 99 by kernel_rfl).symm.trans h2)
    have e := arrCells (dz := fun s => .lit (.string s)) (f := eS) ahw Tryz.underlying99 (show Tryz.prog.cellsOf 9 = 1 by kernel_rfl) (by kernel_rfl) rfl (fun _ _ z _ h => strCell Tryz.underlying9 z h) h4
    have := vrOf h1 h3
    rw [e] at this
    exact this
  have v1 : Vr W 1 (List.flatMap ame akg) := by
    obtain ⟨g, t, cs, fuel, p, h1, h2, h3, h4⟩ := laidAt h 6 rfl
    obtain rfl := Option.some.inj ((show Tryz.prog.globalNamed "dialtone/header.kinds" = some 1 by kernel_rfl).symm.trans h1)
    obtain rfl := Option.some.inj ((show (Tryz.prog.globals[1]?).map (·.type) = some 182 by kernel_rfl).symm.trans h2)
    have e := arrCells (dz := fun z => .agg [.lit (.string z.1), .lit (.int .i64 z.2)]) (f := ame) akg Tryz.underlying182 (show Tryz.prog.cellsOf 181 = 2 by kernel_rfl) (by kernel_rfl) rfl (fun _ _ z _ h => pairCell Tryz.underlying181 Tryz.underlying9 Tryz.underlying143 rfl (by kernel_rfl) (by kernel_rfl) (by kernel_rfl) z h) h4
    have := vrOf h1 h3
    rw [e] at this
    exact this
  have v3 : Vr W 3 (List.flatMap eS ajd) := by
    obtain ⟨g, t, cs, fuel, p, h1, h2, h3, h4⟩ := laidAt h 4 rfl
    obtain rfl := Option.some.inj ((show Tryz.prog.globalNamed "dialtone/address.classes" = some 3 by kernel_rfl).symm.trans h1)
    obtain rfl := Option.some.inj ((show (Tryz.prog.globals[3]?).map (·.type) = some 220 by kernel_rfl).symm.trans h2)
    have e := arrCells (dz := fun s => .lit (.string s)) (f := eS) ajd Tryz.underlying220 (show Tryz.prog.cellsOf 9 = 1 by kernel_rfl) (by kernel_rfl) rfl (fun _ _ z _ h => strCell Tryz.underlying9 z h) h4
    have := vrOf h1 h3
    rw [e] at this
    exact this
  have v4 : Vr W 4 (Lib.pow10Tab.map fun z => Value.int .u64 z) := by
    obtain ⟨g, t, cs, fuel, p, h1, h2, h3, h4⟩ := laidAt h 2 rfl
    obtain rfl := Option.some.inj ((show Tryz.prog.globalNamed "internal/strconv.uint64pow10" = some 4 by kernel_rfl).symm.trans h1)
    obtain rfl := Option.some.inj ((show (Tryz.prog.globals[4]?).map (·.type) = some 226 by kernel_rfl).symm.trans h2)
    have e := Lib.cells_of_tab (zs := Lib.pow10Tab) (k := .u64) Tryz.underlying226 Tryz.underlying205 (by kernel_rfl) (by kernel_rfl) h4
    have := vrOf h1 h3
    rw [e] at this
    exact this
  have v2 : ∃ m, Vr W 2 [.int .i64 m] := intVar (zero := #[.int .i64 0]) (t := 3) hsh (of_decide_eq_true (by kernel_rfl)) (by kernel_rfl) rfl (by kernel_rfl) (by kernel_rfl) Tryz.underlying3
  exact { gs := hs, specials := v0, kinds := v1, classes := v3, pow10 := v4, maxlen := v2 }
def laidCells (g : Nat) (o : Obj) : Obj :=
  match o with
  | .cells c t fz => .cells (match g with
    | 7 => #[.int .u8 0, .int .u8 1, .int .u8 28, .int .u8 2, .int .u8 29, .int .u8 14, .int .u8 24, .int .u8 3, .int .u8 30, .int .u8 22, .int .u8 20, .int .u8 15, .int .u8 25, .int .u8 17, .int .u8 4, .int .u8 8, .int .u8 31, .int .u8 27, .int .u8 13, .int .u8 23, .int .u8 21, .int .u8 19, .int .u8 16, .int .u8 7, .int .u8 26, .int .u8 12, .int .u8 18, .int .u8 6, .int .u8 11, .int .u8 5, .int .u8 10, .int .u8 9]
    | 8 => #[.int .u8 0, .int .u8 1, .int .u8 56, .int .u8 2, .int .u8 57, .int .u8 49, .int .u8 28, .int .u8 3, .int .u8 61, .int .u8 58, .int .u8 42, .int .u8 50, .int .u8 38, .int .u8 29, .int .u8 17, .int .u8 4, .int .u8 62, .int .u8 47, .int .u8 59, .int .u8 36, .int .u8 45, .int .u8 43, .int .u8 51, .int .u8 22, .int .u8 53, .int .u8 39, .int .u8 33, .int .u8 30, .int .u8 24, .int .u8 18, .int .u8 12, .int .u8 5, .int .u8 63, .int .u8 55, .int .u8 48, .int .u8 27, .int .u8 60, .int .u8 41, .int .u8 37, .int .u8 16, .int .u8 46, .int .u8 35, .int .u8 44, .int .u8 21, .int .u8 52, .int .u8 32, .int .u8 23, .int .u8 11, .int .u8 54, .int .u8 26, .int .u8 40, .int .u8 15, .int .u8 34, .int .u8 20, .int .u8 31, .int .u8 10, .int .u8 25, .int .u8 14, .int .u8 19, .int .u8 9, .int .u8 13, .int .u8 8, .int .u8 7, .int .u8 6]
    | 4 => #[.int .u64 1, .int .u64 10, .int .u64 100, .int .u64 1000, .int .u64 10000, .int .u64 100000, .int .u64 1000000, .int .u64 10000000, .int .u64 100000000, .int .u64 1000000000, .int .u64 10000000000, .int .u64 100000000000, .int .u64 1000000000000, .int .u64 10000000000000, .int .u64 100000000000000, .int .u64 1000000000000000, .int .u64 10000000000000000, .int .u64 100000000000000000, .int .u64 1000000000000000000, .int .u64 10000000000000000000]
    | 6 => #[.int .u8 128, .int .u8 191, .int .u8 160, .int .u8 191, .int .u8 128, .int .u8 159, .int .u8 144, .int .u8 191, .int .u8 128, .int .u8 143, .int .u8 0, .int .u8 0, .int .u8 0, .int .u8 0, .int .u8 0, .int .u8 0, .int .u8 0, .int .u8 0, .int .u8 0, .int .u8 0, .int .u8 0, .int .u8 0, .int .u8 0, .int .u8 0, .int .u8 0, .int .u8 0, .int .u8 0, .int .u8 0, .int .u8 0, .int .u8 0, .int .u8 0, .int .u8 0]
    | 3 => #[str [38, 61, 43, 36, 44, 59, 63, 47], str [91, 93, 47, 58, 38, 43, 36], str [91, 93, 47, 63, 58, 43, 36]]
    | 0 => #[str [67, 97, 108, 108, 45, 73, 68], str [67, 83, 101, 113], str [77, 73, 77, 69, 45, 86, 101, 114, 115, 105, 111, 110], str [77, 105, 110, 45, 83, 69], str [82, 65, 99, 107], str [82, 83, 101, 113], str [87, 87, 87, 45, 65, 117, 116, 104, 101, 110, 116, 105, 99, 97, 116, 101]]
    | 1 => #[str [70, 114, 111, 109], .int .i64 1, str [84, 111], .int .i64 1, str [67, 111, 110, 116, 97, 99, 116], .int .i64 1, str [82, 111, 117, 116, 101], .int .i64 1, str [82, 101, 99, 111, 114, 100, 45, 82, 111, 117, 116, 101], .int .i64 1, str [80, 97, 116, 104], .int .i64 1, str [83, 101, 114, 118, 105, 99, 101, 45, 82, 111, 117, 116, 101], .int .i64 1, str [82, 101, 102, 101, 114, 45, 84, 111], .int .i64 1, str [82, 101, 102, 101, 114, 114, 101, 100, 45, 66, 121], .int .i64 1, str [82, 101, 112, 108, 121, 45, 84, 111], .int .i64 1, str [86, 105, 97], .int .i64 2, str [67, 83, 101, 113], .int .i64 3, str [82, 65, 99, 107], .int .i64 4, str [67, 111, 110, 116, 101, 110, 116, 45, 76, 101, 110, 103, 116, 104], .int .i64 5, str [69, 120, 112, 105, 114, 101, 115], .int .i64 5, str [77, 97, 120, 45, 70, 111, 114, 119, 97, 114, 100, 115], .int .i64 5, str [77, 105, 110, 45, 69, 120, 112, 105, 114, 101, 115], .int .i64 5, str [82, 83, 101, 113], .int .i64 5, str [67, 111, 110, 116, 101, 110, 116, 45, 68, 105, 115, 112, 111, 115, 105, 116, 105, 111, 110], .int .i64 6, str [67, 111, 110, 116, 101, 110, 116, 45, 84, 121, 112, 101], .int .i64 6, str [69, 118, 101, 110, 116], .int .i64 6, str [77, 105, 110, 45, 83, 69], .int .i64 6, str [83, 101, 115, 115, 105, 111, 110, 45, 69, 120, 112, 105, 114, 101, 115], .int .i64 6, str [83, 117, 98, 115, 99, 114, 105, 112, 116, 105, 111, 110, 45, 83, 116, 97, 116, 101], .int .i64 6, str [65, 99, 99, 101, 112, 116], .int .i64 7, str [65, 108, 108, 111, 119], .int .i64 7, str [65, 108, 108, 111, 119, 45, 69, 118, 101, 110, 116, 115], .int .i64 7, str [80, 114, 111, 120, 121, 45, 82, 101, 113, 117, 105, 114, 101], .int .i64 7, str [82, 101, 113, 117, 105, 114, 101], .int .i64 7, str [83, 117, 112, 112, 111, 114, 116, 101, 100], .int .i64 7, str [85, 110, 115, 117, 112, 112, 111, 114, 116, 101, 100], .int .i64 7]
    | 5 => (Go.Pinned.utf8FirstZ.map fun (z : Nat) => Value.int .u8 (z : Int)).toArray
    | _ => c) t fz
  | o => o
noncomputable def laidWorld (os : Os) : World := { World.holding Tryz.prog os ⟨#[], #[], []⟩ with heap := (World.holding Tryz.prog os ⟨#[], #[], []⟩).heap.mapIdx laidCells }
theorem own : ownKnob Tryz.prog.godebug = none := by kernel_rfl
end Go.Proofs
set_option linter.unusedVariables false
set_option linter.unusedSimpArgs false
namespace Go.Proofs
open Go.Wk Go.Px Go.RowKit
open YtbfppjfgcjpknaaGreatDoor.Rows (uptoBulk uptoBulkAll)
theorem same_below {W W' : World} (h : Below W.heap.size W W') {p : MemPlace} (hp : p.block < W.heap.size) : W.sameAt W' p := by
  cases p with
  | cell b off =>
    show W'.cell? _ = W.cell? _
    unfold World.cell?
    rw [h.block b hp]
  | map b => exact h.block b hp
theorem carryAll {H : Type} {enc : TypeId × Value → H} {P : Program} {W W' : World} {sp : Nat → Bool} : ∀ {ts : List TypeId} {vs : List Value} {ds : List (DataW H)} {ps : List MemPlace}, DataW.TrodAll enc P W 0 sp true ts vs ds ps → (∀ p ∈ ps, W.sameAt W' p) → DataW.TrodAll enc P W' 0 sp true ts vs ds ps
  | [], [], [], _, h, _ => h
  | _ :: _, _ :: _, _ :: _, _, ⟨p, q, ⟨n, h1⟩, h2, e⟩, hs => ⟨p, q, ⟨n, DataW.trod_carry n _ _ _ h1 fun x hx => hs x (by rw [e]; exact List.mem_append_left _ hx)⟩, carryAll h2 fun x hx => hs x (by rw [e]; exact List.mem_append_right _ hx), e⟩
theorem again {H : Type} {enc : TypeId × Value → H} {P : Program} {W W' : World} {ts : List TypeId} {vs : List Value} {ds : List (DataW H)} {ps : List MemPlace} (hl : laidOutB P = true) (hm : mapsRowed P = true)
    (hf : ((List.range P.types.size).all fun t => match P.underlying t with | some (.slice e) => decide (0 < P.cellsOf e) | _ => true) = true) (hts : (ts.all fun t => decide (t < P.types.size)) = true)
    (h : DataW.TrodAll enc P W 0 (fun _ => true) true ts vs ds ps) (hb : Below W.heap.size W W') (hlt : ∀ p ∈ ps, p.block < W.heap.size) (sp : Nat → Bool) (hsp : ∀ p ∈ ps, sp p.block = true) : DataW.TrodAll enc P W' 0 sp true ts vs ds ps := by
  refine carryAll (DataW.TrodAll.respare (kids_rows hl hm) (slices_full_of P hf) (fun t ht => ?_) h hsp) fun p hp => same_below hb (hlt p hp)
  have := List.all_eq_true.1 hts t ht
  simpa using this
def Dec (P : Program) (w : World) {H : Type} (enc : TypeId × Value → H) {α : Type} (t : TypeId) (f : α → List Value) (good : α → Prop) (sz : α → Nat) : Prop :=
  ∀ (base : Nat) (sp : Nat → Bool) (hd : Bool) (fuel : Nat) (cs : List Value) (x : DataW H × List MemPlace), DataW.trod enc P w base sp hd fuel t cs = some x → ∃ z, cs = f z ∧ good z ∧ sz z ≤ uptoBulk x.1
section
variable {P : Program} {w : World} {H : Type} {enc : TypeId × Value → H} {t : TypeId}
theorem dec_int {k : IntKind} (ht : P.underlying t = some (.int k)) : Dec P w enc t (eI k) (fun n => (Lit.int k n).wf = true) (fun _ => 0) := by
  intro base sp hd fuel cs x h
  obtain ⟨n, rfl, hx, hs⟩ := DataW.trod_int ht h
  exact ⟨n, rfl, hs, Nat.zero_le _⟩
theorem dec_u8 (ht : P.underlying t = some (.int .u8)) : Dec P w enc t eB (fun _ => True) (fun _ => 0) := by
  intro base sp hd fuel cs x h
  obtain ⟨n, rfl, hx, hs⟩ := DataW.trod_int ht h
  have h1 : 0 ≤ n ∧ n ≤ 255 := by simpa [Lit.wf, show IntKind.u8.min = 0 by decide, show IntKind.u8.max = 255 by decide] using hs
  refine ⟨UInt8.ofNat n.toNat, ?_, trivial, Nat.zero_le _⟩
  have : ((UInt8.ofNat n.toNat).toNat : Int) = n := by rw [UInt8.toNat_ofNat']; omega
  simp only [eB, bt, this]
theorem bulk_range {n : Nat} {D : Nat → DataW H} {α : Type} {sz : α → Nat} : ∀ (zs : List α), zs.length = n → (∀ i (h : i < zs.length), sz zs[i] ≤ uptoBulk (D i)) → (zs.map sz).sum ≤ uptoBulkAll ((List.range n).map D) := by
  intro zs
  induction zs generalizing n D with
  | nil => intro hn _; subst hn; simp
  | cons z zs ih =>
    intro hn h
    subst hn
    have h0 := h 0 (by simp)
    have := ih (n := zs.length) (D := fun i => D (i + 1)) rfl (fun i hi => by have := h (i + 1) (by simp; omega); simpa using this)
    rw [List.length_cons, List.range_succ_eq_map, List.map_cons, List.map_cons, List.sum_cons, uptoBulkAll, List.map_map]
    simp only [List.getElem_cons_zero] at h0
    exact Nat.add_le_add h0 this
theorem cells_app {base : Nat} {a : Addr} {n : Nat} {cs : List Value} (h : w.cells? base a n = some cs) : cs.length = n ∧ ∀ j v, cs[j]? = some v → w.cell? (a.add j) = some v := by
  obtain ⟨h1, h2, h3⟩ := World.cells?_some h
  exact ⟨h2, fun j v hj => (h3 j (by have := (List.getElem?_eq_some_iff.1 hj).1; omega)).trans hj⟩
theorem dec_slice {e : TypeId} {α : Type} {f : α → List Value} {good : α → Prop} {sz : α → Nat} (ht : P.underlying t = some (.slice e)) (he : Dec P w enc e f good sz) {base : Nat} {sp : Nat → Bool} {hd : Bool} {fuel : Nat} {cs : List Value} {x : DataW H × List MemPlace}
    (h : DataW.trod enc P w base sp hd fuel t cs = some x) : ∃ a n cap, ∃ zs : List α, cs = [.slice a n cap] ∧ n = zs.length ∧ n ≤ cap ∧ Rd w a (zs.flatMap f) ∧ (∀ z ∈ zs, good z) ∧ (zs.map sz).sum ≤ uptoBulk x.1 := by
  rcases Deep.open_slice ht h with ⟨rfl, rfl⟩ | ⟨a, len, cap, m, n, D, Pl, rfl, hb, hl, hm, hmm, rfl, hx⟩
  · exact ⟨none, 0, 0, [], rfl, rfl, Nat.le_refl _, fun j v hj => by simp at hj, fun z hz => by simp at hz, Nat.zero_le _⟩
  · have hlm : len ≤ m := by rw [hmm]; split <;> omega
    have key : ∀ k, k ≤ len → ∃ zs : List α, zs.length = k ∧ (∀ z ∈ zs, good z) ∧ (∀ i (hi : i < zs.length), sz zs[i] ≤ uptoBulk (D i)) ∧ (zs.flatMap f).length = k * P.cellsOf e ∧ ∀ j v, (zs.flatMap f)[j]? = some v → w.cell? (a.add j) = some v := by
      intro k
      induction k with
      | zero => intro _; exact ⟨[], rfl, fun z hz => by simp at hz, fun i hi => by simp at hi, by simp, fun j v hj => by simp at hj⟩
      | succ k ih =>
        intro hk
        obtain ⟨zs, h1, h2, h3, h4, h5⟩ := ih (by omega)
        obtain ⟨cs', hc, ht'⟩ := hx k (by omega)
        obtain ⟨z, rfl, hg, hs⟩ := he _ _ _ _ _ _ ht'
        obtain ⟨hcl, hcc⟩ := cells_app hc
        refine ⟨zs ++ [z], by simp [h1], fun y hy => ?_, fun i hi => ?_, ?_, fun j v hj => ?_⟩
        · rcases List.mem_append.1 hy with hy | hy
          · exact h2 y hy
          · rw [List.mem_singleton.1 hy]; exact hg
        · by_cases hik : i < zs.length
          · rw [List.getElem_append_left hik]; exact h3 i hik
          · have : i = k := by simp at hi; omega
            subst this
            simp only [h1.symm, List.getElem_concat_length]
            rw [h1]; exact hs
        · simp [h4, hcl, Nat.succ_mul]
        · rw [List.flatMap_append, List.flatMap_singleton] at hj
          by_cases hjl : j < (zs.flatMap f).length
          · rw [List.getElem?_append_left hjl] at hj; exact h5 j v hj
          · rw [List.getElem?_append_right (by omega), h4] at hj
            have := hcc _ _ hj
            rw [h4] at hjl
            have e : (a.add (k * P.cellsOf e)).add (j - k * P.cellsOf e) = a.add j := by
              rw [Go.Wk.add_add]
              congr 1
              omega
            rw [e] at this
            exact this
    obtain ⟨zs, h1, h2, h3, h4, h5⟩ := key len (Nat.le_refl _)
    refine ⟨some a, len, cap, zs, rfl, h1.symm, hl, fun j v hj => ⟨a, rfl, h5 j v hj⟩, h2, ?_⟩
    have := bulk_range (sz := sz) zs h1 h3
    simp only [uptoBulk]
    omega
def flatT : TypeDesc → Bool
  | .struct _ => false
  | .array _ _ => false
  | _ => true
theorem oneCellOf {base : Nat} {v x : Value} {ty : TypeDesc} (ht : P.underlying t = some ty) (hval : Value.okWide P w .any base t v) (hf : flatT ty = true) (e : v.cells.toList = [x]) : v = x := by
  cases v with
  | agg cs =>
    exfalso
    unfold Value.okWide Cell.okWide Cell.ok at hval
    rw [ht] at hval
    cases ty <;> first | (simp [flatT] at hf; done) | simp at hval
  | _ => simpa [Value.cells] using e
end
end Go.Proofs
set_option linter.unusedVariables false
set_option linter.unusedSimpArgs false
set_option maxRecDepth 100000
namespace Go.Wk
open Go.Px
def FU : Nat := 18446744073709551616
theorem FU_eq : FU = 18446744073709551616 := rfl
theorem at_mid (p : Str) (c : UInt8) (l : Str) : at_ (p ++ c :: l) (p.length : Int) = c := by simp [at_]
theorem len_snoc (p : Str) (x : UInt8) : ((p.length : Int) + 1) = ((p ++ [x]).length : Int) := by simp
theorem anc (a : Int) (h0 : 0 ≤ a) (h : a ≤ 9223372036854775807) : ace a := ⟨by omega, by omega⟩
theorem mid_lt (p : Str) (c : UInt8) (l : Str) : (0 : Int) ≤ (p.length : Int) ∧ (p.length : Int) < ((p ++ c :: l).length : Int) := by
  rw [List.length_append, List.length_cons]; omega
end Go.Wk
set_option linter.unusedVariables false
set_option linter.unusedSimpArgs false
set_option maxRecDepth 100000
namespace Go.Wk
open Go.Px
theorem int_succ (k : Nat) : (k : Int) + 1 = ((k + 1 : Nat) : Int) := rfl
theorem skip_gen (p : UInt8 → Bool) (s : Str) (F : Nat → Int → Option Int)
    (h0 : ∀ fk, F (fk + 1) (s.length : Int) = some (s.length : Int))
    (h1 : ∀ fk (k : Nat), k < s.length → p (at_ s k) = false → F (fk + 1) (k : Int) = some (k : Int))
    (h2 : ∀ fk (k : Nat), k < s.length → p (at_ s k) = true → F (fk + 1) (k : Int) = F fk ((k : Int) + 1)) (n : Nat) :
    ∀ (k fk : Nat), k + n = s.length → n < fk → F fk (k : Int) = some ((k + span p (s.drop k) : Nat) : Int) := by
  induction n with
  | zero =>
    intro k fk hk hf
    obtain ⟨fk, rfl⟩ : ∃ m, fk = m + 1 := ⟨fk - 1, by omega⟩
    obtain rfl : k = s.length := by omega
    rw [h0, List.drop_length]; rfl
  | succ n ih =>
    intro k fk hk hf
    obtain ⟨fk, rfl⟩ : ∃ m, fk = m + 1 := ⟨fk - 1, by omega⟩
    rw [drop_at s k (by omega)]
    cases h : p (at_ s k)
    · rw [h1 fk k (by omega) h]; simp [span, h]
    · rw [h2 fk k (by omega) h, int_succ, ih (k + 1) fk (by omega) (by omega)]
      have e2 : span p (at_ s k :: s.drop (k + 1)) = 1 + span p (s.drop (k + 1)) := by simp [span, h, Nat.add_comm]
      rw [e2, Nat.add_assoc]
theorem clamp_int (i : Int) (n : Nat) : min (max i 0) (n : Int) = ((clampN i n : Nat) : Int) := by unfold clampN; omega
theorem char_blank (fu : Nat) (c : UInt8) : afr fu c = some (agb c) := by
  show afr 0 c = _
  revert c; exact anr _ (by decide +kernel)
theorem blanks_eq (s : Str) (hs : s.length ≤ 1048576) (i : Int) : agd FU s i = some ((skipL agb s i : Nat) : Int) := by
  unfold agd aep
  have hc := clampN_le i s.length
  rw [clamp_int, skip_gen agb s (abe FU s) ?_ ?_ ?_ (s.length - clampN i s.length) _ FU (by omega) (by rw [FU_eq]; omega)]
  · rfl
  · intro fk; rw [abe, if_neg (by omega)]; rfl
  · intro fk k hk h; rw [abe, if_pos (by omega), acb (by first | omega | exact anc _ (by omega) (by omega) | (simp only [List.length_append, List.length_cons, List.length_nil, List.length_singleton]; omega)), char_blank, h]; rfl
  · intro fk k hk h; rw [abe, if_pos (by omega), acb (by first | omega | exact anc _ (by omega) (by omega) | (simp only [List.length_append, List.length_cons, List.length_nil, List.length_singleton]; omega)), char_blank, h, Option.bind_some, Option.bind_some, cond_true, acb (by first | omega | exact anc _ (by omega) (by omega) | (simp only [List.length_append, List.length_cons, List.length_nil, List.length_singleton]; omega))]
def rdw (p : UInt8 → Bool) (l : Str) : Str := (l.reverse.dropWhile p).reverse
theorem rdw_cons (p : UInt8 → Bool) (c : UInt8) (l : Str) : rdw p (c :: l) = if rdw p l = [] then (if p c then [] else [c]) else c :: rdw p l := by
  unfold rdw
  rw [List.reverse_cons, List.dropWhile_append]
  cases h : l.reverse.dropWhile p with
  | nil => cases hp : p c <;> simp [hp]
  | cons a t => simp
theorem rdw_snoc (p : UInt8 → Bool) (l : Str) (c : UInt8) : rdw p (l ++ [c]) = if p c then rdw p l else l ++ [c] := by
  unfold rdw
  rw [List.reverse_append, List.reverse_singleton, List.singleton_append, List.dropWhile_cons]
  split <;> simp
theorem rdw_comm (p : UInt8 → Bool) : ∀ l : Str, (rdw p l).dropWhile p = rdw p (l.dropWhile p)
  | [] => rfl
  | c :: l => by
    have ih := rdw_comm p l
    cases hp : p c
    · have e : List.dropWhile p (c :: l) = c :: l := by simp [hp]
      rw [e, rdw_cons]
      split <;> simp [hp]
    · have e : List.dropWhile p (c :: l) = l.dropWhile p := by simp [hp]
      rw [e, ← ih, rdw_cons]
      split
      · rename_i h; simp [h, hp]
      · simp [hp]
def trimL (s : Str) : Str := rdw agb (s.dropWhile agb)
theorem blank_set : (fun c => ([32, 9] : Str).contains c) = agb := by
  funext c; revert c; exact anr _ (by decide +kernel)
theorem trimS_eq (s : Str) : Lib.trimS s [32, 9] = trimL s := by
  unfold Lib.trimS Lib.trimLeftS Lib.trimRightS trimL
  rw [blank_set]; exact rdw_comm agb s
theorem trim_eq (s : Str) (hs : s.length ≤ 1048576) : aeq FU s = some (trimL s) := by
  unfold aeq
  rw [acb (by first | omega | exact anc _ (by omega) (by omega) | (simp only [List.length_append, List.length_cons, List.length_nil, List.length_singleton]; omega)), acb (by decide), trimS_eq]
end Go.Wk
set_option linter.unusedVariables false
set_option linter.unusedSimpArgs false
set_option maxRecDepth 100000
namespace Go.Wk
open Go.Px
def dgs : Nat → Nat → Str
  | 0, _ => []
  | k + 1, n => if n < 10 then [UInt8.ofNat (48 + n)] else dgs k (n / 10) ++ [UInt8.ofNat (48 + n % 10)]
theorem digit_of : ∀ n : Fin 10, alt (UInt8.ofNat (48 + n.val)) = true ∧ (UInt8.ofNat (48 + n.val)).toNat - 48 = n.val ∧ sub ([48, 49, 50, 51, 52, 53, 54, 55, 56, 57] : Str) (n.val : Int) ((n.val : Int) + 1) = [UInt8.ofNat (48 + n.val)] := by decide +kernel
theorem digit_at (n : Nat) (h : n < 10) : alt (UInt8.ofNat (48 + n)) = true ∧ (UInt8.ofNat (48 + n)).toNat - 48 = n ∧ sub ([48, 49, 50, 51, 52, 53, 54, 55, 56, 57] : Str) (n : Int) ((n : Int) + 1) = [UInt8.ofNat (48 + n)] := digit_of ⟨n, h⟩
theorem dgs_ok : ∀ (k n : Nat), n < 10 ^ (k + 1) → (dgs (k + 1) n).all alt = true ∧ akt (dgs (k + 1) n) = n ∧ 1 ≤ (dgs (k + 1) n).length ∧ (dgs (k + 1) n).length ≤ k + 1 := by
  intro k
  induction k with
  | zero =>
    intro n h
    have h : n < 10 := by simpa using h
    have := digit_at n h
    rw [dgs, if_pos h]
    refine ⟨by simpa using this.1, ?_, by simp, by simp⟩
    show 10 * 0 + _ = n
    omega
  | succ k ih =>
    intro n h
    rw [dgs]
    by_cases h1 : n < 10
    · have := digit_at n h1
      rw [if_pos h1]
      refine ⟨by simpa using this.1, ?_, by simp, by simp⟩
      show 10 * 0 + _ = n
      omega
    · have hd := digit_at (n % 10) (Nat.mod_lt _ (by decide))
      have := ih (n / 10) (by rw [Nat.pow_succ] at h; omega)
      rw [if_neg h1]
      refine ⟨by rw [List.all_append, this.1]; simpa using hd.1, ?_, by simp, by simp; omega⟩
      rw [decVal_snoc, this.2.1, hd.2.1]
      omega
theorem decimal_lp : ∀ (k n fk : Nat), n < 10 ^ (k + 1) → k + 1 < fk → k ≤ 15 → ads fk (n : Int) = some (dgs (k + 1) n) := by
  intro k
  induction k with
  | zero =>
    intro n fk h hf h15
    obtain ⟨fk, rfl⟩ : ∃ m, fk = m + 1 := ⟨fk - 1, by omega⟩
    have h : n < 10 := by simpa using h
    rw [ads, if_pos (by omega), acb (by first | omega | exact anc _ (by omega) (by omega) | (simp only [List.length_append, List.length_cons, List.length_nil, List.length_singleton]; omega)), acb (by simp; omega), (digit_at n h).2.2, dgs, if_pos h]
  | succ k ih =>
    intro n fk h hf h15
    obtain ⟨fk, rfl⟩ : ∃ m, fk = m + 1 := ⟨fk - 1, by omega⟩
    have h16 : 10 ^ (k + 1 + 1) ≤ 10 ^ 17 := Nat.pow_le_pow_right (by decide) (by omega)
    rw [ads, dgs]
    by_cases h1 : n < 10
    · rw [if_pos (by omega), if_pos h1, acb (by first | omega | exact anc _ (by omega) (by omega) | (simp only [List.length_append, List.length_cons, List.length_nil, List.length_singleton]; omega)), acb (by simp; omega), (digit_at n h1).2.2]
    · have e1 : (n : Int) / 10 = ((n / 10 : Nat) : Int) := by omega
      have e2 : (n : Int) % 10 = ((n % 10 : Nat) : Int) := by omega
      have h2 : n / 10 < 10 ^ (k + 1) := by rw [Nat.pow_succ] at h; omega
      have hl := (dgs_ok k _ h2).2.2.2
      have hg : 0 ≤ (n : Int) ∧ 0 < (10 : Int) ∧ ace (n : Int) := ⟨by omega, by omega, anc _ (by omega) (by omega)⟩
      have hd := digit_at (n % 10) (Nat.mod_lt _ (by decide))
      rw [if_neg (by omega), if_neg h1, acb hg, e1, ih (n / 10) fk h2 (by omega) (by omega), Option.bind_some, acb hg, acb hg, e2, acb (anc _ (by omega) (by omega)), acb (by simp; omega), hd.2.2, acb (by simp; omega)]
def D5 (n : Nat) : Str := dgs 5 n
theorem anf (n : Nat) (h : n ≤ 65535) : ads FU (n : Int) = some (D5 n) := decimal_lp 4 n FU (by omega) (by rw [FU_eq]; omega) (by decide)
theorem D5_ok (n : Nat) (h : n ≤ 65535) : (D5 n).all alt = true ∧ akt (D5 n) = n ∧ 1 ≤ (D5 n).length ∧ (D5 n).length ≤ 5 := dgs_ok 4 n (by omega)
theorem number_lp (s : Str) (hs : s.length ≤ 18) (l : Str) : ∀ (p : Str) (fk : Nat), s = p ++ l → l.length < fk → p.all alt = true → l.all alt = true →
    aeh FU s fk (akt p : Int) (p.length : Int) = some (.inl (akt s : Int)) := by
  induction l with
  | nil =>
    intro p fk h hf hp hl
    obtain ⟨fk, rfl⟩ : ∃ m, fk = m + 1 := ⟨fk - 1, by omega⟩
    rw [List.append_nil] at h
    subst h
    rw [aeh, if_neg (by omega)]
  | cons c l ih =>
    intro p fk h hf hp hl
    obtain ⟨fk, rfl⟩ : ∃ m, fk = m + 1 := ⟨fk - 1, by omega⟩
    have hb : (0 : Int) ≤ (p.length : Int) ∧ (p.length : Int) < (s.length : Int) := by rw [h, List.length_append, List.length_cons]; omega
    have ha : at_ s (p.length : Int) = c := by rw [h, at_mid]
    rw [List.all_cons, Bool.and_eq_true] at hl
    have hc := (digitB_iff c).1 hl.1
    have hv := decVal_lt 17 p (by have := congrArg List.length h; rw [List.length_append, List.length_cons] at this; omega) hp
    have hx : (c - 48).toNat = c.toNat - 48 := by
      have h48 : (48 : UInt8) ≤ c := by rw [UInt8.le_iff_toNat_le]; show 48 ≤ c.toNat; omega
      rw [UInt8.toNat_sub_of_le _ _ h48]; rfl
    have n1 : ¬ c < 48 := by rw [UInt8.lt_iff_toNat_lt]; show ¬ c.toNat < 48; omega
    have n2 : ¬ (57 : UInt8) < c := by rw [UInt8.lt_iff_toNat_lt]; show ¬ 57 < c.toNat; omega
    have hcl : c.toNat ≤ 57 := by omega
    simp only [List.length_cons] at hf
    rw [aeh, if_pos hb.2, acb hb, ha, if_neg n1, acb hb, decide_eq_false n2, Option.bind_some, cond_false, hx, acb (anc _ (by omega) (by omega)), acb hb, acb (anc _ (by omega) (by omega)), acb (anc _ (by omega) (by omega))]
    have e : (10 : Int) * (akt p : Int) + ((c.toNat - 48 : Nat) : Int) = (akt (p ++ [c]) : Int) := by rw [decVal_snoc]; omega
    rw [e, len_snoc p c]
    exact ih (p ++ [c]) fk (by rw [h]; simp) (by omega) (by rw [List.all_append, hp]; simpa using hl.1) hl.2
theorem number_good (u : Str) (h1 : 1 ≤ u.length) (h2 : u.length ≤ 10) (h3 : u.all alt = true) (h4 : akt u ≤ 2147483647) : agc FU u = some ((akt u : Int), 0) := by
  unfold agc
  have := number_lp u (by omega) u [] FU (by simp) (by rw [FU_eq]; omega) (by simp) h3
  rw [if_neg (by omega), Option.bind_some, decide_eq_false (by omega), cond_false]
  change aeh FU u FU (0 : Int) (0 : Int) = _ at this
  rw [this, Option.bind_some, Sum.elim_inl, if_neg (by omega)]
theorem span_app (p : UInt8 → Bool) : ∀ (a b : Str), a.all p = true → span p (a ++ b) = a.length + span p b
  | [], b, _ => by simp
  | c :: a, b, h => by
    rw [List.all_cons, Bool.and_eq_true] at h
    rw [List.cons_append, span, if_pos h.1, span_app p a b h.2, List.length_cons]; omega
theorem span_no (p : UInt8 → Bool) (c : UInt8) (l : Str) (h : p c = false) : span p (c :: l) = 0 := by rw [span, if_neg (by simp [h])]
theorem ane : ∀ c : UInt8, alt c = true → agb c = false := anr _ (by decide +kernel)
theorem dig_ascii : ∀ c : UInt8, alt c = true → c.toNat < 128 := anr _ (by decide +kernel)
theorem blank_ascii : ∀ c : UInt8, agb c = true → c.toNat < 128 := anr _ (by decide +kernel)
theorem all_imp {p q : UInt8 → Bool} (h : ∀ c, p c = true → q c = true) (l : Str) (hl : l.all p = true) : l.all q = true := by
  rw [List.all_eq_true] at hl ⊢
  exact fun c hc => h c (hl c hc)
theorem ixb_blank (u bl : Str) (hu : u.all alt = true) (hb : bl.all agb = true) (hn : bl ≠ []) (t : Str) : Lib.indexAny (u ++ (bl ++ t)) [32, 9] = (u.length : Int) := by
  have e : (fun c => ([32, 9] : Str).contains c) = agb := blank_set
  rw [indexAny_ixb, e, ixb_span]
  have h1 : u.all (fun c => !agb c) = true := all_imp (fun c h => by rw [ane c h]; rfl) u hu
  rw [span_app _ u _ h1]
  cases bl with
  | nil => exact absurd rfl hn
  | cons b bl =>
    rw [List.all_cons, Bool.and_eq_true] at hb
    rw [List.cons_append, span_no _ b _ (by rw [hb.1]; rfl), if_neg (by simp)]
    simp
theorem skip_blanks (u bl : Str) (hb : bl.all agb = true) (c : UInt8) (t : Str) (hc : agb c = false) : skipL agb (u ++ (bl ++ c :: t)) (u.length : Int) = u.length + bl.length := by
  unfold skipL
  rw [clampN_of_nat _ _ (by simp), List.drop_left, span_app _ bl _ hb, span_no _ c _ hc]; omega
theorem numbered_eq (u bl : Str) (c : UInt8) (t : Str) (h1 : 1 ≤ u.length) (h2 : u.length ≤ 10) (h3 : u.all alt = true) (h4 : akt u ≤ 2147483647) (hb : bl.all agb = true) (hn : bl ≠ []) (hc : agb c = false)
    (ha : (c :: t).all (fun b => decide (b.toNat < 128)) = true) (hl : (u ++ (bl ++ c :: t)).length ≤ 1048576) : agi FU (u ++ (bl ++ c :: t)) = some ((akt u : Int), c :: t, 0) := by
  unfold agi
  have hasc : (u ++ (bl ++ c :: t)).all (fun b => decide (b.toNat < 128)) = true := by
    rw [List.all_append, List.all_append, ha, all_imp (fun c h => by simpa using dig_ascii c h) u h3, all_imp (fun c h => by simpa using blank_ascii c h) bl hb]; rfl
  rw [acb ⟨by omega, by decide, by decide, .inr (.inr hasc)⟩, ixb_blank u bl h3 hb hn, if_neg (by omega), Option.bind_some, acb ⟨by omega, by simp; omega⟩]
  have e : ((u.length : Nat) : Int).toNat = u.length := by omega
  rw [e, List.take_left, number_good u h1 h2 h3 h4, Option.bind_some, blanks_eq _ hl, Option.bind_some, skip_blanks u bl hb c t hc, acb ⟨by omega, by simp; omega⟩]
  have e2 : ((u.length + bl.length : Nat) : Int).toNat = (u ++ bl).length := by rw [List.length_append]; omega
  rw [e2, ← List.append_assoc, List.drop_left]
theorem dropWhile_all (p : UInt8 → Bool) : ∀ (a b : Str), a.all p = true → (a ++ b).dropWhile p = b.dropWhile p
  | [], b, _ => rfl
  | c :: a, b, h => by
    rw [List.all_cons, Bool.and_eq_true] at h
    rw [List.cons_append, List.dropWhile_cons, if_pos h.1, dropWhile_all p a b h.2]
theorem rdw_last (p : UInt8 → Bool) (l : Str) (c : UInt8) (h : p c = false) : rdw p (l ++ [c]) = l ++ [c] := by rw [rdw_snoc, if_neg (by simp [h])]
theorem rdw_all (p : UInt8 → Bool) (l : Str) : ∀ b : Str, b.all p = true → rdw p (l ++ b) = rdw p l := by
  intro b
  induction b generalizing l with
  | nil => intro _; rw [List.append_nil]
  | cons c b ih =>
    intro h
    rw [List.all_cons, Bool.and_eq_true] at h
    rw [show l ++ c :: b = (l ++ [c]) ++ b by simp, ih _ h.2, rdw_snoc, if_pos h.1]
theorem trim_mid (a : Str) (c : UInt8) (l : Str) (d : UInt8) (ha : a.all agb = true) (hc : agb c = false) (hd : agb d = false) : trimL (a ++ (c :: (l ++ [d]))) = c :: (l ++ [d]) := by
  unfold trimL
  rw [dropWhile_all _ a _ ha, List.dropWhile_cons, if_neg (by simp [hc]), show c :: (l ++ [d]) = (c :: l) ++ [d] from rfl, rdw_last _ _ _ hd]
def plainB (c : UInt8) : Bool := alt c || c == 32
theorem plain_no : ∀ c : UInt8, plainB c = true → c ≠ 34 ∧ c ≠ 60 ∧ c ≠ 62 ∧ c ≠ 44 := anr _ (by decide +kernel)
theorem split_skip (s : Str) (hs : s.length ≤ 1048576) (acc : List (Int × Str)) (b : Int) (rest : Str) : ∀ (body pre : Str) (fk : Nat), s = pre ++ (body ++ rest) → body.all plainB = true →
    acs FU s 44 (fk + body.length) acc b (pre.length : Int) = acs FU s 44 fk acc b ((pre ++ body).length : Int) := by
  intro body
  induction body with
  | nil => intro pre fk h hp; simp
  | cons c body ih =>
    intro pre fk h hp
    rw [List.all_cons, Bool.and_eq_true] at hp
    have hn := plain_no c hp.1
    have hb : (0 : Int) ≤ (pre.length : Int) ∧ (pre.length : Int) < (s.length : Int) := by rw [h, List.cons_append]; exact mid_lt pre c _
    have ha : at_ s (pre.length : Int) = c := by rw [h, List.cons_append, at_mid]
    have hlen : pre.length < s.length := by omega
    rw [List.length_cons, ← Nat.add_assoc, acs, if_pos hb.2, acb hb, ha, if_neg hn.1, if_neg hn.2.1, if_neg hn.2.2.1, if_neg hn.2.2.2, acb (anc _ (by omega) (by omega)), len_snoc pre c,
      ih (pre ++ [c]) fk (by rw [h]; simp) hp.2]
    simp
theorem piece_eq (s : Str) (hs : s.length ≤ 1048576) (pre sp d rest : Str) (c : UInt8) (t : Str) (hd : d = c :: t) (h : s = pre ++ ((sp ++ (d ++ sp)) ++ rest)) (hsp : sp.all agb = true) (hdd : d.all alt = true) :
    ∃ k, afl FU s (pre.length : Int) ((pre ++ (sp ++ (d ++ sp))).length : Int) = some (k, d) := by
  have hc : agb c = false := ane c (by rw [hd, List.all_cons, Bool.and_eq_true] at hdd; exact hdd.1)
  have hs2 : s = pre ++ (sp ++ c :: (t ++ (sp ++ rest))) := by rw [h, hd]; simp
  have hk : skipL agb s (pre.length : Int) = pre.length + sp.length := by rw [hs2]; exact skip_blanks pre sp hsp c _ hc
  have hls : s.length = pre.length + (sp.length + (d.length + sp.length) + rest.length) := by rw [h]; simp only [List.length_append]
  have hmin : min ((pre.length + sp.length : Nat) : Int) ((pre ++ (sp ++ (d ++ sp))).length : Int) = ((pre ++ sp).length : Int) := by simp only [List.length_append]; omega
  refine ⟨((pre ++ sp).length : Int), ?_⟩
  unfold afl
  rw [blanks_eq s hs, Option.bind_some, hk, hmin, acb (by simp only [List.length_append]; omega)]
  have hsub : sub s ((pre ++ sp).length : Int) ((pre ++ (sp ++ (d ++ sp))).length : Int) = d ++ sp := by
    unfold sub
    have e1 : (((pre ++ sp).length : Nat) : Int).toNat = (pre ++ sp).length := by omega
    have e2 : (((pre ++ (sp ++ (d ++ sp))).length : Nat) : Int).toNat - (((pre ++ sp).length : Nat) : Int).toNat = (d ++ sp).length := by simp only [List.length_append]; omega
    rw [e2, e1, h, show pre ++ ((sp ++ (d ++ sp)) ++ rest) = (pre ++ sp) ++ ((d ++ sp) ++ rest) by simp, List.drop_left, List.take_left]
  rw [hsub, acb (by simp only [List.length_append]; omega), acb (by decide)]
  congr 2
  show rdw _ _ = d
  rw [show (fun x => ([32, 9] : Str).contains x) = agb from blank_set, rdw_all _ _ _ hsp]
  obtain ⟨l, x, e⟩ : ∃ l x, d = l ++ [x] := by
    rcases List.eq_nil_or_concat d with h | ⟨l, x, h⟩
    · rw [hd] at h; cases h
    · exact ⟨l, x, by simpa using h⟩
  have hx : agb x = false := ane x (by rw [e, List.all_append, Bool.and_eq_true] at hdd; simpa using hdd.2)
  rw [e, rdw_last _ _ _ hx]
def jn : List Str → Str
  | [] => []
  | x :: xs => x ++ (xs.map (fun y => 44 :: y)).flatten
theorem jn_snoc (p : List Str) (x : Str) : jn (p ++ [x]) = (if p = [] then [] else jn p ++ [44]) ++ x := by
  cases p with
  | nil => simp [jn]
  | cons a p => simp [jn]
def amc (sp : Str) (n : Nat) : Str := sp ++ (D5 n ++ sp)
theorem elmt_plain (sp : Str) (hsp : sp.all (· == 32) = true) (n : Nat) (h : n ≤ 65535) : (amc sp n).all plainB = true := by
  have h1 : sp.all plainB = true := all_imp (fun c hc => by rw [plainB, hc, Bool.or_true]) sp hsp
  have h2 : (D5 n).all plainB = true := all_imp (fun c hc => by rw [plainB, hc]; rfl) _ (D5_ok n h).1
  rw [amc, List.all_append, List.all_append, h1, h2]; rfl
theorem split_eq (sp : Str) (hsp : sp.all (· == 32) = true) (s : Str) (hs : s.length ≤ 1048576) : ∀ (l : List Nat) (n : Nat) (pre : Str) (acc : List (Int × Str)) (fk : Nat), n ≤ 65535 → (∀ x ∈ l, x ≤ 65535) → s = pre ++ (amc sp n ++ (l.map (fun y => 44 :: amc sp y)).flatten) → acc.length ≤ pre.length → s.length - pre.length < fk →
    ∃ ps : List (Int × Str), ps.map (·.2) = acc.map (·.2) ++ (n :: l).map D5 ∧
      ((acs FU s 44 fk acc (pre.length : Int) (pre.length : Int)).bind fun (j145 : (((List (Int × Str)) × Int) ⊕ ((List (Int × Str)) × Int × UInt8))) => Sum.elim (fun (v147 : ((List (Int × Str)) × Int)) => ((afl FU s v147.2 (s.length : Int)).bind fun (y266 : (Int × Str)) => (gd ((v147.1.length + ([y266] : List (Int × Str)).length) * 24 ≤ 140737488355328) <| some (v147.1 ++ ([y266] : List (Int × Str)), (0 : Int), (0 : UInt8))))) (fun q => some q) j145) = some (ps, (0 : Int), (0 : UInt8)) := by
  intro l
  have hbl : sp.all agb = true := all_imp (fun c hc => by rw [agb, hc]; rfl) sp hsp
  induction l with
  | nil =>
    intro n pre acc fk hn hl h ha hf
    have hd := D5_ok n hn
    simp only [List.map_nil, List.flatten_nil] at h
    obtain ⟨c, t, hct⟩ : ∃ c t, D5 n = c :: t := by
      cases hx : D5 n with
      | nil => rw [hx] at hd; simp at hd
      | cons c t => exact ⟨c, t, rfl⟩
    have hlen : s.length = (pre ++ amc sp n).length := by rw [h]; simp
    have hle := hlen
    rw [List.length_append] at hle
    obtain ⟨m, rfl⟩ : ∃ m, fk = m + 1 + (amc sp n).length := ⟨fk - 1 - (amc sp n).length, by omega⟩
    obtain ⟨k, hk⟩ := piece_eq s hs pre sp (D5 n) [] c t hct (by rw [h]; rfl) hbl hd.1
    refine ⟨acc ++ [(k, D5 n)], by simp, ?_⟩
    rw [split_skip s hs acc _ [] (amc sp n) pre (m + 1) (by rw [h]) (elmt_plain sp hsp n hn), acs, if_neg (by rw [hlen]; omega), Option.bind_some, Sum.elim_inl]
    have hk' : afl FU s (pre.length : Int) (s.length : Int) = some (k, D5 n) := by rw [hlen]; exact hk
    show Option.bind (afl FU s (pre.length : Int) (s.length : Int)) _ = _
    rw [hk', Option.bind_some, acb (by simp only [List.length_singleton]; omega)]
  | cons x l ih =>
    intro n pre acc fk hn hl h ha hf
    have hd := D5_ok n hn
    obtain ⟨c, t, hct⟩ : ∃ c t, D5 n = c :: t := by
      cases hx : D5 n with
      | nil => rw [hx] at hd; simp at hd
      | cons c t => exact ⟨c, t, rfl⟩
    have h2 : s = (pre ++ amc sp n) ++ 44 :: (amc sp x ++ (l.map (fun y => 44 :: amc sp y)).flatten) := by rw [h]; simp
    have hle := congrArg List.length h2
    simp only [List.length_append, List.length_cons] at hle
    have hel : 1 ≤ (amc sp n).length := by rw [amc, List.length_append, List.length_append]; omega
    obtain ⟨m, rfl⟩ : ∃ m, fk = m + 1 + (amc sp n).length := ⟨fk - 1 - (amc sp n).length, by omega⟩
    obtain ⟨k, hk⟩ := piece_eq s hs pre sp (D5 n) (44 :: (amc sp x ++ (l.map (fun y => 44 :: amc sp y)).flatten)) c t hct (by rw [h2]; simp [amc]) hbl hd.1
    have hb := mid_lt (pre ++ amc sp n) 44 (amc sp x ++ (l.map (fun y => 44 :: amc sp y)).flatten)
    rw [← h2] at hb
    have hat : at_ s ((pre ++ amc sp n).length : Int) = 44 := by rw [h2]; exact at_mid _ _ _
    have hk' : afl FU s (pre.length : Int) ((pre ++ amc sp n).length : Int) = some (k, D5 n) := hk
    obtain ⟨ps, hp1, hp2⟩ := ih x (pre ++ amc sp n ++ [44]) (acc ++ [(k, D5 n)]) m (hl x List.mem_cons_self) (fun y hy => hl y (List.mem_cons_of_mem _ hy)) (by rw [h2]; simp) (by simp only [List.length_append, List.length_singleton]; omega) (by simp only [List.length_append, List.length_singleton]; omega)
    refine ⟨ps, by rw [hp1]; simp, ?_⟩
    rw [split_skip s hs acc _ _ (amc sp n) pre (m + 1) (by rw [h]) (elmt_plain sp hsp n hn), acs, if_pos hb.2, acb hb, hat, if_neg (by decide), if_neg (by decide), if_neg (by decide), if_pos rfl, hk', Option.bind_some, acb (by simp only [List.length_singleton]; omega), acb (anc _ (by omega) (by omega)), len_snoc _ (44 : UInt8), hp2]
theorem list_lp (y1 : ((List (Int × Str)) × Int × UInt8)) (hy : y1.1.length ≤ 1048576) (hne : ∀ x ∈ y1.1, x.2 ≠ []) (q : List (Int × Str)) : ∀ (p : List (Int × Str)) (fk : Nat), y1.1 = p ++ q → q.length < fk →
    afk FU y1 fk (p.map (·.2)) (p.length : Int) = some (.inl (y1.1.map (·.2))) := by
  induction q with
  | nil =>
    intro p fk h hf
    obtain ⟨fk, rfl⟩ : ∃ m, fk = m + 1 := ⟨fk - 1, by omega⟩
    rw [List.append_nil] at h
    rw [afk, if_neg (by rw [h]; omega), h]
  | cons a q ih =>
    intro p fk h hf
    obtain ⟨fk, rfl⟩ : ∃ m, fk = m + 1 := ⟨fk - 1, by omega⟩
    have hl := congrArg List.length h
    simp only [List.length_append, List.length_cons] at hl hf
    have hb : (0 : Int) ≤ (p.length : Int) ∧ (p.length : Int) < (y1.1.length : Int) := by omega
    have he : el y1.1 (p.length : Int) = a := by rw [h]; simp [el]
    rw [afk, if_pos hb.2, acb hb, acb hb, he, if_neg (hne a (by rw [h]; simp)), acb (by simp only [List.length_map, List.length_singleton]; omega), acb (anc _ (by omega) (by omega))]
    have := ih (p ++ [a]) fk (by rw [h]; simp) (by omega)
    rw [List.map_append, List.map_singleton] at this
    rw [show ((p.length : Int) + 1) = ((p ++ [a]).length : Int) by simp]
    exact this
theorem felt_len (sp : Str) (hsp : sp.length ≤ 3) : ∀ l : List Nat, (∀ x ∈ l, x ≤ 65535) → ((l.map (fun y => 44 :: amc sp y)).flatten).length ≤ 12 * l.length
  | [], _ => by simp
  | x :: l, h => by
    have := felt_len sp hsp l (fun y hy => h y (List.mem_cons_of_mem _ hy))
    have hx := (D5_ok x (h x List.mem_cons_self)).2.2.2
    have he : (amc sp x).length = sp.length + ((D5 x).length + sp.length) := by rw [amc, List.length_append, List.length_append]
    simp only [List.map_cons, List.flatten_cons, List.length_append, List.length_cons]
    omega
theorem list_eq (sp : Str) (hsp : sp.all (· == 32) = true) (h3 : sp.length ≤ 3) (n : Nat) (l : List Nat) (hn : n ≤ 65535) (hl : ∀ x ∈ l, x ≤ 65535) (h100 : l.length ≤ 100) : ahy FU (jn ((n :: l).map (amc sp))) = some ((n :: l).map D5, 0) := by
  have hfl := felt_len sp h3 l hl
  have hx := (D5_ok n hn).2.2.2
  have e : jn ((n :: l).map (amc sp)) = [] ++ (amc sp n ++ (l.map (fun y => 44 :: amc sp y)).flatten) := by
    rw [List.map_cons, jn, List.map_map]; rfl
  have hlen : (jn ((n :: l).map (amc sp))).length ≤ 2000 := by
    rw [e]
    simp only [List.nil_append, List.length_append, amc] at hfl ⊢
    omega
  obtain ⟨ps, h1, h2⟩ := split_eq sp hsp (jn ((n :: l).map (amc sp))) (by omega) l n [] [] FU hn hl e (by simp) (by rw [FU_eq]; omega)
  unfold ahy aly
  have hps : ps.length = l.length + 1 := by have := congrArg List.length h1; simpa using this
  have hne : ∀ x ∈ ps, x.2 ≠ [] := by
    intro x hx
    have hm : x.2 ∈ ps.map (·.2) := List.mem_map_of_mem hx
    rw [h1, List.map_nil, List.nil_append] at hm
    obtain ⟨y, hy, e⟩ := List.mem_map.1 hm
    have hy' : y ≤ 65535 := by
      rcases List.mem_cons.1 hy with rfl | hy
      · exact hn
      · exact hl y hy
    intro hnil
    have := (D5_ok y hy').2.2.1
    rw [e, hnil] at this
    simp at this
  have hlp := list_lp (ps, 0, 0) (by show ps.length ≤ _; omega) hne ps [] FU (by simp) (by rw [FU_eq]; omega)
  rw [char_blank, Option.bind_some]
  have hb : agb 44 = false := by decide
  rw [hb, cond_false, if_neg (by decide), if_neg (by decide), decide_eq_false (by decide), Option.bind_some, cond_false]
  simp only [List.length_nil] at h2 hlp
  rw [show ((0 : Int)) = ((0 : Nat) : Int) from rfl] at *
  rw [h2, Option.bind_some, if_pos rfl]
  simp only [List.map_nil] at hlp
  rw [hlp, Option.bind_some, Sum.elim_inl, h1]
  rfl
theorem awake_true : ajf FU = some true := by kernel_rfl
theorem list_nil : ahy FU [] = some ([], 5) := by kernel_rfl
theorem space_lp (b : UInt8) (m : Nat) (hm : (b.toNat : Int) % 4 = (m : Int)) (n : Nat) : ∀ (k fk : Nat), k + n = m → n < fk → acn FU b fk (List.replicate k 32) (k : Int) = some (List.replicate m 32) := by
  have hb : 0 ≤ (b.toNat : Int) ∧ 0 < (4 : Int) ∧ ace (b.toNat : Int) := ⟨by omega, by omega, anc _ (by omega) (by have := b.toNat_lt; omega)⟩
  induction n with
  | zero =>
    intro k fk hk hf
    obtain ⟨fk, rfl⟩ : ∃ m, fk = m + 1 := ⟨fk - 1, by omega⟩
    obtain rfl : k = m := by omega
    rw [acn, acb hb, if_neg (by omega)]
  | succ n ih =>
    intro k fk hk hf
    obtain ⟨fk, rfl⟩ : ∃ m, fk = m + 1 := ⟨fk - 1, by omega⟩
    rw [acn, acb hb, if_pos (by omega), acb (by simp; omega), acb (anc _ (by omega) (by omega)), show List.replicate k (32 : UInt8) ++ [32] = List.replicate (k + 1) 32 from List.replicate_succ'.symm]
    exact ih (k + 1) fk (by omega) (by omega)
theorem jn_len (sp : Str) (h3 : sp.length ≤ 3) : ∀ l : List Nat, (∀ x ∈ l, x ≤ 65535) → (jn (l.map (amc sp))).length ≤ 12 * l.length
  | [], _ => by simp [jn]
  | n :: l, h => by
    have hfl := felt_len sp h3 l (fun y hy => h y (List.mem_cons_of_mem _ hy))
    have hx := (D5_ok n (h n List.mem_cons_self)).2.2.2
    rw [List.map_cons, jn, List.map_map]
    simp only [Function.comp_def, List.length_append, List.length_cons, amc] at hfl ⊢
    omega
theorem wrap_nat (n : Nat) (h : n ≤ 65535) : IntKind.wrap .i64 ((n : Nat) : Int) = (n : Int) := amz (by omega) (by omega)
theorem build_lp (sp : Str) (h3 : sp.length ≤ 3) (L : List Nat) (hL : ∀ x ∈ L, x ≤ 65535) (h100 : L.length ≤ 100) (q : List Nat) : ∀ (p : List Nat) (fk : Nat), L = p ++ q → q.length < fk →
    acm FU (L.map (fun (x : Nat) => (x : Int))) sp fk (jn (p.map (amc sp))) (p.length : Int) = some (jn (L.map (amc sp))) := by
  induction q with
  | nil =>
    intro p fk h hf
    obtain ⟨fk, rfl⟩ : ∃ m, fk = m + 1 := ⟨fk - 1, by omega⟩
    rw [List.append_nil] at h
    subst h
    rw [acm, if_neg (by rw [List.length_map]; omega)]
  | cons a q ih =>
    intro p fk h hf
    obtain ⟨fk, rfl⟩ : ∃ m, fk = m + 1 := ⟨fk - 1, by omega⟩
    have hl := congrArg List.length h
    simp only [List.length_append, List.length_cons] at hl hf
    have hb : (0 : Int) ≤ (p.length : Int) ∧ (p.length : Int) < ((L.map (fun (x : Nat) => (x : Int))).length : Int) := by rw [List.length_map]; omega
    have he : el (L.map (fun (x : Nat) => (x : Int))) (p.length : Int) = (a : Int) := by rw [h]; simp [el]
    have ha : a ≤ 65535 := hL a (by rw [h]; simp)
    have hd := (D5_ok a ha).2.2.2
    have hp := jn_len sp h3 p (fun x hx => hL x (by rw [h]; simp [hx]))
    have hsn := jn_snoc (p.map (amc sp)) (amc sp a)
    have := ih (p ++ [a]) fk (by rw [h]; simp) (by omega)
    rw [List.map_append, List.map_singleton, hsn] at this
    rw [show ((p ++ [a]).length : Int) = (p.length : Int) + 1 by simp] at this
    rw [acm, if_pos hb.2]
    cases p with
    | nil =>
      simp only [List.map_nil, jn, List.length_nil, if_true, List.nil_append] at this hb he ⊢
      rw [if_neg (by omega), Option.bind_some, acb (by simp; omega), acb hb, acb hb, he, wrap_nat a ha, anf a ha, Option.bind_some, acb (by simp; omega), acb (by simp; omega), acb (anc _ (by omega) (by omega))]
      rw [show (([] : Str) ++ sp ++ D5 a) ++ sp = amc sp a by simp [amc]]
      exact this
    | cons b p =>
      rw [if_neg (by simp)] at this
      simp only [List.length_cons] at hp hl
      rw [if_pos (by simp only [List.length_cons]; omega), acb (by simp only [List.length_singleton]; omega), Option.bind_some, acb (by simp only [List.length_append, List.length_singleton]; omega), acb hb, acb hb, he, wrap_nat a ha, anf a ha, Option.bind_some, acb (by simp only [List.length_append, List.length_singleton]; omega), acb (by simp only [List.length_append, List.length_singleton]; omega), acb (anc _ (by omega) (by simp only [List.length_cons]; omega))]
      rw [show ((jn ((b :: p).map (amc sp)) ++ [44] ++ sp) ++ D5 a) ++ sp = jn ((b :: p).map (amc sp)) ++ [44] ++ amc sp a by simp [amc]]
      exact this
theorem same_lp (L : List Nat) (hL : ∀ x ∈ L, x ≤ 65535) (h100 : L.length ≤ 100) (n : Nat) : ∀ (k fk : Nat), k + n = L.length → n < fk →
    acl FU (L.map (fun (x : Nat) => (x : Int))) (L.map D5, 0) fk (k : Int) = some (.inl ()) := by
  induction n with
  | zero =>
    intro k fk hk hf
    obtain ⟨fk, rfl⟩ : ∃ m, fk = m + 1 := ⟨fk - 1, by omega⟩
    rw [acl, if_neg (by rw [List.length_map]; omega)]
  | succ n ih =>
    intro k fk hk hf
    obtain ⟨fk, rfl⟩ : ∃ m, fk = m + 1 := ⟨fk - 1, by omega⟩
    have hlt : k < L.length := by omega
    have hb : (0 : Int) ≤ (k : Int) ∧ (k : Int) < ((L.map (fun (x : Nat) => (x : Int))).length : Int) := by rw [List.length_map]; omega
    have hb2 : (0 : Int) ≤ (k : Int) ∧ (k : Int) < ((L.map D5).length : Int) := by rw [List.length_map]; omega
    have he : el (L.map (fun (x : Nat) => (x : Int))) (k : Int) = (L[k] : Int) := by simp [el, hlt]
    have he2 : el (L.map D5) (k : Int) = D5 L[k] := by simp [el, hlt]
    have ha : L[k] ≤ 65535 := hL _ (List.getElem_mem _)
    rw [acl, if_pos hb.2, acb hb2, acb hb2, acb hb, acb hb, he, wrap_nat _ ha, anf _ ha, Option.bind_some]
    simp only [he2, if_true]
    rw [acb (anc _ (by omega) (by omega))]
    exact ih (k + 1) fk (by omega) (by omega)
theorem tok_ack : aey FU [65, 67, 75] = some true := by kernel_rfl
theorem tok_prack : aey FU [80, 82, 65, 67, 75] = some true := by kernel_rfl
theorem rep_blank (m : Nat) : (List.replicate m (32 : UInt8)).all agb = true := by
  rw [List.all_eq_true]; intro c hc; rw [List.eq_of_mem_replicate hc]; rfl
theorem rep_32 (m : Nat) : (List.replicate m (32 : UInt8)).all (· == 32) = true := by
  rw [List.all_eq_true]; intro c hc; rw [List.eq_of_mem_replicate hc]; rfl
theorem decVal_00 (u : Str) : akt (48 :: 48 :: u) = akt u := by simp [akt]
theorem cseq_eq (m a : Nat) (hm : m ≤ 3) (ha : a ≤ 65535) : afm FU (((((List.replicate m 32 ++ ([48, 48] : Str)) ++ D5 a) ++ ([32, 9] : Str)) ++ List.replicate m 32) ++ ([65, 67, 75] : Str)) = some ((a : Int), [65, 67, 75], 0) := by
  have hd := D5_ok a ha
  have e : ((((List.replicate m 32 ++ ([48, 48] : Str)) ++ D5 a) ++ ([32, 9] : Str)) ++ List.replicate m 32) ++ ([65, 67, 75] : Str) = List.replicate m 32 ++ (48 :: ((48 :: (D5 a ++ ([32, 9] ++ (List.replicate m 32 ++ [65, 67])))) ++ [75])) := by simp
  have e2 : 48 :: ((48 :: (D5 a ++ ([32, 9] ++ (List.replicate m 32 ++ [65, 67])))) ++ [75]) = (48 :: 48 :: D5 a) ++ ((32 :: 9 :: List.replicate m 32) ++ 65 :: [67, 75]) := by simp
  have hall : (48 :: 48 :: D5 a).all alt = true := by rw [List.all_cons, List.all_cons, hd.1]; rfl
  unfold afm
  rw [trim_eq _ (by simp; omega), e, trim_mid _ _ _ _ (rep_blank m) (by decide) (by decide), Option.bind_some, e2,
    numbered_eq (48 :: 48 :: D5 a) (32 :: 9 :: List.replicate m 32) 65 [67, 75] (by simp) (by simp; omega) hall (by rw [decVal_00, hd.2.1]; omega) (by rw [List.all_cons, List.all_cons, rep_blank m]; rfl) (by simp) (by decide) (by decide) (by simp; omega), Option.bind_some, decVal_00, hd.2.1, if_pos rfl, tok_ack]
  rfl
theorem cseq2_eq (b : Nat) (hb : b ≤ 65535) : afm FU (D5 b ++ ([32, 80, 82, 65, 67, 75] : Str)) = some ((b : Int), [80, 82, 65, 67, 75], 0) := by
  have hd := D5_ok b hb
  obtain ⟨c, t, hct⟩ : ∃ c t, D5 b = c :: t := by
    cases hx : D5 b with
    | nil => rw [hx] at hd; simp at hd
    | cons c t => exact ⟨c, t, rfl⟩
  have hc : agb c = false := ane c (by have := hd.1; rw [hct, List.all_cons, Bool.and_eq_true] at this; exact this.1)
  have e : D5 b ++ ([32, 80, 82, 65, 67, 75] : Str) = [] ++ (c :: ((t ++ [32, 80, 82, 65, 67]) ++ [75])) := by rw [hct]; simp
  have e2 : c :: ((t ++ [32, 80, 82, 65, 67]) ++ [75]) = D5 b ++ ([32] ++ 80 :: [82, 65, 67, 75]) := by rw [hct]; simp
  unfold afm
  rw [trim_eq _ (by simp; omega), e, trim_mid _ _ _ _ (by decide) hc (by decide), Option.bind_some, e2,
    numbered_eq (D5 b) [32] 80 [82, 65, 67, 75] hd.2.2.1 (by omega) hd.1 (by rw [hd.2.1]; omega) (by decide) (by decide) (by decide) (by decide) (by simp; omega), Option.bind_some, hd.2.1, if_pos rfl, tok_prack]
  rfl
theorem rack_eq (m a b : Nat) (hm : m ≤ 3) (ha : a ≤ 65535) (hb : b ≤ 65535) : ajh FU ((((D5 a ++ ([32] : Str)) ++ List.replicate m 32) ++ D5 b) ++ ([32, 80, 82, 65, 67, 75] : Str)) = some ((a : Int), (b : Int), [80, 82, 65, 67, 75], 0) := by
  have hd := D5_ok a ha
  have hd2 := D5_ok b hb
  obtain ⟨c, t, hct⟩ : ∃ c t, D5 a = c :: t := by
    cases hx : D5 a with
    | nil => rw [hx] at hd; simp at hd
    | cons c t => exact ⟨c, t, rfl⟩
  obtain ⟨c2, t2, hct2⟩ : ∃ c t, D5 b = c :: t := by
    cases hx : D5 b with
    | nil => rw [hx] at hd2; simp at hd2
    | cons c t => exact ⟨c, t, rfl⟩
  have hc : agb c = false := ane c (by have := hd.1; rw [hct, List.all_cons, Bool.and_eq_true] at this; exact this.1)
  have hc2 : agb c2 = false := ane c2 (by have := hd2.1; rw [hct2, List.all_cons, Bool.and_eq_true] at this; exact this.1)
  have hasc : ((c2 :: t2) ++ ([32, 80, 82, 65, 67, 75] : Str)).all (fun b => decide (b.toNat < 128)) = true := by
    rw [← hct2, List.all_append, all_imp (fun c h => by simpa using dig_ascii c h) (D5 b) hd2.1]; rfl
  have e : (((D5 a ++ ([32] : Str)) ++ List.replicate m 32) ++ D5 b) ++ ([32, 80, 82, 65, 67, 75] : Str) = [] ++ (c :: ((t ++ ([32] ++ (List.replicate m 32 ++ (D5 b ++ [32, 80, 82, 65, 67])))) ++ [75])) := by rw [hct]; simp
  have e2 : c :: ((t ++ ([32] ++ (List.replicate m 32 ++ (D5 b ++ [32, 80, 82, 65, 67])))) ++ [75]) = D5 a ++ ((32 :: List.replicate m 32) ++ c2 :: (t2 ++ [32, 80, 82, 65, 67, 75])) := by rw [hct, hct2]; simp
  have hl2 : (D5 b ++ ([32, 80, 82, 65, 67, 75] : Str)) = c2 :: (t2 ++ [32, 80, 82, 65, 67, 75]) := by rw [hct2]; rfl
  have hlt : t2.length ≤ 4 := by have := hd2.2.2.2; rw [hct2, List.length_cons] at this; omega
  unfold ajh
  rw [trim_eq _ (by simp; omega), e, trim_mid _ _ _ _ (by decide) hc (by decide), Option.bind_some, e2,
    numbered_eq (D5 a) (32 :: List.replicate m 32) c2 (t2 ++ [32, 80, 82, 65, 67, 75]) hd.2.2.1 (by omega) hd.1 (by rw [hd.2.1]; omega) (by rw [List.all_cons, rep_blank m]; rfl) (by simp) hc2 (by simpa using hasc) (by simp; omega), Option.bind_some, hd.2.1, if_pos rfl, ← hl2, cseq2_eq b hb]
  rfl
theorem anb (L : List Nat) (b : UInt8) (hL : ∀ x ∈ L, x ≤ 65535) : afg FU (L.map (fun (x : Nat) => (x : Int))) b = some true := by
  unfold afg
  by_cases h100 : 100 < L.length
  · rw [if_pos (by rw [List.length_map]; omega), awake_true]; rfl
  · obtain ⟨m, hm⟩ : ∃ m : Nat, (b.toNat : Int) % 4 = (m : Int) := ⟨b.toNat % 4, by omega⟩
    have hm3 : m ≤ 3 := by omega
    have hsp := space_lp b m hm m 0 FU (by omega) (by rw [FU_eq]; omega)
    have hbl := build_lp (List.replicate m 32) (by simp; omega) L hL (by omega) L [] FU (by simp) (by rw [FU_eq]; omega)
    simp only [List.map_nil, List.length_nil, List.replicate_zero] at hsp hbl
    change acn FU b FU [] (0 : Int) = _ at hsp
    change acm FU _ _ FU [] (0 : Int) = _ at hbl
    rw [if_neg (by rw [List.length_map]; omega), hsp, Option.bind_some, hbl, Option.bind_some]
    cases L with
    | nil =>
      rw [show jn (([] : List Nat).map (amc (List.replicate m 32))) = [] from rfl, list_nil, Option.bind_some, if_pos (by simp), if_pos rfl, if_pos (by simp), awake_true]
      rfl
    | cons n l =>
      have hn : n ≤ 65535 := hL n List.mem_cons_self
      have hl : ∀ x ∈ l, x ≤ 65535 := fun x hx => hL x (List.mem_cons_of_mem _ hx)
      simp only [List.length_cons] at h100
      rw [list_eq (List.replicate m 32) (rep_32 m) (by simp; omega) n l hn hl (by omega), Option.bind_some, if_neg (by simp; omega), if_pos rfl]
      simp only [Option.bind_some]
      rw [decide_eq_true (by simp), Bool.not_true, cond_false]
      have hs := same_lp (n :: l) hL (by simp only [List.length_cons]; omega) (n :: l).length 0 FU (by omega) (by rw [FU_eq]; simp only [List.length_cons]; omega)
      change acl FU _ _ FU (0 : Int) = _ at hs
      rw [hs, Option.bind_some, Sum.elim_inl]
      have hb0 : (0 : Int) ≤ (0 : Int) ∧ (0 : Int) < (((n :: l).map (fun (x : Nat) => (x : Int))).length : Int) := by simp only [List.length_map, List.length_cons]; omega
      have hbe : (0 : Int) ≤ (((n :: l).map (fun (x : Nat) => (x : Int))).length : Int) - 1 ∧ (((n :: l).map (fun (x : Nat) => (x : Int))).length : Int) - 1 < (((n :: l).map (fun (x : Nat) => (x : Int))).length : Int) := by simp only [List.length_map, List.length_cons]; omega
      have he0 : el ((n :: l).map (fun (x : Nat) => (x : Int))) (0 : Int) = (n : Int) := by simp [el]
      obtain ⟨z, hz, hez⟩ : ∃ z : Nat, z ≤ 65535 ∧ el ((n :: l).map (fun (x : Nat) => (x : Int))) ((((n :: l).map (fun (x : Nat) => (x : Int))).length : Int) - 1) = (z : Int) := by
        refine ⟨(n :: l)[l.length]'(by simp), hL _ (List.getElem_mem _), ?_⟩
        have e : ((((n :: l).map (fun (x : Nat) => (x : Int))).length : Int) - 1) = (l.length : Int) := by simp
        rw [e, el_nat _ _ (by simp), List.getElem_map]
      have hda := (D5_ok n hn).2.2.2
      have hdz := (D5_ok z hz).2.2.2
      rw [acb hb0, acb hb0, acb (anc _ hbe.1 (by simp only [List.length_map, List.length_cons]; omega)), acb hbe, acb hbe, acb (by simp; omega), he0, hez, wrap_nat n hn, wrap_nat z hz, anf n hn, Option.bind_some,
        acb (by simp; omega), acb (by simp; omega), acb (by simp; omega), acb (by simp; omega), cseq_eq m n hm3 hn, Option.bind_some, Option.bind_some, acb (by simp; omega), acb (by simp; omega), anf z hz, Option.bind_some,
        acb (by simp; omega), acb (by simp; omega), rack_eq m n z hm3 hn hz, Option.bind_some, awake_true]
      simp
theorem plain_HeaderElements (l : List Int) (b : UInt8) (hl : ∀ x ∈ l, 0 ≤ x ∧ x ≤ 65535) : afg FU l b = some true := by
  have e : l = (l.map Int.toNat).map (fun (x : Nat) => (x : Int)) := by
    rw [List.map_map]
    conv => lhs; rw [← List.map_id l]
    apply List.map_congr_left
    intro x hx
    have := hl x hx
    simp only [Function.comp_def, id]
    omega
  rw [e]
  refine anb _ b fun x hx => ?_
  obtain ⟨y, hy, rfl⟩ := List.mem_map.1 hx
  have := hl y hy
  omega
end Go.Wk
set_option linter.unusedVariables false
set_option maxRecDepth 100000
namespace Go.Proofs.YtbfppjfgcjpknaaGreatDoor.headerElements
open Go.ChangeShapes Go.WideShapes Go.ChangeAt Go.ChangeMaps Go.RowKit Go.Wk
theorem fact5 : laidOutB Tryz.prog = true := by kernel_rfl
theorem fact6 : mapsRowed Tryz.prog = true := by kernel_rfl
theorem fact7 : ((List.range Tryz.prog.types.size).all fun t => match Tryz.prog.underlying t with | some (.slice e) => decide (0 < Tryz.prog.cellsOf e) | _ => true) = true := by kernel_rfl
theorem contract (H : Type) (enc : TypeId × Value → H) (W : World) (base : Nat) (args : Array Value) (ds gs : List (DataW H)) (before : List MemPlace)
    (hval : ∀ (j : Nat) t v, Tryz.f8.params[j]? = some t → args[j]? = some v → Value.okWide Tryz.prog W .any base t v)
    (hW : DataW.Whole enc Tryz.prog Tryz.f8.params.toList Rows.headerElementsSpec.vars false W args.toList ds gs before) (hL : laidMetH Tryz.prog Rows.headerElementsRow.laid W) (hsh : W.ShapedOpen Tryz.prog) :
    Calls Tryz.prog 8 args W fun e W' => ∃ v, e = .returned v ∧ Rows.headerElementsSpec.post enc Tryz.prog Tryz.f8 false true false false W args v W' := by
  have hW' := hW
  obtain ⟨p, q, hA0, hV, rfl, hfz, hnd⟩ := hW
  have hA : DataW.TrodAll enc Tryz.prog W 0 (fun _ => true) true Tryz.f8.params.toList args.toList ds p := hA0
  rw [Tryz.params8] at hA hval
  have hAA := hA
  obtain ⟨v0, vs0, d0, ds0, p0, q0, hargs, rfl, rfl, h0, r0⟩ := trodAll_cons hA
  obtain ⟨v1, vs1, d1, ds1, p1, q1, rfl, rfl, rfl, h1, r1⟩ := trodAll_cons r0
  obtain ⟨rfl, rfl, rfl⟩ := trodAll_nil r1
  obtain rfl : args = #[v0, v1] := by cases args; simp_all
  obtain ⟨rfl, rfl⟩ := trodVars_none hV
  obtain ⟨fu0, t0⟩ := h0
  obtain ⟨a0, n0, cap0, z0, ez0, hn0, hc0, hR0, gz0, bz0⟩ := dec_slice Tryz.underlying51 (dec_int Tryz.underlying53) t0
  obtain rfl := oneCellOf Tryz.underlying51 (hval 0 51 v0 rfl rfl) rfl ez0
  obtain ⟨fu1, t1⟩ := h1
  obtain ⟨z1, ez1, gz1, bz1⟩ := dec_u8 Tryz.underlying5 _ _ _ _ _ _ t1
  obtain rfl := oneCellOf Tryz.underlying5 (hval 1 5 v1 rfl rfl) rfl ez1
  clear hA0
  simp only [List.append_nil] at hW'
  have hr := plain_HeaderElements z0 z1 (fun x hx => by have := gz0 x hx; simpa [Lit.wf, show IntKind.u16.min = 0 by decide, show IntKind.u16.max = 65535 by decide] using this)
  have hgs : 9 ≤ W.heap.size := heapSize hsh (of_decide_eq_true (by kernel_rfl)) (by kernel_rfl)
  have walk := ang a0 n0 cap0 hr (glOf hL hsh hgs) hn0 hR0 hc0
  refine Calls.mono walk ?_
  rintro e W' ⟨v, rfl, rfl, hH⟩
  exact ⟨_, rfl, postOf (pa := _) (pv := []) hW' (fun _ _ _ => trodAll_cons_mk (shut_bool Tryz.underlying4 _) trodAll_mk0) (fun sp hsp => again fact5 fact6 fact7 (by kernel_rfl) hAA hH.toBelow (fun p hp => hW'.lt p (by simpa using hp)) sp (fun p hp => hsp p (by simpa using hp))) (fun _ _ => rfl) (hH.toBelow.frame _)⟩
theorem laid_met (os : Os) : laidMet Tryz.prog Rows.headerElementsRow.laid ((laidWorld os).forCall (fun _ _ => 0) ⟨#[], #[.slice none 0 0, .int .u8 0], []⟩).memory :=
  laidMet_of_run' 8 (by kernel_rfl) (by kernel_rfl)
theorem reads (os : Os) {H : Type} (enc : TypeId × Value → H) : ∃ places, DataW.whole enc Tryz.prog ((laidWorld os).forCall (fun _ _ => 0) ⟨#[], #[.slice none 0 0, .int .u8 0], []⟩).memory Tryz.f8.params.toList Rows.headerElementsSpec.vars false (#[.slice none 0 0, .int .u8 0] : Array Value).toList 8 = some ([.nil, .lit (.int .u8 0)], [], places) :=
  ⟨[], by kernel_rfl⟩
theorem lifted (os : Os) (started : os.Started) (H : Type) (enc : TypeId × Value → H) (F : Stop.Interp) :
    ReturnsInHanded {} Tryz.checked os 8 .any ((OpenSpec.ofChange Rows.headerElementsSpec).preRow enc Tryz.prog Tryz.f8 Rows.headerElementsRow.domain false Rows.headerElementsRow.laid) (((OpenSpec.ofChange Rows.headerElementsSpec).at F).post enc Tryz.prog Tryz.f8 false true false false) := by
  obtain ⟨places, hx⟩ := reads os enc
  refine returnsInHanded_of_row (C := Tryz.checked) (s := OpenSpec.ofChange Rows.headerElementsSpec) own started (by kernel_rfl) Tryz.func8
    (witness_row_at (enc := enc) (C := Tryz.checked) false (laidWorld os) #[.slice none 0 0, .int .u8 0] rfl (by kernel_rfl) (by kernel_rfl) (by kernel_rfl)
      (OpenSpec.preRow_of_cond 8 hx (by kernel_rfl) (fun k hk => by cases hk) (by kernel_rfl) (laid_met os))) ?_
  intro W base args ds gs before hval hW _ hcond _ hL hsh _
  exact contract H enc W base args ds gs before hval hW hL hsh
theorem fact1 : (Rows.headerElementsRow.inPlace == Tryz.prog.inPlace 8) = true := by kernel_rfl
theorem fact2 : (Rows.headerElementsRow.unfollowed == Tryz.prog.unfollowed 8) = true := by kernel_rfl
theorem fact3 : (Rows.headerElementsRow.recurses == Tryz.prog.recurses 8) = true := by kernel_rfl
theorem fact4 : (Rows.headerElementsRow.named == Tryz.prog.varsNamed 8) = true := by kernel_rfl
theorem facts : joinedFacts Tryz.prog 8 Tryz.f8 (OpenSpec.ofChange Rows.headerElementsSpec).bare Rows.headerElementsRow = true := by
  unfold joinedFacts
  rw [fact1, fact2, fact3, fact4, fact5, fact6]
  kernel_rfl
theorem said : Rows.HeaderElementsSaid :=
  OpenClaim.holds_of_cond 8 Tryz.f8 rfl rfl rfl rfl rfl rfl rfl ⟨rfl, rfl, rfl, rfl, rfl⟩ rfl rfl rfl rfl rfl (by kernel_rfl) Tryz.func8 facts
    (of_decide_eq_true (by kernel_rfl)) (by unfold Func.isWrapper; first | (rw [if_pos (by decide +kernel)]; kernel_rfl) | (rw [if_neg (by decide +kernel)]; exact ⟨rfl, rfl⟩))
    (fun os started H enc _ F => by rw [OpenClaim.pre_eq_preRow]; exact lifted os started H enc F)
theorem plain (f : FuncId) (fn : Func) (hf : Tryz.pinned.checked.prog.funcNamed "dialtone/dialtonelaw03.HeaderElements" = some f) (hfn : Tryz.pinned.checked.prog.funcs[f]? = some fn) :
    false = Tryz.pinned.checked.prog.looks [] ∧ ∀ (j : Nat) t, fn.params[j]? = some t → Tryz.pinned.checked.prog.wantsStandIn t = false := by
  obtain rfl : f = 8 := Option.some.inj ((show Tryz.prog.funcNamed "dialtone/dialtonelaw03.HeaderElements" = some 8 by kernel_rfl).symm.trans hf) |>.symm
  obtain rfl : fn = Tryz.f8 := (Option.some.inj (Tryz.func8.symm.trans hfn)).symm
  refine ⟨by kernel_rfl, fun j t ht => ?_⟩
  rw [Tryz.params8] at ht
  have hm := Array.mem_of_getElem? ht
  simp only [List.mem_toArray, List.mem_cons, List.not_mem_nil, or_false, or_self] at hm
  rcases hm with rfl | rfl
  · exact (show Tryz.prog.wantsStandIn 51 = false by kernel_rfl)
  · exact (show Tryz.prog.wantsStandIn 5 = false by kernel_rfl)
theorem card : Rows.HeaderElementsCardSaid :=
  Claim7.holds_tied_plain_at .later [] _ _ _ _ said (fun _ h => by cases h) (by kernel_rfl) (fun _ h => by cases h) headerElements_row_tie rfl ⟨rfl, rfl⟩ (by kernel_rfl) rfl plain (by kernel_rfl)
end Go.Proofs.YtbfppjfgcjpknaaGreatDoor.headerElements
