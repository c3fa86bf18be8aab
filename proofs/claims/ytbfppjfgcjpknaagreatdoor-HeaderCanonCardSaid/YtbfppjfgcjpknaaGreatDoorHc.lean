/-
  The law HeaderCanon holds: for every name the call returns true; no condition beyond the statement's own (part 8 of 8).
-/
import Derived.Test.YtbfppjfgcjpknaaGreatDoorHc7
import Derived.Test.YtbfppjfgcjpknaaGreatDoorRows
import Derived.ProofKit
import Derived.OpenShut
import Derived.Deep.DeepHandedRow
import Derived.Lib.LaidTab
import Derived.Shelf.Vars
import Derived.ChangeSame
import Derived.WalkKit
import Derived.SevenTiedAt
import Derived.Test.YtbfppjfgcjpknaaGreatDoorCards
import Derived.Test.YtbfppjfgcjpknaaGreatDoorTie
import Derived.ChangeMaps5
set_option linter.unusedVariables false
set_option linter.unusedSimpArgs false
set_option maxRecDepth 20000
namespace Go.Proofs
open Go.Wk Go.Px Go.RowKit
theorem lenOf {s : ByteArray} (h : s.size ≤ maxLen) : s.data.toList.length ≤ 9223372036854775807 := Nat.le_trans (by rw [Array.length_toList]; exact h) (show maxLen ≤ 9223372036854775807 by decide)
theorem laidAt {P : Program} {w : World} : ∀ {l : List (String × DataW Unit)} {ps : List MemPlace}, DataW.LaidVars P w l ps → ∀ (i : Nat) {n : String} {d : DataW Unit}, l[i]? = some (n, d) →
    ∃ g t cs fuel p, P.globalNamed n = some g ∧ (P.globals[g]?).map (·.type) = some t ∧ w.var? P n = some cs ∧ DataW.trod (fun _ => ()) P w 0 (fun _ => true) false fuel t cs.toList = some (d, p)
  | [], _, _, i, n, d, hi => by simp at hi
  | (n', d') :: l, ps, h, 0, n, d, hi => by
    obtain ⟨g, t, cs, fuel, p, q, h1, h2, h3, h4, _, _⟩ := h
    simp only [List.getElem?_cons_zero, Option.some.injEq, Prod.mk.injEq] at hi
    obtain ⟨rfl, rfl⟩ := hi
    exact ⟨g, t, cs, fuel, p, h1, h2, h3, h4⟩
  | (n', d') :: l, ps, h, i + 1, n, d, hi => by
    obtain ⟨g, t, cs, fuel, p, q, _, _, _, _, h5, _⟩ := h
    exact laidAt h5 i (by simpa using hi)
theorem vrOf {P : Program} {w : World} {n : String} {g : Nat} {cs : Array Value} (hg : P.globalNamed n = some g) (h : w.var? P n = some cs) : Vr w g cs.toList := by
  simp only [World.var?, hg, Option.bind_some] at h
  split at h
  · rename_i cs' t f e
    cases h
    exact ⟨t, f, by rw [e]⟩
  · cases h
theorem chunks {α : Type} {f : α → List Value} {sz : Nat} : ∀ (zs : List α) (cs : List Value), cs.length = zs.length * sz → (∀ (i : Nat) (z : α), zs[i]? = some z → (cs.drop (i * sz)).take sz = f z) → cs = zs.flatMap f
  | [], cs, hl, _ => by simpa using hl
  | z :: zs, cs, hl, h => by
    have h0 := h 0 z rfl
    simp only [Nat.zero_mul, List.drop_zero] at h0
    have h1 := chunks (f := f) (sz := sz) zs (cs.drop sz) (by rw [List.length_drop, hl, List.length_cons, Nat.succ_mul]; omega) (fun i z' hi => by
      have := h (i + 1) z' (by simpa using hi)
      rw [List.drop_drop, Nat.add_comm, ← Nat.succ_mul]
      exact this)
    rw [List.flatMap_cons, ← h0, ← h1, List.take_append_drop]
theorem arrCells {P : Program} {w : World} {fuel n sz : Nat} {t e : TypeId} {cs : List Value} {p : List MemPlace} {α : Type} {dz : α → DataW Unit} {f : α → List Value} (zs : List α)
    (ht : P.underlying t = some (.array n e)) (hce : P.cellsOf e = sz) (hct : P.cellsOf t = n * sz) (hz : zs.length = n)
    (hel : ∀ fuel cs' z p, DataW.trod (fun _ => ()) P w 0 (fun _ => true) false fuel e cs' = some (dz z, p) → cs' = f z)
    (h : DataW.trod (fun _ => ()) P w 0 (fun _ => true) false fuel t cs = some (.agg (zs.map dz), p)) : cs = zs.flatMap f := by
  cases fuel with
  | zero => simp [DataW.trod] at h
  | succ fuel =>
    simp only [DataW.trod, ht, hce, hct] at h
    split at h
    · rename_i hl
      obtain ⟨xs, hm, hx⟩ := Option.map_eq_some_iff.1 h
      have hxs : xs.map (·.1) = zs.map dz := by
        have := congrArg Prod.fst hx
        simpa using this
      refine chunks zs cs (by rw [hl, hz]) fun i z hi => ?_
      have hi' : i < n := by rw [← hz]; exact (List.getElem?_eq_some_iff.1 hi).1
      obtain ⟨b, hb, hf⟩ := Lib.mapM_at hm i i (by simp [hi'])
      have hb1 : b.1 = dz z := by
        have e1 : (xs.map (·.1))[i]? = some b.1 := by simp [hb]
        rw [hxs] at e1
        simp only [List.getElem?_map, hi, Option.map_some, Option.some.injEq] at e1
        exact e1.symm
      exact hel fuel _ z b.2 (by rw [hf, ← hb1])
    · cases h
theorem strCell {P : Program} {w : World} {fuel : Nat} {e : TypeId} {cs : List Value} {p : List MemPlace} (he : P.underlying e = some .string) (z : List UInt8)
    (h : DataW.trod (fun _ => ()) P w 0 (fun _ => true) false fuel e cs = some (.lit (.string z), p)) : cs = eS z := by
  obtain ⟨s, rfl, hx, _⟩ := DataW.trod_string he h
  simp only [Prod.mk.injEq, DataW.lit.injEq, Lit.string.injEq] at hx
  obtain ⟨rfl, _⟩ := hx
  rfl
theorem intCell {P : Program} {w : World} {fuel : Nat} {e : TypeId} {k : IntKind} {cs : List Value} {p : List MemPlace} (he : P.underlying e = some (.int k)) (z : Int)
    (h : DataW.trod (fun _ => ()) P w 0 (fun _ => true) false fuel e cs = some (.lit (.int k z), p)) : cs = [.int k z] := by
  obtain ⟨n, rfl, hx, _⟩ := DataW.trod_int he h
  simp only [Prod.mk.injEq, DataW.lit.injEq, Lit.int.injEq] at hx
  obtain ⟨⟨_, rfl⟩, _⟩ := hx
  rfl
theorem pairCell {P : Program} {w : World} {fuel : Nat} {e a b : TypeId} {f0 f1 : Field} {k : IntKind} {cs : List Value} {p : List MemPlace} (he : P.underlying e = some (.struct #[f0, f1])) (ha : P.underlying a = some .string) (hb : P.underlying b = some (.int k))
    (h0 : (f0.type, f0.offset, f1.type, f1.offset) = (a, 0, b, 1)) (hca : P.cellsOf a = 1) (hcb : P.cellsOf b = 1) (hc : P.cellsOf e = 2) (z : List UInt8 × Int)
    (h : DataW.trod (fun _ => ()) P w 0 (fun _ => true) false fuel e cs = some (.agg [.lit (.string z.1), .lit (.int k z.2)], p)) : cs = [str z.1, .int k z.2] := by
  obtain ⟨z1, z2⟩ := z
  simp only [Prod.mk.injEq] at h0
  obtain ⟨t0, o0, t1, o1⟩ := h0
  cases fuel with
  | zero => simp [DataW.trod] at h
  | succ fuel =>
    simp only [DataW.trod, he, hc] at h
    split at h
    · rename_i hl
      obtain ⟨xs, hm, hx⟩ := Option.map_eq_some_iff.1 h
      simp only [List.mapM_cons, List.mapM_nil, Option.bind_eq_bind, Option.bind_eq_some_iff, Option.pure_def, Option.some.injEq, t0, t1, o0, o1, hca, hcb, List.drop_zero] at hm
      obtain ⟨x0, hx0, r0, ⟨x1, hx1, r1, rfl, rfl⟩, rfl⟩ := hm
      simp only [List.map_cons, List.map_nil, Prod.mk.injEq, DataW.agg.injEq, List.cons.injEq, and_true] at hx
      obtain ⟨⟨e0, e1⟩, _⟩ := hx
      have g0 := strCell ha z1 (p := x0.2) (by rw [hx0, ← e0])
      have g1 := intCell hb z2 (p := x1.2) (by rw [hx1, ← e1])
      match cs, hl, g0, g1 with
      | [u, v], _, g0, g1 =>
        simp only [List.take_succ_cons, List.take_zero, List.drop_succ_cons, List.drop_zero, eS, List.cons.injEq, and_true] at g0 g1
        rw [g0, g1]
    · cases h
theorem intVar {P : Program} {w : World} {g : Nat} {t : TypeId} {zero : Array Value} {k : IntKind} (h : w.ShapedOpen P) (hg : g < P.globals.size)
    (h0 : ((begin P (fun _ _ => 0) default).world.heap[g]?).bind Obj.row? = some (zero, t)) (hz : zero.size = 1)
    (hb : P.buildable t = true) (hc : P.cellTypes P.depth t = some [t]) (hu : P.underlying t = some (.int k)) : ∃ m, Vr w g [.int k m] := by
  obtain ⟨m, hm⟩ := cell_of_shapedOpen_int h hg h0 hz hb hc hu
  obtain ⟨cs, hh, hs, _⟩ := h.1 g zero t hg h0
  refine ⟨m, t, (0, 0), ?_⟩
  rw [hh]
  have h1 : cs.size = 1 := by omega
  have h2 : cs[0]? = some (.int k m) := by
    have : w.cell? ⟨g, 0, none⟩ = cs[0]? := by simp [World.cell?, hh]
    rw [← this]; exact hm
  have e : cs = [Value.int k m].toArray := by
    apply Array.ext
    · simp [h1]
    · intro i hi hi'
      have : i = 0 := by omega
      subst this
      simpa [hi] using h2
  rw [e]
theorem heapSize {P : Program} {w : World} {g : Nat} (h : w.ShapedOpen P) (hg : g < P.globals.size) (h0 : (((begin P (fun _ _ => 0) default).world.heap[g]?).bind Obj.row?).isSome = true) : g + 1 ≤ w.heap.size := by
  obtain ⟨⟨zero, t⟩, h1⟩ := Option.isSome_iff_exists.1 h0
  obtain ⟨cs, hh, _⟩ := h.1 g zero t hg h1
  exact (Array.getElem?_eq_some_iff.1 hh).1
theorem laidOf {P : Program} {l : List (String × DataW Unit)} {w : World} (h : laidMetH P l w) (hn : (l.filter fun x => x.2.handleName?.isSome) = []) : ∃ ps, DataW.LaidVars P w l ps := by
  unfold laidMetH at h
  rw [hn] at h
  obtain ⟨ps, h1, _⟩ := h
  exact ⟨ps, h1⟩
theorem postOf {H : Type} {enc : TypeId × Value → H} {P : Program} {f : Func} {s : ChangeSpec} {apart fresh handsOn : Bool} {W W' : World} {args : Array Value} {v : Value} {ds gs : List (DataW H)} {before pa pv : List MemPlace}
    (hW : DataW.Whole enc P f.params.toList s.vars apart W args.toList ds gs before)
    (hres : ∀ (b : Nat) (sp : Nat → Bool) (hd : Bool), DataW.TrodAll enc P W' b sp hd f.resultTypes.toList (v.resultList f.resultTypes.size) (s.fn H (ds ++ gs)).results [])
    (hargs : ∀ sp : Nat → Bool, (∀ p ∈ before, sp p.block = true) → DataW.TrodAll enc P W' 0 sp true f.params.toList args.toList (s.fn H (ds ++ gs)).args pa)
    (hvars : ∀ sp : Nat → Bool, (∀ p ∈ before, sp p.block = true) → DataW.TrodVars enc P W' sp s.vars (s.fn H (ds ++ gs)).vars pv)
    (hk : W.keptBut W' (fun p => p ∈ before ∧ (p ∈ ([] : List MemPlace) ∨ p ∈ pa ∨ p ∈ pv))) : s.post enc P f apart fresh handsOn false W args v W' := by
  have hold : ∀ p ∈ before, (fun b => decide (b < W.heap.size)) p.block = true := fun p hp => by simpa using hW.lt p hp
  exact ⟨ds, gs, before, [], pa, pv, hW, hres _ _ _, hargs _ hold, hvars _ hold, hk, fun h => by cases h⟩
end Go.Proofs
set_option linter.unusedVariables false
set_option maxRecDepth 100000
namespace Go.Proofs
open Go.Wk Go.Px Go.RowKit
theorem glOf {W : World} (hL : laidMetH Tryz.prog YtbfppjfgcjpknaaGreatDoor.Rows.headerCanonRow.laid W) (hsh : W.ShapedOpen Tryz.prog) (hs : 9 ≤ W.heap.size) : Gl W := by
  obtain ⟨ps, h⟩ := laidOf hL (by kernel_rfl)
  have v0 : Vr W 0 (List.flatMap eS afh) := by
    obtain ⟨g, t, cs, fuel, p, h1, h2, h3, h4⟩ := laidAt h 5 rfl
    obtain rfl := Option.some.inj ((show Tryz.prog.globalNamed "dialtone/header.specials" = some 0 by kernel_rfl).symm.trans h1)
    obtain rfl := Option.some.inj ((show (Tryz.prog.globals[0]?).map (·.type) = some 99 by kernel_rfl).symm.trans h2)
    have e := arrCells (dz := fun s => .lit (.string s)) (f := eS) afh Tryz.underlying99 (show Tryz.prog.cellsOf 9 = 1 by kernel_rfl) (by kernel_rfl) rfl (fun _ _ z _ h => strCell Tryz.underlying9 z h) h4
    have := vrOf h1 h3
    rw [e] at this
    exact this
  have v1 : Vr W 1 (List.flatMap amd afc) := by
    obtain ⟨g, t, cs, fuel, p, h1, h2, h3, h4⟩ := laidAt h 6 rfl
    obtain rfl := Option.some.inj ((show Tryz.prog.globalNamed "dialtone/header.kinds" = some 1 by kernel_rfl).symm.trans h1)
    obtain rfl := Option.some.inj ((show (Tryz.prog.globals[1]?).map (·.type) = some 182 by kernel_rfl).symm.trans h2)
    have e := arrCells (dz := fun z => .agg [.lit (.string z.1), .lit (.int .i64 z.2)]) (f := amd) afc Tryz.underlying182 (show Tryz.prog.cellsOf 181 = 2 by kernel_rfl) (by kernel_rfl) rfl (fun _ _ z _ h => pairCell Tryz.underlying181 Tryz.underlying9 Tryz.underlying143 rfl (by kernel_rfl) (by kernel_rfl) (by kernel_rfl) z h) h4
    have := vrOf h1 h3
    rw [e] at this
    exact this
  have v3 : Vr W 3 (List.flatMap eS ajd) := by
    obtain ⟨g, t, cs, fuel, p, h1, h2, h3, h4⟩ := laidAt h 4 rfl
    obtain rfl := Option.some.inj ((show Tryz.prog.globalNamed "dialtone/address.classes" = some 3 by kernel_rfl).symm.trans h1)
    obtain rfl := Option.some.inj ((show (Tryz.prog.globals[3]?).map (·.type) = some 220 by kernel_rfl).symm.trans h2)
    have e := arrCells (dz := fun s => .lit (.string s)) (f := eS) ajd Tryz.underlying220 (show Tryz.prog.cellsOf 9 = 1 by kernel_rfl) (by kernel_rfl) rfl (fun _ _ z _ h => strCell Tryz.underlying9 z h) h4
    have := vrOf h1 h3
    rw [e] at this
    exact this
  have v4 : Vr W 4 (Lib.pow10Tab.map fun z => Value.int .u64 z) := by
    obtain ⟨g, t, cs, fuel, p, h1, h2, h3, h4⟩ := laidAt h 2 rfl
    obtain rfl := Option.some.inj ((show Tryz.prog.globalNamed "internal/strconv.uint64pow10" = some 4 by kernel_rfl).symm.trans h1)
    obtain rfl := Option.some.inj ((show (Tryz.prog.globals[4]?).map (·.type) = some 226 by kernel_rfl).symm.trans h2)
    have e := Lib.cells_of_tab (zs := Lib.pow10Tab) (k := .u64) Tryz.underlying226 Tryz.underlying205 (by kernel_rfl) (by kernel_rfl) h4
    have := vrOf h1 h3
    rw [e] at this
    exact this
  have v2 : ∃ m, Vr W 2 [.int .i64 m] := intVar (zero := #[.int .i64 0]) (t := 3) hsh (of_decide_eq_true (by kernel_rfl)) (by kernel_rfl) rfl (by kernel_rfl) (by kernel_rfl) Tryz.underlying3
  exact { gs := hs, specials := v0, kinds := v1, classes := v3, pow10 := v4, maxlen := v2 }
def laidCells (g : Nat) (o : Obj) : Obj :=
  match o with
  | .cells c t fz => .cells (match g with
    | 7 => #[.int .u8 0, .int .u8 1, .int .u8 28, .int .u8 2, .int .u8 29, .int .u8 14, .int .u8 24, .int .u8 3, .int .u8 30, .int .u8 22, .int .u8 20, .int .u8 15, .int .u8 25, .int .u8 17, .int .u8 4, .int .u8 8, .int .u8 31, .int .u8 27, .int .u8 13, .int .u8 23, .int .u8 21, .int .u8 19, .int .u8 16, .int .u8 7, .int .u8 26, .int .u8 12, .int .u8 18, .int .u8 6, .int .u8 11, .int .u8 5, .int .u8 10, .int .u8 9]
    | 8 => #[.int .u8 0, .int .u8 1, .int .u8 56, .int .u8 2, .int .u8 57, .int .u8 49, .int .u8 28, .int .u8 3, .int .u8 61, .int .u8 58, .int .u8 42, .int .u8 50, .int .u8 38, .int .u8 29, .int .u8 17, .int .u8 4, .int .u8 62, .int .u8 47, .int .u8 59, .int .u8 36, .int .u8 45, .int .u8 43, .int .u8 51, .int .u8 22, .int .u8 53, .int .u8 39, .int .u8 33, .int .u8 30, .int .u8 24, .int .u8 18, .int .u8 12, .int .u8 5, .int .u8 63, .int .u8 55, .int .u8 48, .int .u8 27, .int .u8 60, .int .u8 41, .int .u8 37, .int .u8 16, .int .u8 46, .int .u8 35, .int .u8 44, .int .u8 21, .int .u8 52, .int .u8 32, .int .u8 23, .int .u8 11, .int .u8 54, .int .u8 26, .int .u8 40, .int .u8 15, .int .u8 34, .int .u8 20, .int .u8 31, .int .u8 10, .int .u8 25, .int .u8 14, .int .u8 19, .int .u8 9, .int .u8 13, .int .u8 8, .int .u8 7, .int .u8 6]
    | 4 => #[.int .u64 1, .int .u64 10, .int .u64 100, .int .u64 1000, .int .u64 10000, .int .u64 100000, .int .u64 1000000, .int .u64 10000000, .int .u64 100000000, .int .u64 1000000000, .int .u64 10000000000, .int .u64 100000000000, .int .u64 1000000000000, .int .u64 10000000000000, .int .u64 100000000000000, .int .u64 1000000000000000, .int .u64 10000000000000000, .int .u64 100000000000000000, .int .u64 1000000000000000000, .int .u64 10000000000000000000]
    | 6 => #[.int .u8 128, .int .u8 191, .int .u8 160, .int .u8 191, .int .u8 128, .int .u8 159, .int .u8 144, .int .u8 191, .int .u8 128, .int .u8 143, .int .u8 0, .int .u8 0, .int .u8 0, .int .u8 0, .int .u8 0, .int .u8 0, .int .u8 0, .int .u8 0, .int .u8 0, .int .u8 0, .int .u8 0, .int .u8 0, .int .u8 0, .int .u8 0, .int .u8 0, .int .u8 0, .int .u8 0, .int .u8 0, .int .u8 0, .int .u8 0, .int .u8 0, .int .u8 0]
    | 3 => #[str [38, 61, 43, 36, 44, 59, 63, 47], str [91, 93, 47, 58, 38, 43, 36], str [91, 93, 47, 63, 58, 43, 36]]
    | 0 => #[str [67, 97, 108, 108, 45, 73, 68], str [67, 83, 101, 113], str [77, 73, 77, 69, 45, 86, 101, 114, 115, 105, 111, 110], str [77, 105, 110, 45, 83, 69], str [82, 65, 99, 107], str [82, 83, 101, 113], str [87, 87, 87, 45, 65, 117, 116, 104, 101, 110, 116, 105, 99, 97, 116, 101]]
    | 1 => #[str [70, 114, 111, 109], .int .i64 1, str [84, 111], .int .i64 1, str [67, 111, 110, 116, 97, 99, 116], .int .i64 1, str [82, 111, 117, 116, 101], .int .i64 1, str [82, 101, 99, 111, 114, 100, 45, 82, 111, 117, 116, 101], .int .i64 1, str [80, 97, 116, 104], .int .i64 1, str [83, 101, 114, 118, 105, 99, 101, 45, 82, 111, 117, 116, 101], .int .i64 1, str [82, 101, 102, 101, 114, 45, 84, 111], .int .i64 1, str [82, 101, 102, 101, 114, 114, 101, 100, 45, 66, 121], .int .i64 1, str [82, 101, 112, 108, 121, 45, 84, 111], .int .i64 1, str [86, 105, 97], .int .i64 2, str [67, 83, 101, 113], .int .i64 3, str [82, 65, 99, 107], .int .i64 4, str [67, 111, 110, 116, 101, 110, 116, 45, 76, 101, 110, 103, 116, 104], .int .i64 5, str [69, 120, 112, 105, 114, 101, 115], .int .i64 5, str [77, 97, 120, 45, 70, 111, 114, 119, 97, 114, 100, 115], .int .i64 5, str [77, 105, 110, 45, 69, 120, 112, 105, 114, 101, 115], .int .i64 5, str [82, 83, 101, 113], .int .i64 5, str [67, 111, 110, 116, 101, 110, 116, 45, 68, 105, 115, 112, 111, 115, 105, 116, 105, 111, 110], .int .i64 6, str [67, 111, 110, 116, 101, 110, 116, 45, 84, 121, 112, 101], .int .i64 6, str [69, 118, 101, 110, 116], .int .i64 6, str [77, 105, 110, 45, 83, 69], .int .i64 6, str [83, 101, 115, 115, 105, 111, 110, 45, 69, 120, 112, 105, 114, 101, 115], .int .i64 6, str [83, 117, 98, 115, 99, 114, 105, 112, 116, 105, 111, 110, 45, 83, 116, 97, 116, 101], .int .i64 6, str [65, 99, 99, 101, 112, 116], .int .i64 7, str [65, 108, 108, 111, 119], .int .i64 7, str [65, 108, 108, 111, 119, 45, 69, 118, 101, 110, 116, 115], .int .i64 7, str [80, 114, 111, 120, 121, 45, 82, 101, 113, 117, 105, 114, 101], .int .i64 7, str [82, 101, 113, 117, 105, 114, 101], .int .i64 7, str [83, 117, 112, 112, 111, 114, 116, 101, 100], .int .i64 7, str [85, 110, 115, 117, 112, 112, 111, 114, 116, 101, 100], .int .i64 7]
    | 5 => (Go.Pinned.utf8FirstZ.map fun (z : Nat) => Value.int .u8 (z : Int)).toArray
    | _ => c) t fz
  | o => o
noncomputable def laidWorld (os : Os) : World := { World.holding Tryz.prog os ⟨#[], #[], []⟩ with heap := (World.holding Tryz.prog os ⟨#[], #[], []⟩).heap.mapIdx laidCells }
theorem own : ownKnob Tryz.prog.godebug = none := by kernel_rfl
end Go.Proofs
set_option linter.unusedVariables false
set_option linter.unusedSimpArgs false
set_option maxRecDepth 100000
namespace Go.Wk
open Go.Px
def FU : Nat := 18446744073709551616
theorem FU_eq : FU = 18446744073709551616 := rfl
theorem at_mid (p : Str) (c : UInt8) (l : Str) : at_ (p ++ c :: l) (p.length : Int) = c := by simp [at_]
theorem set_mid (p : Str) (c x : UInt8) (l : Str) : List.set (p ++ c :: l) (Int.toNat (p.length : Int)) x = (p ++ [x]) ++ l := by simp
theorem len_snoc (p : Str) (x : UInt8) : ((p.length : Int) + 1) = ((p ++ [x]).length : Int) := by simp
theorem ok_of (a : Int) (h0 : 0 ≤ a) (h : a ≤ 9223372036854775807) : acl a := ⟨by omega, by omega⟩
theorem char_token (fu : Nat) (c : UInt8) : agq fu c = some (aju c) := by
  show agq 0 c = _
  revert c; exact ahd _ (by decide +kernel)
theorem lowerByte_eq (fu : Nat) (c : UInt8) : aev fu c = some (agm c) := by
  show aev 0 c = _
  revert c; exact ahd _ (by decide +kernel)
theorem tokEnd_lp {fu : Nat} (s : Str) (hs : s.length ≤ 9223372036854775807) (n : Nat) : ∀ (k fk : Nat), k + n = s.length → n < fk →
    abs fu s fk (k : Int) = some ((k + span aju (s.drop k) : Nat) : Int) := by
  induction n with
  | zero =>
    intro k fk hk hf
    obtain ⟨fk, rfl⟩ : ∃ m, fk = m + 1 := ⟨fk - 1, by omega⟩
    rw [abs, if_neg (by omega), List.drop_eq_nil_of_le (by omega)]
    simp [span]
  | succ n ih =>
    intro k fk hk hf
    obtain ⟨fk, rfl⟩ : ∃ m, fk = m + 1 := ⟨fk - 1, by omega⟩
    rw [abs, if_pos (by omega), akt (by omega), char_token, drop_at s k (by omega)]
    simp only [Option.bind_some]
    cases h : aju (at_ s k)
    · simp [span, h]
    · rw [cond_true]
      rw [akt (ok_of _ (by omega) (by omega))]
      have e : ((k : Int) + 1) = ((k + 1 : Nat) : Int) := rfl
      rw [e, ih (k + 1) fk (by omega) (by omega)]
      have e2 : span aju (at_ s k :: s.drop (k + 1)) = 1 + span aju (s.drop (k + 1)) := by simp [span, h, Nat.add_comm]
      rw [e2, Nat.add_assoc]
theorem skipTok_eq (s : Str) (hs : s.length ≤ 9223372036854775807) (i : Int) : adp FU s i = some ((skipL aju s i : Nat) : Int) := by
  unfold adp skipL
  have h : min (max i 0) (s.length : Int) = ((clampN i s.length : Nat) : Int) := by unfold clampN; omega
  have := clampN_le i s.length
  rw [h, tokEnd_lp s hs (s.length - clampN i s.length) _ FU (by omega) (by rw [FU_eq]; omega)]
  rfl
theorem tok_cases (s : Str) : (if s = [] then some false else some (decide (((skipL aju s 0 : Nat) : Int) = (s.length : Int)))) = some (isTok s) := by
  have := tok_iff s
  by_cases h : s = []
  · subst h; rfl
  · rw [if_neg h]; congr 1
    by_cases h2 : ((skipL aju s 0 : Nat) : Int) = (s.length : Int)
    · rw [decide_eq_true h2, this.1 ⟨h, h2⟩]
    · rw [decide_eq_false h2]
      cases h3 : isTok s
      · rfl
      · exact absurd (this.2 h3).2 h2
theorem token_eq (s : Str) (hs : s.length ≤ 9223372036854775807) : aeu FU s = some (isTok s) := by
  unfold aeu afa
  rw [skipTok_eq s hs]
  simp only [Option.bind_some, Option.bind_fun_some]
  exact tok_cases s
theorem mid_lt (p : Str) (c : UInt8) (l : Str) : (0 : Int) ≤ (p.length : Int) ∧ (p.length : Int) < ((p ++ c :: l).length : Int) := by
  rw [List.length_append, List.length_cons]; omega
theorem lower_lp {fu : Nat} (s : Str) (hs : s.length ≤ 9223372036854775807) (l : Str) : ∀ (p : Str) (fk : Nat), p.length + l.length = s.length → l.length < fk →
    aaz fu s fk (p ++ l) (p.length : Int) = some (p ++ l.map agm) := by
  induction l with
  | nil =>
    intro p fk hk hf
    obtain ⟨fk, rfl⟩ : ∃ m, fk = m + 1 := ⟨fk - 1, by omega⟩
    simp only [List.length_nil] at hk
    rw [aaz, if_neg (by omega)]; rfl
  | cons c l ih =>
    intro p fk hk hf
    obtain ⟨fk, rfl⟩ : ∃ m, fk = m + 1 := ⟨fk - 1, by omega⟩
    simp only [List.length_cons] at hk hf
    have hb := mid_lt p c l
    rw [aaz, if_pos (by omega), akt hb, akt hb, at_mid, lowerByte_eq]
    simp only [Option.bind_some]
    rw [akt hb, akt hb, akt (ok_of _ (by omega) (by omega)), set_mid, len_snoc p (agm c), ih (p ++ [agm c]) fk (by rw [List.length_append, List.length_singleton]; omega) (by omega)]
    simp
theorem lower_eq (s : Str) (hs : s.length ≤ 9223372036854775807) : acc FU s = some (amr s) := by
  unfold acc
  have := lower_lp (fu := FU) s hs s [] FU (by simp) (by rw [FU_eq]; omega)
  simp only [List.nil_append, List.length_nil, Int.natCast_zero, Int.cast_ofNat_Int] at this
  rw [this]; rfl
def longN (c : UInt8) : Str := (ahm FU c).getD []
theorem long_eq : ∀ c : UInt8, ahm FU c = some (longN c) := ahd _ (by decide +kernel)
def akz : Bool → Str → Str
  | _, [] => []
  | f, c :: l => (if f then upperB c else agm c) :: akz (c == 45) l
theorem canon1_eq (fu : Nat) (f : Bool) (c : UInt8) : aif fu c f = some (if f then upperB c else agm c, c == 45) := by
  show aif 0 c f = _
  revert c; cases f <;> exact ahd _ (by decide +kernel)
theorem title_lp {fu : Nat} (s : Str) (hs : s.length ≤ 9223372036854775807) (l : Str) : ∀ (p : Str) (f : Bool) (fk : Nat), p.length + l.length = s.length → l.length < fk →
    (abi fu s fk (p ++ l) (p.length : Int) f).map (·.1) = some (p ++ akz f l) := by
  induction l with
  | nil =>
    intro p f fk hk hf
    obtain ⟨fk, rfl⟩ : ∃ m, fk = m + 1 := ⟨fk - 1, by omega⟩
    simp only [List.length_nil] at hk
    rw [abi, if_neg (by omega)]; rfl
  | cons c l ih =>
    intro p f fk hk hf
    obtain ⟨fk, rfl⟩ : ∃ m, fk = m + 1 := ⟨fk - 1, by omega⟩
    simp only [List.length_cons] at hk hf
    have hb := mid_lt p c l
    rw [abi, if_pos (by omega), akt hb, akt hb, at_mid, canon1_eq, Option.bind_some,
      akt hb, akt hb, akt (ok_of _ (by omega) (by omega)), set_mid, len_snoc p (if f then upperB c else agm c), ih _ _ fk (by rw [List.length_append, List.length_singleton]; omega) (by omega), List.append_assoc]
    rfl
theorem title_eq (s : Str) (hs : s.length ≤ 9223372036854775807) : ∃ b, ack FU s true = some (akz true s, b) := by
  unfold ack
  have := title_lp (fu := FU) s hs s [] true FU (by simp) (by rw [FU_eq]; omega)
  obtain ⟨r, h1, h2⟩ := Option.map_eq_some_iff.1 this
  refine ⟨r.2, ?_⟩
  rw [show ((0 : Int)) = (([] : Str).length : Int) from rfl, show s = [] ++ s from rfl]
  simp only [List.nil_append] at h1 h2 ⊢
  rw [h1, Option.bind_some, h2]
theorem low45 : ∀ c : UInt8, (agm c == 45) = (c == 45) := ahd _ (by decide +kernel)
def afj (s : Str) : Str × UInt8 :=
  if isTok s = false ∨ 64 < s.length then ([], 5)
  else if s.length = 1 ∧ longN (agm (at_ s 0)) ≠ [] then (longN (agm (at_ s 0)), 0)
  else ((adu FU (amr s) FU 0).getD (.inl ())).elim (fun _ => (akz true s, 0)) id
def specialO : List Str → Str → Option (Unit ⊕ (Str × UInt8))
  | [], _ => some (.inl ())
  | n :: l, y => if amr n = y then some (.inr (n, 0)) else specialO l y
theorem aly (y : Str) : ∀ l, ∃ r, specialO l y = some r
  | [] => ⟨_, rfl⟩
  | n :: l => by
    unfold specialO
    split
    · exact ⟨_, rfl⟩
    · exact aly y l
theorem amq (y : Str) : adu FU y FU 0 = specialO afh y := by kernel_rfl
theorem special_some (y : Str) : ∃ r, adu FU y FU 0 = some r := by
  rw [amq]; exact aly y _
theorem canon_eq (s : Str) (hs : s.length ≤ 9223372036854775807) : aes FU s = some (afj s) := by
  unfold aes afj
  rw [token_eq s hs, Option.bind_some]
  obtain ⟨r, hr⟩ := special_some (amr s)
  obtain ⟨b, hb⟩ := title_eq s hs
  cases ht : isTok s
  · rfl
  · rw [Bool.not_true, cond_false, Option.bind_some]
    by_cases h64 : 64 < s.length
    · rw [decide_eq_true (by omega), cond_true, if_pos (Or.inr h64)]
    · have hc : ¬ (true = false ∨ 64 < s.length) := by simp [h64]
      rw [decide_eq_false (by omega), cond_false, if_neg hc, lower_eq s hs, Option.bind_some, hr, Option.bind_some, Option.getD_some]
      have hrest : Sum.elim (fun (v90 : Unit) => ((ack FU s true).bind fun (y130 : (Str × Bool)) => some (y130.1, (0 : UInt8)))) (fun q => some q) r = some (Sum.elim (fun _ => (akz true s, 0)) id r) := by
        cases r with
        | inl _ => rw [Sum.elim_inl, hb]; rfl
        | inr _ => rfl
      by_cases h1 : s.length = 1
      · have h1i : (s.length : Int) = 1 := by omega
        rw [if_pos h1i, akt (by omega), lowerByte_eq, Option.bind_some, long_eq, Option.bind_some]
        by_cases h2 : longN (agm (at_ s 0)) = []
        · rw [if_pos h2, Option.bind_some, Sum.elim_inl, if_neg (fun h => h.2 h2)]
          exact hrest
        · rw [if_neg h2, Option.bind_some, Sum.elim_inr, if_pos ⟨h1, h2⟩]
      · have h1i : ¬ (s.length : Int) = 1 := by omega
        rw [if_neg h1i, Option.bind_some, Sum.elim_inl, if_neg (fun h => h1 h.1)]
        exact hrest
theorem kind_lp {fu : Nat} (c : Str) (hn : ∀ x ∈ afc, x.1 ≠ c) (n : Nat) : ∀ (k fk : Nat), k + n = 31 → n < fk → aem fu c fk (k : Int) = some (.inl ()) := by
  have h31 : afc.length = 31 := by decide +kernel
  induction n with
  | zero =>
    intro k fk hk hf
    obtain ⟨fk, rfl⟩ : ∃ m, fk = m + 1 := ⟨fk - 1, by omega⟩
    rw [aem, if_neg (by omega)]
  | succ n ih =>
    intro k fk hk hf
    obtain ⟨fk, rfl⟩ : ∃ m, fk = m + 1 := ⟨fk - 1, by omega⟩
    have he : (el afc (k : Int)).1 ≠ c := by
      have : el afc (k : Int) = afc[k]'(by omega) := by simp [el, show k < afc.length by omega]
      rw [this]; exact hn _ (List.getElem_mem _)
    rw [aem, if_pos (by omega), akt (by omega), akt (by omega), if_neg he, akt (ok_of _ (by omega) (by omega))]
    exact ih (k + 1) fk (by omega) (by omega)
theorem kind_not (c : Str) (hn : ∀ x ∈ afc, x.1 ≠ c) : ahn FU c = some 0 := by
  unfold ahn
  have := kind_lp (fu := FU) c hn 31 0 FU (by omega) (by rw [FU_eq]; omega)
  rw [show ((0 : Int)) = ((0 : Nat) : Int) from rfl, this]; rfl
def manyP (c : Str) : Bool := (afv FU c).getD false
theorem many_in : ∀ x ∈ afc, afv FU x.1 = some (manyP x.1) := by decide +kernel
theorem many_not (c : Str) (hn : ∀ x ∈ afc, x.1 ≠ c) : afv FU c = some false := by
  have hm : ∀ n : Str, (afc.any fun x => x.1 == n) = true → ¬ c = n := fun n h e => by
    obtain ⟨x, hx, e'⟩ := List.any_eq_true.1 h
    exact hn x hx ((eq_of_beq e').trans e.symm)
  unfold afv
  rw [if_neg (hm _ (by decide +kernel)), if_neg (hm _ (by decide +kernel)), if_neg (hm _ (by decide +kernel)), if_neg (hm _ (by decide +kernel)), if_neg (hm _ (by decide +kernel)), Option.bind_some, Sum.elim_inl, kind_not c hn]
  rfl
theorem many_eq (c : Str) : afv FU c = some (manyP c) := by
  by_cases h : ∃ x ∈ afc, x.1 = c
  · obtain ⟨x, hx, rfl⟩ := h
    exact many_in x hx
  · have := many_not c fun x hx e => h ⟨x, hx, e⟩
    rw [manyP, this]; rfl
theorem manyLaw_eq (s : Str) (hs : s.length ≤ 9223372036854775807) : ahv FU s = some (if (afj s).2 = 0 then manyP (afj s).1 else false) := by
  unfold ahv
  rw [canon_eq s hs, Option.bind_some]
  by_cases h : (afj s).2 = 0
  · rw [if_pos h, if_pos h, many_eq]; rfl
  · rw [if_neg h, if_neg h]; rfl
end Go.Wk
set_option linter.unusedVariables false
set_option linter.unusedSimpArgs false
set_option maxRecDepth 100000
namespace Go.Wk
open Go.Px
def otherL (s : Str) : Str := s.map akg
theorem tok_other : ∀ c : UInt8, aju (akg c) = aju c := ahd _ (by decide +kernel)
theorem low_other : ∀ c : UInt8, agm (akg c) = agm c := ahd _ (by decide +kernel)
theorem up_other : ∀ c : UInt8, upperB (akg c) = upperB c := ahd _ (by decide +kernel)
theorem other45 : ∀ c : UInt8, (akg c == 45) = (c == 45) := ahd _ (by decide +kernel)
theorem isTok_other (s : Str) : isTok (otherL s) = isTok s := by
  simp [isTok, otherL, List.all_map, Function.comp_def, tok_other]
theorem len_other (s : Str) : (otherL s).length = s.length := by simp [otherL]
theorem lowerL_other (s : Str) : amr (otherL s) = amr s := by
  simp [amr, otherL, Function.comp_def, low_other]
theorem title_other : ∀ (l : Str) (f : Bool), akz f (otherL l) = akz f l
  | [], _ => rfl
  | c :: l, f => by
    have := title_other l (c == 45)
    simp only [otherL, List.map_cons, akz, other45, up_other, low_other] at this ⊢
    rw [this]
theorem canonP_other (s : Str) : afj (otherL s) = afj s := by
  have h : (s.length = 1 ∧ longN (agm (at_ (otherL s) 0)) ≠ []) ↔ (s.length = 1 ∧ longN (agm (at_ s 0)) ≠ []) := by
    constructor
    · rintro ⟨h1, h2⟩
      match s, h1 with
      | [c], _ => exact ⟨rfl, fun e => h2 (by show longN (agm (akg c)) = []; rw [low_other]; exact e)⟩
    · rintro ⟨h1, h2⟩
      match s, h1 with
      | [c], _ => exact ⟨rfl, fun e => h2 (by have e' : longN (agm (akg c)) = [] := e; rw [low_other] at e'; exact e')⟩
  unfold afj
  rw [isTok_other, len_other, lowerL_other, title_other]
  by_cases h0 : isTok s = false ∨ 64 < s.length
  · rw [if_pos h0, if_pos h0]
  · rw [if_neg h0, if_neg h0]
    by_cases h1 : s.length = 1 ∧ longN (agm (at_ s 0)) ≠ []
    · rw [if_pos h1, if_pos (h.2 h1)]
      match s, h1.1 with
      | [c], _ => exact congrArg (fun x => (longN x, (0 : UInt8))) (low_other c)
    · rw [if_neg h1, if_neg (fun x => h1 (h.1 x))]
theorem canonP_long : ∀ c : UInt8, longN c ≠ [] → afj (longN c) = (longN c, 0) := ahd _ (by decide +kernel)
theorem canonP_special : ∀ n ∈ afh, afj n = (n, 0) := by decide +kernel
theorem specialO_inr (y : Str) : ∀ (l : List Str) {q}, specialO l y = some (.inr q) → q.1 ∈ l ∧ q.2 = 0
  | [], q, h => by cases h
  | n :: l, q, h => by
    unfold specialO at h
    split at h
    · cases h; exact ⟨List.mem_cons_self, rfl⟩
    · have := specialO_inr y l h
      exact ⟨List.mem_cons_of_mem _ this.1, this.2⟩
theorem tok_up : ∀ c : UInt8, aju (upperB c) = aju c := ahd _ (by decide +kernel)
theorem tok_low : ∀ c : UInt8, aju (agm c) = aju c := ahd _ (by decide +kernel)
theorem upper45 : ∀ c : UInt8, (upperB c == 45) = (c == 45) := ahd _ (by decide +kernel)
theorem upup : ∀ c : UInt8, upperB (upperB c) = upperB c := ahd _ (by decide +kernel)
theorem lowlow : ∀ c : UInt8, agm (agm c) = agm c := ahd _ (by decide +kernel)
theorem lowup : ∀ c : UInt8, agm (upperB c) = agm c := ahd _ (by decide +kernel)
theorem title_len : ∀ (l : Str) (f : Bool), (akz f l).length = l.length
  | [], _ => rfl
  | c :: l, f => by rw [akz, List.length_cons, List.length_cons, title_len l]
theorem title_all : ∀ (l : Str) (f : Bool), (akz f l).all aju = l.all aju
  | [], _ => rfl
  | c :: l, f => by
    rw [akz, List.all_cons, List.all_cons, title_all l]
    cases f
    · rw [if_neg (by decide), tok_low]
    · rw [if_pos rfl, tok_up]
theorem title_lower : ∀ (l : Str) (f : Bool), amr (akz f l) = amr l
  | [], _ => rfl
  | c :: l, f => by
    have := title_lower l (c == 45)
    simp only [amr] at this ⊢
    rw [akz, List.map_cons, List.map_cons, this]
    cases f
    · rw [if_neg (by decide), lowlow]
    · rw [if_pos rfl, lowup]
theorem title_title : ∀ (l : Str) (f : Bool), akz f (akz f l) = akz f l
  | [], _ => rfl
  | c :: l, f => by
    have := title_title l (c == 45)
    cases f
    · simp only [akz, if_neg (show ¬ (false = true) by decide), lowlow, low45, this]
    · simp only [akz, if_true, upup, upper45, this]
theorem isTok_title (l : Str) (f : Bool) : isTok (akz f l) = isTok l := by
  unfold isTok
  rw [title_all]
  cases l <;> rfl
theorem canonP_canon (s : Str) (h : (afj s).2 = 0) : afj (afj s).1 = ((afj s).1, 0) := by
  by_cases h0 : isTok s = false ∨ 64 < s.length
  · have e : afj s = ([], 5) := by unfold afj; rw [if_pos h0]
    rw [e] at h; exact absurd h (by decide)
  · by_cases h1 : s.length = 1 ∧ longN (agm (at_ s 0)) ≠ []
    · have e : afj s = (longN (agm (at_ s 0)), 0) := by unfold afj; rw [if_neg h0, if_pos h1]
      rw [e]; exact canonP_long _ h1.2
    · have e : afj s = ((adu FU (amr s) FU 0).getD (.inl ())).elim (fun _ => (akz true s, 0)) id := by unfold afj; rw [if_neg h0, if_neg h1]
      obtain ⟨r, hr⟩ := aly (amr s) afh
      rw [amq, hr, Option.getD_some] at e
      cases r with
      | inr q =>
        have hq := specialO_inr _ _ hr
        have e' : afj s = q := e
        rw [e', canonP_special q.1 hq.1]
      | inl u =>
        have e' : afj s = (akz true s, 0) := e
        rw [e']
        have g0 : ¬ (isTok (akz true s) = false ∨ 64 < (akz true s).length) := by rw [isTok_title, title_len]; exact h0
        have g1 : ¬ ((akz true s).length = 1 ∧ longN (agm (at_ (akz true s) 0)) ≠ []) := by
          rintro ⟨a, b⟩
          rw [title_len] at a
          match s, a with
          | [c], _ => exact h1 ⟨rfl, fun x => b (by show longN (agm (upperB c)) = []; rw [lowup]; exact x)⟩
        unfold afj
        rw [if_neg g0, if_neg g1, title_lower, title_title, amq, hr]
        rfl
theorem canonP_bad (s : Str) (h : (afj s).2 ≠ 0) : afj s = ([], 5) := by
  by_cases h0 : isTok s = false ∨ 64 < s.length
  · unfold afj; rw [if_pos h0]
  · exfalso; apply h
    by_cases h1 : s.length = 1 ∧ longN (agm (at_ s 0)) ≠ []
    · unfold afj; rw [if_neg h0, if_pos h1]
    · have e : afj s = ((adu FU (amr s) FU 0).getD (.inl ())).elim (fun _ => (akz true s, 0)) id := by unfold afj; rw [if_neg h0, if_neg h1]
      obtain ⟨r, hr⟩ := aly (amr s) afh
      rw [amq, hr, Option.getD_some] at e
      rw [e]
      cases r with
      | inr q => exact (specialO_inr _ _ hr).2
      | inl u => rfl
end Go.Wk
set_option maxRecDepth 100000
namespace Go.Wk
open Go.Px
theorem otherB_a (c : UInt8) (h1 : 97 ≤ c) (h2 : c ≤ 122) : c - 32 = akg c := by simp [akg, h1, h2]
theorem otherB_b (c : UInt8) (h : ¬ (97 ≤ c ∧ c ≤ 122)) (h1 : 65 ≤ c) (h2 : c ≤ 90) : c + 32 = akg c := by simp only [akg, if_neg h, if_pos (And.intro h1 h2)]
theorem otherB_c (c : UInt8) (h : ¬ (97 ≤ c ∧ c ≤ 122)) (h1 : ¬ (65 ≤ c ∧ c ≤ 90)) : akg c = c := by simp only [akg, if_neg h, if_neg h1]
theorem other_lp {fu : Nat} (s : Str) (hs : s.length ≤ 9223372036854775807) (l : Str) : ∀ (p : Str) (fk : Nat), p.length + l.length = s.length → l.length < fk →
    adf fu s fk (p ++ l) (p.length : Int) = some (p ++ l.map akg) := by
  induction l with
  | nil =>
    intro p fk hk hf
    obtain ⟨fk, rfl⟩ : ∃ m, fk = m + 1 := ⟨fk - 1, by omega⟩
    simp only [List.length_nil] at hk
    rw [adf, if_neg (by omega)]; rfl
  | cons c l ih0 =>
    intro p fk hk hf
    obtain ⟨fk, rfl⟩ : ∃ m, fk = m + 1 := ⟨fk - 1, by omega⟩
    simp only [List.length_cons] at hk hf
    have hb := mid_lt p c l
    have ih := ih0 (p ++ [akg c]) fk (by rw [List.length_append, List.length_singleton]; omega) (by omega)
    rw [← len_snoc p (akg c)] at ih
    have ok : acl ((p.length : Int) + 1) := ok_of _ (by omega) (by omega)
    have fin : some (p ++ [akg c] ++ l.map akg) = some (p ++ (c :: l).map akg) := by simp
    rw [adf, if_pos (by omega)]
    simp only [akt hb, at_mid, akt ok, set_mid]
    have lo : ¬ (97 ≤ c ∧ c ≤ 122) → (Option.bind (if 65 ≤ c then some (decide (c ≤ 90)) else some false) fun v => bif v then adf fu s fk (p ++ [c + 32] ++ l) ((p.length : Int) + 1) else adf fu s fk (p ++ c :: l) ((p.length : Int) + 1)) = some (p ++ (c :: l).map akg) := by
      intro h
      by_cases h1 : 65 ≤ c
      · by_cases h2 : c ≤ 90
        · rw [if_pos h1, decide_eq_true h2, Option.bind_some, cond_true, otherB_b c h h1 h2, ih, fin]
        · have e := otherB_c c h (fun x => h2 x.2)
          rw [e, List.append_assoc, List.singleton_append] at ih
          rw [if_pos h1, decide_eq_false h2, Option.bind_some, cond_false, ih, ← fin, e]
      · have e := otherB_c c h (fun x => h1 x.1)
        rw [e, List.append_assoc, List.singleton_append] at ih
        rw [if_neg h1, Option.bind_some, cond_false, ih, ← fin, e]
    by_cases h1 : 97 ≤ c
    · by_cases h2 : c ≤ 122
      · rw [if_pos h1, decide_eq_true h2, Option.bind_some, cond_true, otherB_a c h1 h2, ih, fin]
      · rw [if_pos h1, decide_eq_false h2, Option.bind_some, cond_false]
        exact lo fun x => h2 x.2
    · rw [if_neg h1, Option.bind_some, cond_false]
      exact lo fun x => h1 x.1
theorem other_eq (s : Str) (hs : s.length ≤ 9223372036854775807) : ajf FU s = some (otherL s) := by
  unfold ajf
  have := other_lp (fu := FU) s hs s [] FU (by simp) (by rw [FU_eq]; omega)
  simp only [List.nil_append, List.length_nil, Int.natCast_zero, Int.cast_ofNat_Int] at this
  rw [this]; rfl
theorem awake_true : akn FU = some true := by kernel_rfl
theorem canonP_short (s : Str) (h : (afj s).2 = 0) : (afj s).1.length ≤ 64 := by
  have e := canonP_canon s h
  by_cases h6 : 64 < (afj s).1.length
  · have e2 : afj (afj s).1 = ([], 5) := by rw [afj, if_pos (Or.inr h6)]
    rw [e2] at e
    exact absurd (congrArg Prod.snd e) (show ¬ ((5 : UInt8) = 0) by decide)
  · omega
theorem plain_HeaderCanon (s : Str) (hs : s.length ≤ 9223372036854775807) : ahu FU s = some true := by
  have ho : (otherL s).length ≤ 9223372036854775807 := by rw [len_other]; exact hs
  unfold ahu
  rw [canon_eq s hs, Option.bind_some, other_eq s hs, Option.bind_some, canon_eq _ ho, Option.bind_some, canonP_other, if_pos rfl, if_pos rfl, manyLaw_eq s hs, Option.bind_some, Option.bind_some, manyLaw_eq _ ho, canonP_other, Option.bind_some, beq_self_eq_true, Bool.not_true, Option.bind_some, cond_false]
  by_cases h : (afj s).2 = 0
  · have hl := canonP_short s h
    rw [if_pos h, canon_eq _ (by omega), Option.bind_some, canonP_canon s h, if_pos rfl, if_pos rfl, awake_true]
    rfl
  · have e := canonP_bad s h
    rw [if_neg h, if_neg h, e, if_pos rfl, if_pos rfl, Option.bind_some, Bool.not_false, cond_true, awake_true]
    rfl
end Go.Wk
set_option linter.unusedVariables false
set_option maxRecDepth 100000
namespace Go.Proofs.YtbfppjfgcjpknaaGreatDoor.headerCanon
open Go.ChangeShapes Go.WideShapes Go.ChangeAt Go.ChangeMaps Go.RowKit Go.Wk
theorem contract (H : Type) (enc : TypeId × Value → H) (W : World) (base : Nat) (args : Array Value) (ds gs : List (DataW H)) (before : List MemPlace)
    (hval : ∀ (j : Nat) t v, Tryz.f10.params[j]? = some t → args[j]? = some v → Value.okWide Tryz.prog W .any base t v)
    (hW : DataW.Whole enc Tryz.prog Tryz.f10.params.toList Rows.headerCanonSpec.vars false W args.toList ds gs before) (hL : laidMetH Tryz.prog Rows.headerCanonRow.laid W) (hsh : W.ShapedOpen Tryz.prog) :
    Calls Tryz.prog 10 args W fun e W' => ∃ v, e = .returned v ∧ Rows.headerCanonSpec.post enc Tryz.prog Tryz.f10 false true false false W args v W' := by
  have hW' := hW
  obtain ⟨p, q, hA0, hV, rfl, hfz, hnd⟩ := hW
  have hA : DataW.TrodAll enc Tryz.prog W 0 (fun _ => true) true Tryz.f10.params.toList args.toList ds p := hA0
  rw [Tryz.params10] at hA hval
  obtain ⟨v0, vs0, d0, ds0, p0, q0, hargs, rfl, rfl, h0, r0⟩ := trodAll_cons hA
  obtain ⟨rfl, rfl, rfl⟩ := trodAll_nil r0
  obtain rfl : args = #[v0] := by cases args; simp_all
  obtain ⟨rfl, rfl⟩ := trodVars_none hV
  obtain ⟨s0, rfl, rfl, rfl, hs0⟩ := open_string Tryz.underlying9 (hval 0 9 v0 rfl rfl) h0
  clear hA0
  simp only [List.append_nil] at hW'
  have hr := plain_HeaderCanon s0.data.toList (lenOf hs0)
  have hgs : 9 ≤ W.heap.size := heapSize hsh (of_decide_eq_true (by kernel_rfl)) (by kernel_rfl)
  have walk := K_L_law03_HeaderCanon hr (glOf hL hsh hgs)
  refine Calls.mono walk ?_
  rintro e W' ⟨v, rfl, rfl, hH⟩
  exact ⟨_, rfl, postOf (pa := []) (pv := []) hW' (fun _ _ _ => trodAll_cons_mk (shut_bool Tryz.underlying4 _) trodAll_mk0) (fun _ _ => trodAll_cons_mk (shut_string Tryz.underlying9 hs0) (trodAll_mk0)) (fun _ _ => rfl) (hH.toBelow.frame _)⟩
theorem laid_met (os : Os) : laidMet Tryz.prog Rows.headerCanonRow.laid ((laidWorld os).forCall (fun _ _ => 0) ⟨#[], #[.string ⟨#[]⟩], []⟩).memory :=
  laidMet_of_run' 8 (by kernel_rfl) (by kernel_rfl)
theorem reads (os : Os) {H : Type} (enc : TypeId × Value → H) : ∃ places, DataW.whole enc Tryz.prog ((laidWorld os).forCall (fun _ _ => 0) ⟨#[], #[.string ⟨#[]⟩], []⟩).memory Tryz.f10.params.toList Rows.headerCanonSpec.vars false (#[.string ⟨#[]⟩] : Array Value).toList 8 = some ([.lit (.string [])], [], places) :=
  ⟨[], by kernel_rfl⟩
theorem lifted (os : Os) (started : os.Started) (H : Type) (enc : TypeId × Value → H) (F : Stop.Interp) :
    ReturnsInHanded {} Tryz.checked os 10 .any ((OpenSpec.ofChange Rows.headerCanonSpec).preRow enc Tryz.prog Tryz.f10 Rows.headerCanonRow.domain false Rows.headerCanonRow.laid) (((OpenSpec.ofChange Rows.headerCanonSpec).at F).post enc Tryz.prog Tryz.f10 false true false false) := by
  obtain ⟨places, hx⟩ := reads os enc
  refine returnsInHanded_of_row (C := Tryz.checked) (s := OpenSpec.ofChange Rows.headerCanonSpec) own started (by kernel_rfl) Tryz.func10
    (witness_row_at (enc := enc) (C := Tryz.checked) false (laidWorld os) #[.string ⟨#[]⟩] rfl (by kernel_rfl) (by kernel_rfl) (by kernel_rfl)
      (OpenSpec.preRow_of_cond 8 hx (by kernel_rfl) (fun k hk => by cases hk) (by kernel_rfl) (laid_met os))) ?_
  intro W base args ds gs before hval hW _ hcond _ hL hsh _
  exact contract H enc W base args ds gs before hval hW hL hsh
theorem fact1 : (Rows.headerCanonRow.inPlace == Tryz.prog.inPlace 10) = true := by kernel_rfl
theorem fact2 : (Rows.headerCanonRow.unfollowed == Tryz.prog.unfollowed 10) = true := by kernel_rfl
theorem fact3 : (Rows.headerCanonRow.recurses == Tryz.prog.recurses 10) = true := by kernel_rfl
theorem fact4 : (Rows.headerCanonRow.named == Tryz.prog.varsNamed 10) = true := by kernel_rfl
theorem fact5 : laidOutB Tryz.prog = true := by kernel_rfl
theorem fact6 : mapsRowed Tryz.prog = true := by kernel_rfl
theorem facts : joinedFacts Tryz.prog 10 Tryz.f10 (OpenSpec.ofChange Rows.headerCanonSpec).bare Rows.headerCanonRow = true := by
  unfold joinedFacts
  rw [fact1, fact2, fact3, fact4, fact5, fact6]
  kernel_rfl
theorem said : Rows.HeaderCanonSaid :=
  OpenClaim.holds_of_cond 10 Tryz.f10 rfl rfl rfl rfl rfl rfl rfl ⟨rfl, rfl, rfl, rfl, rfl⟩ rfl rfl rfl rfl rfl (by kernel_rfl) Tryz.func10 facts
    (of_decide_eq_true (by kernel_rfl)) (by unfold Func.isWrapper; first | (rw [if_pos (by decide +kernel)]; kernel_rfl) | (rw [if_neg (by decide +kernel)]; exact ⟨rfl, rfl⟩))
    (fun os started H enc _ F => by rw [OpenClaim.pre_eq_preRow]; exact lifted os started H enc F)
theorem plain (f : FuncId) (fn : Func) (hf : Tryz.pinned.checked.prog.funcNamed "dialtone/dialtonelaw03.HeaderCanon" = some f) (hfn : Tryz.pinned.checked.prog.funcs[f]? = some fn) :
    false = Tryz.pinned.checked.prog.looks [] ∧ ∀ (j : Nat) t, fn.params[j]? = some t → Tryz.pinned.checked.prog.wantsStandIn t = false := by
  obtain rfl : f = 10 := Option.some.inj ((show Tryz.prog.funcNamed "dialtone/dialtonelaw03.HeaderCanon" = some 10 by kernel_rfl).symm.trans hf) |>.symm
  obtain rfl : fn = Tryz.f10 := (Option.some.inj (Tryz.func10.symm.trans hfn)).symm
  refine ⟨by kernel_rfl, fun j t ht => ?_⟩
  rw [Tryz.params10] at ht
  have hm := Array.mem_of_getElem? ht
  simp only [List.mem_toArray, List.mem_cons, List.not_mem_nil, or_false, or_self] at hm
  subst hm
  exact (show Tryz.prog.wantsStandIn 9 = false by kernel_rfl)
theorem card : Rows.HeaderCanonCardSaid :=
  Claim7.holds_tied_plain_at .later [] _ _ _ _ said (fun _ h => by cases h) (by kernel_rfl) (fun _ h => by cases h) headerCanon_row_tie rfl ⟨rfl, rfl⟩ (by kernel_rfl) rfl plain (by kernel_rfl)
end Go.Proofs.YtbfppjfgcjpknaaGreatDoor.headerCanon
