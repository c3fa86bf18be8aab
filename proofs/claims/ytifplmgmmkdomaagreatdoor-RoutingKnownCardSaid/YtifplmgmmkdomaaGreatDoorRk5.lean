/-
  The law RoutingKnown (part 5 of 8).
-/
import Derived.Test.YtifplmgmmkdomaaGreatDoorRk4
import Derived.Test.YtifplmgmmkdomaaGreatDoorRows
import Derived.ProofKit
import Derived.OpenShut
import Derived.Deep.DeepHandedRow
import Derived.Lib.LaidTab
import Derived.Shelf.Vars
import Derived.ChangeSame
import Derived.WalkKit
import Derived.SevenTiedAt
set_option linter.unusedVariables false
set_option linter.unusedSimpArgs false
set_option maxRecDepth 20000
namespace Go.Proofs
open Go.Wk Go.Px Go.RowKit
theorem lenOf {s : ByteArray} (h : s.size ≤ maxLen) : s.data.toList.length ≤ 9223372036854775807 := Nat.le_trans (by rw [Array.length_toList]; exact h) (show maxLen ≤ 9223372036854775807 by decide)
theorem laidAt {P : Program} {w : World} : ∀ {l : List (String × DataW Unit)} {ps : List MemPlace}, DataW.LaidVars P w l ps → ∀ (i : Nat) {n : String} {d : DataW Unit}, l[i]? = some (n, d) →
    ∃ g t cs fuel p, P.globalNamed n = some g ∧ (P.globals[g]?).map (·.type) = some t ∧ w.var? P n = some cs ∧ DataW.trod (fun _ => ()) P w 0 (fun _ => true) false fuel t cs.toList = some (d, p)
  | [], _, _, i, n, d, hi => by simp at hi
  | (n', d') :: l, ps, h, 0, n, d, hi => by
    obtain ⟨g, t, cs, fuel, p, q, h1, h2, h3, h4, _, _⟩ := h
    simp only [List.getElem?_cons_zero, Option.some.injEq, Prod.mk.injEq] at hi
    obtain ⟨rfl, rfl⟩ := hi
    exact ⟨g, t, cs, fuel, p, h1, h2, h3, h4⟩
  | (n', d') :: l, ps, h, i + 1, n, d, hi => by
    obtain ⟨g, t, cs, fuel, p, q, _, _, _, _, h5, _⟩ := h
    exact laidAt h5 i (by simpa using hi)
theorem vrOf {P : Program} {w : World} {n : String} {g : Nat} {cs : Array Value} (hg : P.globalNamed n = some g) (h : w.var? P n = some cs) : Vr w g cs.toList := by
  simp only [World.var?, hg, Option.bind_some] at h
  split at h
  · rename_i cs' t f e
    cases h
    exact ⟨t, f, by rw [e]⟩
  · cases h
theorem chunks {α : Type} {f : α → List Value} {sz : Nat} : ∀ (zs : List α) (cs : List Value), cs.length = zs.length * sz → (∀ (i : Nat) (z : α), zs[i]? = some z → (cs.drop (i * sz)).take sz = f z) → cs = zs.flatMap f
  | [], cs, hl, _ => by simpa using hl
  | z :: zs, cs, hl, h => by
    have h0 := h 0 z rfl
    simp only [Nat.zero_mul, List.drop_zero] at h0
    have h1 := chunks (f := f) (sz := sz) zs (cs.drop sz) (by rw [List.length_drop, hl, List.length_cons, Nat.succ_mul]; omega) (fun i z' hi => by
      have := h (i + 1) z' (by simpa using hi)
      rw [List.drop_drop, Nat.add_comm, ← Nat.succ_mul]
      exact this)
    rw [List.flatMap_cons, ← h0, ← h1, List.take_append_drop]
theorem arrCells {P : Program} {w : World} {fuel n sz : Nat} {t e : TypeId} {cs : List Value} {p : List MemPlace} {α : Type} {dz : α → DataW Unit} {f : α → List Value} (zs : List α)
    (ht : P.underlying t = some (.array n e)) (hce : P.cellsOf e = sz) (hct : P.cellsOf t = n * sz) (hz : zs.length = n)
    (hel : ∀ fuel cs' z p, DataW.trod (fun _ => ()) P w 0 (fun _ => true) false fuel e cs' = some (dz z, p) → cs' = f z)
    (h : DataW.trod (fun _ => ()) P w 0 (fun _ => true) false fuel t cs = some (.agg (zs.map dz), p)) : cs = zs.flatMap f := by
  cases fuel with
  | zero => simp [DataW.trod] at h
  | succ fuel =>
    simp only [DataW.trod, ht, hce, hct] at h
    split at h
    · rename_i hl
      obtain ⟨xs, hm, hx⟩ := Option.map_eq_some_iff.1 h
      have hxs : xs.map (·.1) = zs.map dz := by
        have := congrArg Prod.fst hx
        simpa using this
      refine chunks zs cs (by rw [hl, hz]) fun i z hi => ?_
      have hi' : i < n := by rw [← hz]; exact (List.getElem?_eq_some_iff.1 hi).1
      obtain ⟨b, hb, hf⟩ := Lib.mapM_at hm i i (by simp [hi'])
      have hb1 : b.1 = dz z := by
        have e1 : (xs.map (·.1))[i]? = some b.1 := by simp [hb]
        rw [hxs] at e1
        simp only [List.getElem?_map, hi, Option.map_some, Option.some.injEq] at e1
        exact e1.symm
      exact hel fuel _ z b.2 (by rw [hf, ← hb1])
    · cases h
theorem strCell {P : Program} {w : World} {fuel : Nat} {e : TypeId} {cs : List Value} {p : List MemPlace} (he : P.underlying e = some .string) (z : List UInt8)
    (h : DataW.trod (fun _ => ()) P w 0 (fun _ => true) false fuel e cs = some (.lit (.string z), p)) : cs = eS z := by
  obtain ⟨s, rfl, hx, _⟩ := DataW.trod_string he h
  simp only [Prod.mk.injEq, DataW.lit.injEq, Lit.string.injEq] at hx
  obtain ⟨rfl, _⟩ := hx
  rfl
theorem intCell {P : Program} {w : World} {fuel : Nat} {e : TypeId} {k : IntKind} {cs : List Value} {p : List MemPlace} (he : P.underlying e = some (.int k)) (z : Int)
    (h : DataW.trod (fun _ => ()) P w 0 (fun _ => true) false fuel e cs = some (.lit (.int k z), p)) : cs = [.int k z] := by
  obtain ⟨n, rfl, hx, _⟩ := DataW.trod_int he h
  simp only [Prod.mk.injEq, DataW.lit.injEq, Lit.int.injEq] at hx
  obtain ⟨⟨_, rfl⟩, _⟩ := hx
  rfl
theorem pairCell {P : Program} {w : World} {fuel : Nat} {e a b : TypeId} {f0 f1 : Field} {k : IntKind} {cs : List Value} {p : List MemPlace} (he : P.underlying e = some (.struct #[f0, f1])) (ha : P.underlying a = some .string) (hb : P.underlying b = some (.int k))
    (h0 : (f0.type, f0.offset, f1.type, f1.offset) = (a, 0, b, 1)) (hca : P.cellsOf a = 1) (hcb : P.cellsOf b = 1) (hc : P.cellsOf e = 2) (z : List UInt8 × Int)
    (h : DataW.trod (fun _ => ()) P w 0 (fun _ => true) false fuel e cs = some (.agg [.lit (.string z.1), .lit (.int k z.2)], p)) : cs = [str z.1, .int k z.2] := by
  obtain ⟨z1, z2⟩ := z
  simp only [Prod.mk.injEq] at h0
  obtain ⟨t0, o0, t1, o1⟩ := h0
  cases fuel with
  | zero => simp [DataW.trod] at h
  | succ fuel =>
    simp only [DataW.trod, he, hc] at h
    split at h
    · rename_i hl
      obtain ⟨xs, hm, hx⟩ := Option.map_eq_some_iff.1 h
      simp only [List.mapM_cons, List.mapM_nil, Option.bind_eq_bind, Option.bind_eq_some_iff, Option.pure_def, Option.some.injEq, t0, t1, o0, o1, hca, hcb, List.drop_zero] at hm
      obtain ⟨x0, hx0, r0, ⟨x1, hx1, r1, rfl, rfl⟩, rfl⟩ := hm
      simp only [List.map_cons, List.map_nil, Prod.mk.injEq, DataW.agg.injEq, List.cons.injEq, and_true] at hx
      obtain ⟨⟨e0, e1⟩, _⟩ := hx
      have g0 := strCell ha z1 (p := x0.2) (by rw [hx0, ← e0])
      have g1 := intCell hb z2 (p := x1.2) (by rw [hx1, ← e1])
      match cs, hl, g0, g1 with
      | [u, v], _, g0, g1 =>
        simp only [List.take_succ_cons, List.take_zero, List.drop_succ_cons, List.drop_zero, eS, List.cons.injEq, and_true] at g0 g1
        rw [g0, g1]
    · cases h
theorem intVar {P : Program} {w : World} {g : Nat} {t : TypeId} {zero : Array Value} {k : IntKind} (h : w.ShapedOpen P) (hg : g < P.globals.size)
    (h0 : ((begin P (fun _ _ => 0) default).world.heap[g]?).bind Obj.row? = some (zero, t)) (hz : zero.size = 1)
    (hb : P.buildable t = true) (hc : P.cellTypes P.depth t = some [t]) (hu : P.underlying t = some (.int k)) : ∃ m, Vr w g [.int k m] := by
  obtain ⟨m, hm⟩ := cell_of_shapedOpen_int h hg h0 hz hb hc hu
  obtain ⟨cs, hh, hs, _⟩ := h.1 g zero t hg h0
  refine ⟨m, t, (0, 0), ?_⟩
  rw [hh]
  have h1 : cs.size = 1 := by omega
  have h2 : cs[0]? = some (.int k m) := by
    have : w.cell? ⟨g, 0, none⟩ = cs[0]? := by simp [World.cell?, hh]
    rw [← this]; exact hm
  have e : cs = [Value.int k m].toArray := by
    apply Array.ext
    · simp [h1]
    · intro i hi hi'
      have : i = 0 := by omega
      subst this
      simpa [hi] using h2
  rw [e]
theorem heapSize {P : Program} {w : World} {g : Nat} (h : w.ShapedOpen P) (hg : g < P.globals.size) (h0 : (((begin P (fun _ _ => 0) default).world.heap[g]?).bind Obj.row?).isSome = true) : g + 1 ≤ w.heap.size := by
  obtain ⟨⟨zero, t⟩, h1⟩ := Option.isSome_iff_exists.1 h0
  obtain ⟨cs, hh, _⟩ := h.1 g zero t hg h1
  exact (Array.getElem?_eq_some_iff.1 hh).1
theorem laidOf {P : Program} {l : List (String × DataW Unit)} {w : World} (h : laidMetH P l w) (hn : (l.filter fun x => x.2.handleName?.isSome) = []) : ∃ ps, DataW.LaidVars P w l ps := by
  unfold laidMetH at h
  rw [hn] at h
  obtain ⟨ps, h1, _⟩ := h
  exact ⟨ps, h1⟩
theorem postOf {H : Type} {enc : TypeId × Value → H} {P : Program} {f : Func} {s : ChangeSpec} {apart fresh handsOn : Bool} {W W' : World} {args : Array Value} {v : Value} {ds gs : List (DataW H)} {before pa pv : List MemPlace}
    (hW : DataW.Whole enc P f.params.toList s.vars apart W args.toList ds gs before)
    (hres : ∀ (b : Nat) (sp : Nat → Bool) (hd : Bool), DataW.TrodAll enc P W' b sp hd f.resultTypes.toList (v.resultList f.resultTypes.size) (s.fn H (ds ++ gs)).results [])
    (hargs : ∀ sp : Nat → Bool, (∀ p ∈ before, sp p.block = true) → DataW.TrodAll enc P W' 0 sp true f.params.toList args.toList (s.fn H (ds ++ gs)).args pa)
    (hvars : ∀ sp : Nat → Bool, (∀ p ∈ before, sp p.block = true) → DataW.TrodVars enc P W' sp s.vars (s.fn H (ds ++ gs)).vars pv)
    (hk : W.keptBut W' (fun p => p ∈ before ∧ (p ∈ ([] : List MemPlace) ∨ p ∈ pa ∨ p ∈ pv))) : s.post enc P f apart fresh handsOn false W args v W' := by
  have hold : ∀ p ∈ before, (fun b => decide (b < W.heap.size)) p.block = true := fun p hp => by simpa using hW.lt p hp
  exact ⟨ds, gs, before, [], pa, pv, hW, hres _ _ _, hargs _ hold, hvars _ hold, hk, fun h => by cases h⟩
end Go.Proofs
set_option linter.unusedVariables false
set_option maxRecDepth 100000
namespace Go.Proofs
open Go.Wk Go.Px Go.RowKit
theorem glOf {W : World} (hL : laidMetH Tryz.prog YtifplmgmmkdomaaGreatDoor.Rows.routingKnownRow.laid W) (hsh : W.ShapedOpen Tryz.prog) (hs : 12 ≤ W.heap.size) : Gl W := by
  obtain ⟨ps, h⟩ := laidOf hL krf
  have v0 : Vr W 0 (List.flatMap eS gl_specials) := by
    obtain ⟨g, t, cs, fuel, p, h1, h2, h3, h4⟩ := laidAt h 8 rfl
    obtain rfl := Option.some.inj ((show Tryz.prog.globalNamed "dialtone/header.specials" = some 0 by kernel_rfl).symm.trans h1)
    obtain rfl := Option.some.inj ((show (Tryz.prog.globals[0]?).map (·.type) = some 174 by kernel_rfl).symm.trans h2)
    have e := arrCells (dz := fun s => .lit (.string s)) (f := eS) gl_specials Tryz.underlying174 (show Tryz.prog.cellsOf 9 = 1 by kernel_rfl) krf rfl (fun _ _ z _ h => strCell Tryz.underlying9 z h) h4
    have := vrOf h1 h3
    rw [e] at this
    exact this
  have v5 : Vr W 5 (List.flatMap enamekind gl_kinds) := by
    obtain ⟨g, t, cs, fuel, p, h1, h2, h3, h4⟩ := laidAt h 9 rfl
    obtain rfl := Option.some.inj ((show Tryz.prog.globalNamed "dialtone/header.kinds" = some 5 by kernel_rfl).symm.trans h1)
    obtain rfl := Option.some.inj ((show (Tryz.prog.globals[5]?).map (·.type) = some 324 by kernel_rfl).symm.trans h2)
    have e := arrCells (dz := fun z => .agg [.lit (.string z.1), .lit (.int .i64 z.2)]) (f := enamekind) gl_kinds Tryz.underlying324 (show Tryz.prog.cellsOf 323 = 2 by kernel_rfl) krf rfl (fun _ _ z _ h => pairCell Tryz.underlying323 Tryz.underlying9 Tryz.underlying266 rfl krf krf krf z h) h4
    have := vrOf h1 h3
    rw [e] at this
    exact this
  have v2 : Vr W 2 (List.flatMap eS gl_classes) := by
    obtain ⟨g, t, cs, fuel, p, h1, h2, h3, h4⟩ := laidAt h 7 rfl
    obtain rfl := Option.some.inj ((show Tryz.prog.globalNamed "dialtone/address.classes" = some 2 by kernel_rfl).symm.trans h1)
    obtain rfl := Option.some.inj ((show (Tryz.prog.globals[2]?).map (·.type) = some 309 by kernel_rfl).symm.trans h2)
    have e := arrCells (dz := fun s => .lit (.string s)) (f := eS) gl_classes Tryz.underlying309 (show Tryz.prog.cellsOf 9 = 1 by kernel_rfl) krf rfl (fun _ _ z _ h => strCell Tryz.underlying9 z h) h4
    have := vrOf h1 h3
    rw [e] at this
    exact this
  have v9 : Vr W 9 (List.flatMap (eI .u32) gl_rounds) := by
    obtain ⟨g, t, cs, fuel, p, h1, h2, h3, h4⟩ := laidAt h 2 rfl
    obtain rfl := Option.some.inj ((show Tryz.prog.globalNamed "dialtone/hash.constants" = some 9 by kernel_rfl).symm.trans h1)
    obtain rfl := Option.some.inj ((show (Tryz.prog.globals[9]?).map (·.type) = some 372 by kernel_rfl).symm.trans h2)
    have e := Lib.cells_of_tab (zs := gl_rounds) (k := .u32) Tryz.underlying372 Tryz.underlying332 krf krf h4
    have := vrOf h1 h3
    rw [e] at this
    rw [show List.flatMap (eI .u32) gl_rounds = gl_rounds.map (fun z => Value.int .u32 z) from List.map_eq_flatMap.symm]
    exact this
  have v6 : Vr W 6 (Lib.pow10Tab.map fun z => Value.int .u64 z) := by
    obtain ⟨g, t, cs, fuel, p, h1, h2, h3, h4⟩ := laidAt h 3 rfl
    obtain rfl := Option.some.inj ((show Tryz.prog.globalNamed "internal/strconv.uint64pow10" = some 6 by kernel_rfl).symm.trans h1)
    obtain rfl := Option.some.inj ((show (Tryz.prog.globals[6]?).map (·.type) = some 342 by kernel_rfl).symm.trans h2)
    have e := Lib.cells_of_tab (zs := Lib.pow10Tab) (k := .u64) Tryz.underlying342 Tryz.underlying288 krf krf h4
    have := vrOf h1 h3
    rw [e] at this
    exact this
  have v1 : ∃ m, Vr W 1 [.int .i64 m] := intVar (zero := #[.int .i64 0]) (t := 3) hsh (of_decide_eq_true krf) krf rfl krf krf Tryz.underlying3
  exact { gs := hs, specials := v0, kinds := v5, classes := v2, rounds := v9, pow10 := v6, maxlen := v1 }
noncomputable def low : Nat := (World.holding Tryz.prog default ⟨#[], #[], []⟩).heap.size
noncomputable def laidCells (g : Nat) (o : Obj) : Obj :=
  match o with
  | .cells c t fz => .cells (match g with
    | 10 => #[.int .u8 0, .int .u8 1, .int .u8 28, .int .u8 2, .int .u8 29, .int .u8 14, .int .u8 24, .int .u8 3, .int .u8 30, .int .u8 22, .int .u8 20, .int .u8 15, .int .u8 25, .int .u8 17, .int .u8 4, .int .u8 8, .int .u8 31, .int .u8 27, .int .u8 13, .int .u8 23, .int .u8 21, .int .u8 19, .int .u8 16, .int .u8 7, .int .u8 26, .int .u8 12, .int .u8 18, .int .u8 6, .int .u8 11, .int .u8 5, .int .u8 10, .int .u8 9]
    | 11 => #[.int .u8 0, .int .u8 1, .int .u8 56, .int .u8 2, .int .u8 57, .int .u8 49, .int .u8 28, .int .u8 3, .int .u8 61, .int .u8 58, .int .u8 42, .int .u8 50, .int .u8 38, .int .u8 29, .int .u8 17, .int .u8 4, .int .u8 62, .int .u8 47, .int .u8 59, .int .u8 36, .int .u8 45, .int .u8 43, .int .u8 51, .int .u8 22, .int .u8 53, .int .u8 39, .int .u8 33, .int .u8 30, .int .u8 24, .int .u8 18, .int .u8 12, .int .u8 5, .int .u8 63, .int .u8 55, .int .u8 48, .int .u8 27, .int .u8 60, .int .u8 41, .int .u8 37, .int .u8 16, .int .u8 46, .int .u8 35, .int .u8 44, .int .u8 21, .int .u8 52, .int .u8 32, .int .u8 23, .int .u8 11, .int .u8 54, .int .u8 26, .int .u8 40, .int .u8 15, .int .u8 34, .int .u8 20, .int .u8 31, .int .u8 10, .int .u8 25, .int .u8 14, .int .u8 19, .int .u8 9, .int .u8 13, .int .u8 8, .int .u8 7, .int .u8 6]
    | 9 => #[.int .u32 1116352408, .int .u32 1899447441, .int .u32 3049323471, .int .u32 3921009573, .int .u32 961987163, .int .u32 1508970993, .int .u32 2453635748, .int .u32 2870763221, .int .u32 3624381080, .int .u32 310598401, .int .u32 607225278, .int .u32 1426881987, .int .u32 1925078388, .int .u32 2162078206, .int .u32 2614888103, .int .u32 3248222580, .int .u32 3835390401, .int .u32 4022224774, .int .u32 264347078, .int .u32 604807628, .int .u32 770255983, .int .u32 1249150122, .int .u32 1555081692, .int .u32 1996064986, .int .u32 2554220882, .int .u32 2821834349, .int .u32 2952996808, .int .u32 3210313671, .int .u32 3336571891, .int .u32 3584528711, .int .u32 113926993, .int .u32 338241895, .int .u32 666307205, .int .u32 773529912, .int .u32 1294757372, .int .u32 1396182291, .int .u32 1695183700, .int .u32 1986661051, .int .u32 2177026350, .int .u32 2456956037, .int .u32 2730485921, .int .u32 2820302411, .int .u32 3259730800, .int .u32 3345764771, .int .u32 3516065817, .int .u32 3600352804, .int .u32 4094571909, .int .u32 275423344, .int .u32 430227734, .int .u32 506948616, .int .u32 659060556, .int .u32 883997877, .int .u32 958139571, .int .u32 1322822218, .int .u32 1537002063, .int .u32 1747873779, .int .u32 1955562222, .int .u32 2024104815, .int .u32 2227730452, .int .u32 2361852424, .int .u32 2428436474, .int .u32 2756734187, .int .u32 3204031479, .int .u32 3329325298]
    | 6 => #[.int .u64 1, .int .u64 10, .int .u64 100, .int .u64 1000, .int .u64 10000, .int .u64 100000, .int .u64 1000000, .int .u64 10000000, .int .u64 100000000, .int .u64 1000000000, .int .u64 10000000000, .int .u64 100000000000, .int .u64 1000000000000, .int .u64 10000000000000, .int .u64 100000000000000, .int .u64 1000000000000000, .int .u64 10000000000000000, .int .u64 100000000000000000, .int .u64 1000000000000000000, .int .u64 10000000000000000000]
    | 8 => #[.int .u8 128, .int .u8 191, .int .u8 160, .int .u8 191, .int .u8 128, .int .u8 159, .int .u8 144, .int .u8 191, .int .u8 128, .int .u8 143, .int .u8 0, .int .u8 0, .int .u8 0, .int .u8 0, .int .u8 0, .int .u8 0, .int .u8 0, .int .u8 0, .int .u8 0, .int .u8 0, .int .u8 0, .int .u8 0, .int .u8 0, .int .u8 0, .int .u8 0, .int .u8 0, .int .u8 0, .int .u8 0, .int .u8 0, .int .u8 0, .int .u8 0, .int .u8 0]
    | 4 => #[.iface 354 (.pointer (some ⟨low + 0, 0, none⟩))]
    | 3 => #[.iface 354 (.pointer (some ⟨low + 1, 0, none⟩))]
    | 2 => #[str [38, 61, 43, 36, 44, 59, 63, 47], str [91, 93, 47, 58, 38, 43, 36], str [91, 93, 47, 63, 58, 43, 36]]
    | 0 => #[str [67, 97, 108, 108, 45, 73, 68], str [67, 83, 101, 113], str [77, 73, 77, 69, 45, 86, 101, 114, 115, 105, 111, 110], str [77, 105, 110, 45, 83, 69], str [82, 65, 99, 107], str [82, 83, 101, 113], str [87, 87, 87, 45, 65, 117, 116, 104, 101, 110, 116, 105, 99, 97, 116, 101]]
    | 5 => #[str [70, 114, 111, 109], .int .i64 1, str [84, 111], .int .i64 1, str [67, 111, 110, 116, 97, 99, 116], .int .i64 1, str [82, 111, 117, 116, 101], .int .i64 1, str [82, 101, 99, 111, 114, 100, 45, 82, 111, 117, 116, 101], .int .i64 1, str [80, 97, 116, 104], .int .i64 1, str [83, 101, 114, 118, 105, 99, 101, 45, 82, 111, 117, 116, 101], .int .i64 1, str [82, 101, 102, 101, 114, 45, 84, 111], .int .i64 1, str [82, 101, 102, 101, 114, 114, 101, 100, 45, 66, 121], .int .i64 1, str [82, 101, 112, 108, 121, 45, 84, 111], .int .i64 1, str [86, 105, 97], .int .i64 2, str [67, 83, 101, 113], .int .i64 3, str [82, 65, 99, 107], .int .i64 4, str [67, 111, 110, 116, 101, 110, 116, 45, 76, 101, 110, 103, 116, 104], .int .i64 5, str [69, 120, 112, 105, 114, 101, 115], .int .i64 5, str [77, 97, 120, 45, 70, 111, 114, 119, 97, 114, 100, 115], .int .i64 5, str [77, 105, 110, 45, 69, 120, 112, 105, 114, 101, 115], .int .i64 5, str [82, 83, 101, 113], .int .i64 5, str [67, 111, 110, 116, 101, 110, 116, 45, 68, 105, 115, 112, 111, 115, 105, 116, 105, 111, 110], .int .i64 6, str [67, 111, 110, 116, 101, 110, 116, 45, 84, 121, 112, 101], .int .i64 6, str [69, 118, 101, 110, 116], .int .i64 6, str [77, 105, 110, 45, 83, 69], .int .i64 6, str [83, 101, 115, 115, 105, 111, 110, 45, 69, 120, 112, 105, 114, 101, 115], .int .i64 6, str [83, 117, 98, 115, 99, 114, 105, 112, 116, 105, 111, 110, 45, 83, 116, 97, 116, 101], .int .i64 6, str [65, 99, 99, 101, 112, 116], .int .i64 7, str [65, 108, 108, 111, 119], .int .i64 7, str [65, 108, 108, 111, 119, 45, 69, 118, 101, 110, 116, 115], .int .i64 7, str [80, 114, 111, 120, 121, 45, 82, 101, 113, 117, 105, 114, 101], .int .i64 7, str [82, 101, 113, 117, 105, 114, 101], .int .i64 7, str [83, 117, 112, 112, 111, 114, 116, 101, 100], .int .i64 7, str [85, 110, 115, 117, 112, 112, 111, 114, 116, 101, 100], .int .i64 7]
    | 7 => (Go.Pinned.utf8FirstZ.map fun (z : Nat) => Value.int .u8 (z : Int)).toArray
    | _ => c) t fz
  | o => o
noncomputable def laidWorld (os : Os) : World := { World.holding Tryz.prog os ⟨#[.cells #[str [118, 97, 108, 117, 101, 32, 111, 117, 116, 32, 111, 102, 32, 114, 97, 110, 103, 101]] 356, .cells #[str [105, 110, 118, 97, 108, 105, 100, 32, 115, 121, 110, 116, 97, 120]] 356], #[], []⟩ with heap := (World.holding Tryz.prog os ⟨#[.cells #[str [118, 97, 108, 117, 101, 32, 111, 117, 116, 32, 111, 102, 32, 114, 97, 110, 103, 101]] 356, .cells #[str [105, 110, 118, 97, 108, 105, 100, 32, 115, 121, 110, 116, 97, 120]] 356], #[], []⟩).heap.mapIdx laidCells }
theorem own : ownKnob Tryz.prog.godebug = none := by kernel_rfl
end Go.Proofs
