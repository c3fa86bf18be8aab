/-
  The law RoutingKnown (part 3 of 8).
-/
import Derived.Test.YtifplmgmmkdomaaGreatDoorRk2
import Derived.Lib.Join
set_option linter.constructorNameAsVariable false
set_option linter.unusedVariables false
set_option linter.unusedSimpArgs false
set_option linter.constructorNameAsVariable false
namespace Go.Ce
open Go.Wk
section
variable {C : Cx} {Gp : World → Prop} {m : M} {S S' : T} {w0 w : World} {E E' : En} {K : Ks} {H : Hs}
theorem run_none {c : Code} : abc C Gp (fun m S => eNone K m S) c := fun m S e S' hv => by cases hv
theorem exec_ok (hC : Cok C Gp) (hK : KsOk C Gp K) (c : Code) : abc C Gp (fun m S => exec C c K m S) c := by
  induction c with
  | skip => exact run_skip (K := K) (.inl rfl)
  | region id ops d => exact run_region hC hK fun m S S' hv w0 E w Q h hq hk => draw_ok hC hK m S S' hv w0 E w Q h hq hk
  | seq x y hx hy => exact run_seq hx hy
  | cond c x y hx hy => exact run_cond hC hx hy
  | block id x hx => exact run_block hx
  | loop x hx => exact run_loop hx
  | rangeFunc f ps asg body _ _ => exact run_range (xa := exec C asg) (xb := exec C body) hC hK
  | exit id => exact run_exit (K := K)
  | scope x hx => exact run_scope hx
  | label l => exact run_skip (K := K) (.inr ⟨l, rfl⟩)
  | goto l => exact run_none (K := K)
  | ret => exact run_ret (K := K)
  | _ => exact run_none (K := K)
theorem setL_get : ∀ (l : List SV) (F : Tr SV) (k t : Nat), (setL F k l).get t = if k ≤ t ∧ t < k + l.length then l[t - k]? else F.get t
  | [], F, k, t => by rw [if_neg (fun h => by have h1 := h.1; have h2 := h.2; simp at h2; omega)]; rfl
  | v :: l, F, k, t => by
    have h := setL_get l (F.set k v) (k + 1) t
    have e : setL F k (v :: l) = setL (F.set k v) (k + 1) l := rfl
    rw [e, h, Tr.get_set]
    by_cases h1 : t = k
    · subst h1
      rw [if_neg (by omega), if_pos rfl, if_pos (by simp)]
      simp
    · rw [if_neg h1]
      by_cases h2 : k + 1 ≤ t ∧ t < k + 1 + l.length
      · rw [if_pos h2, if_pos (by simp; omega)]
        obtain ⟨j, rfl⟩ : ∃ j, t = k + 1 + j := ⟨t - (k + 1), by omega⟩
        rw [show k + 1 + j - (k + 1) = j by omega, show k + 1 + j - k = j + 1 by omega]
        rfl
      · rw [if_neg h2, if_neg (by simp; omega)]
theorem setL_args (E : En) (vs : List SV) : rF E (setL .e 0 vs) = argF (vs.map (SV.re E)) := by
  funext t
  unfold rF tv argF
  rw [setL_get]
  by_cases h : 0 ≤ t ∧ t < 0 + vs.length
  · rw [if_pos h]
    have h2 : t < vs.length := by omega
    simp [h2]
  · rw [if_neg h, Tr.get_e]
    have h2 : vs.length ≤ t := by omega
    simp [h2, SV.re]
theorem setL_ok {n : Nat} {vs : List SV} (h : ∀ x ∈ vs, x.ok n) : Fok n (setL .e 0 vs) := by
  intro t v hv
  rw [setL_get] at hv
  split at hv
  · exact h v (List.mem_of_getElem? hv)
  · rw [Tr.get_e] at hv; cases hv
theorem resE_ok (hC : Cok C Gp) (h : At C Gp m S w0 E w) {k : Nat} {n : Md} (hn : n.n = k) {x : ResultVar} {a : SA} (hv : resE C ⟨k, none⟩ S x = some a) : (Go.Wk.resOf (fr n (rF E S.F)).tmps x).run C.P w = .ok (a.re E) w ∧ a.ok S.H.nx := by
  have hsd : Sd C ⟨k, none⟩ S n w0 E w := ⟨hn, h.inv, h.fok, hC.g h.gp⟩
  cases x with
  | tmp t =>
    obtain ⟨v, h1, h2⟩ := aaa (show (ob (evO ⟨k, none⟩ S (.tmp t)) SV.sa) = some a from hv)
    obtain ⟨h3, h4⟩ := abd hsd h1
    refine ⟨?_, SV.sa_ok h2 h4⟩
    have h3' : (bif Nat.blt t n.n then rF E S.F t else undef) = v.re E := h3
    rw [SV.sa_r h2]
    simp only [Go.Wk.resOf, fr_get, h3', Sem.run_pure]
  | cell b t =>
    obtain ⟨v, h1, h2⟩ := aaa (show (ob (opLoad C ⟨k, none⟩ S t (.tmp b)) SV.sa) = some a from hv)
    obtain ⟨y, h3, h4⟩ := aaa h1
    obtain ⟨A, l1, l2, l3⟩ := loadC_ok hsd h4
    have hx := (aai hsd h3).1
    rw [l1] at hx
    refine ⟨?_, SV.sa_ok h2 l3⟩
    have hx' : (bif Nat.blt b n.n then rF E S.F b else undef) = .pointer (some A) := hx
    rw [SV.sa_r h2]
    simp only [Go.Wk.resOf, fr_get, hx', asAddr, Sem.run_bind, Sem.run_pure, Result.andThen_ok, l2]
theorem resL_ok (hC : Cok C Gp) (h : At C Gp m S w0 E w) {k : Nat} {n : Md} (hn : n.n = k) : ∀ {l : List ResultVar} {azq : List SA}, resL C ⟨k, none⟩ S l = some azq →
    l.length = azq.length ∧ (∀ (i : Nat) (x : ResultVar) (v : Value), l[i]? = some x → (azq.map (SA.re E))[i]? = some v → (Go.Wk.resOf (fr n (rF E S.F)).tmps x).run C.P w = .ok v w) ∧ ∀ a ∈ azq, a.ok S.H.nx
  | [], azq, hv => by
    have e : [] = azq := Option.some.inj hv
    subst e
    exact ⟨rfl, fun i x v h => by simp at h, fun a h => by cases h⟩
  | x :: l, azq, hv => by
    obtain ⟨a, h1, hv⟩ := aaa hv
    obtain ⟨q, h2, hv⟩ := aaa hv
    cases hv
    obtain ⟨r1, r2⟩ := resE_ok hC h hn h1
    obtain ⟨i1, i2, i3⟩ := resL_ok hC h hn (show resL C ⟨k, none⟩ S l = some q from h2)
    refine ⟨by simp [i1], ?_, ?_⟩
    · intro i y v hy hv
      cases i with
      | zero =>
        simp at hy hv
        subst hy; subst hv
        exact r1
      | succ i => exact i2 i y v (by simpa using hy) (by simpa using hv)
    · intro b hb
      rcases List.mem_cons.1 hb with rfl | hb
      · exact r2
      · exact i3 b hb
theorem one_ok {n : Nat} {azq : List SA} (h : ∀ a ∈ azq, a.ok n) : (oneV azq).ok n := by
  cases azq with
  | nil => exact fun x hx => by cases hx
  | cons a l => cases l with
    | nil => exact SA.sv_ok (h a List.mem_cons_self)
    | cons b l => exact h
theorem one_re (E : En) (azq : List SA) : (match azq.map (SA.re E) with | [u] => u | us => .tuple us.toArray) = (oneV azq).re E := by
  cases azq with
  | nil => rfl
  | cons a l => cases l with
    | nil => exact (SA.sv_r E a).symm
    | cons b l => rfl
theorem results_ok (hC : Cok C Gp) (h : At C Gp m S w0 E w) {k : Nat} {fn : Func} {azq : List SA} (hv : resL C ⟨k, none⟩ S fn.results.toList = some azq) (D : List Deferred) (r : Option (Option Nat)) :
    (results fn (fr ⟨k, D, r⟩ (rF E S.F)).tmps).run C.P w = .ok ((oneV azq).re E) w ∧ (oneV azq).ok S.H.nx := by
  obtain ⟨h1, h2, h3⟩ := resL_ok hC h (n := ⟨k, D, r⟩) rfl hv
  refine ⟨?_, one_ok h3⟩
  have hm := run_mapM (P := C.P) (w := w) (Go.Wk.resOf (fr ⟨k, D, r⟩ (rF E S.F)).tmps) fn.results.toList (azq.map (SA.re E)) (by simp [h1]) h2
  unfold results
  obtain ⟨l, hr⟩ : ∃ l : List ResultVar, fn.results = l.toArray := ⟨fn.results.toList, by simp⟩
  rw [hr] at hm ⊢
  change Sem.run C.P (do let vs ← l.toArray.mapM (Go.Wk.resOf (fr ⟨k, D, r⟩ (rF E S.F)).tmps); pure (if h : vs.size = 1 then vs[0] else .tuple vs)) w = _
  simp only [List.mapM_toArray, Sem.run_bind, Sem.run_map]
  rw [hm]
  simp only [Result.andThen_ok, Sem.run_pure]
  rw [← one_re]
  congr 1
  generalize azq.map (SA.re E) = vs
  cases vs with
  | nil => simp
  | cons u us => cases us with
    | nil => simp
    | cons u' us => simp
theorem mdF_two (c : Code) (vs : List SV) : mdF c vs = none ∨ mdF c vs = some none := by
  unfold mdF
  cases hasRF c with
  | true => exact .inr rfl
  | false => cases anyY vs with
    | true => exact .inr rfl
    | false => exact .inl rfl
theorem onX'_some {r : RT} {k : T → Option (SV × Hs)} {v : SV × Hs} (h : runF.onX' r k = some v) : ∃ e S, r = some (e, S) ∧ (e = .nm ∨ e = .rt) ∧ k S = some v := by
  cases r with
  | none => cases h
  | some p =>
    obtain ⟨e, S⟩ := p
    cases e with
    | nm => exact ⟨_, S, rfl, .inl rfl, h⟩
    | rt => exact ⟨_, S, rfl, .inr rfl, h⟩
    | xt id => cases h
theorem isDf_ok {b : HB} (h : b.isDf = true) : b = .df := by
  cases b <;> first | rfl | cases h
def calm (Q : Exit → Act → World → Prop) : Exit → Act → World → Prop
  | .panic _, _, _ => False
  | e, a, w => Q e a w
theorem calm_le {Q : Exit → Act → World → Prop} : ∀ e a w, calm Q e a w → Q e a w := by
  intro e a w h
  cases e <;> first | exact h | cases h
theorem calm_np {Q : Exit → Act → World → Prop} : NoP (calm Q) := fun _ _ _ h => h
theorem C_mono {P : Program} {n : Md} {Q Q' : Exit → Act → World → Prop} {c : Code} {F : Nat → Value} {w : World} (hq : ∀ e a w, Q e a w → Q' e a w) (h : Go.Wk.C P n Q c F w) : Go.Wk.C P n Q' c F w := by
  obtain ⟨k, D, ro⟩ := n
  unfold Go.Wk.C CC at h ⊢
  cases ro with
  | none => exact Code.wp_mono hq h
  | some x => exact Code.wpIn_mono hq h
theorem body_ok (hC : Cok C Gp) (hK : KsOk C Gp K) (k : Nat) : aam C Gp (bodyE C K k) k := by
  intro vs H v H' hv w0 E w hg inv hok
  obtain ⟨fn, h1, hv⟩ := aaa hv
  obtain ⟨c, h2, hv⟩ := aaa hv
  obtain ⟨h3, hv⟩ := aab hv
  have hlen : (vs.map (SV.re E)).length ≤ fn.ntmps := by rw [aac, aaf] at h3; simpa using h3
  refine ⟨⟨fn, c, h1, h2, hC.ng k fn h1⟩, ?_⟩
  obtain ⟨e, S, hx, he, hv⟩ := onX'_some hv
  obtain ⟨hD, hv⟩ := aab hv
  obtain ⟨S2, hu, hv⟩ := aaa hv
  obtain ⟨azq, hr, hv⟩ := aaa hv
  cases hv
  have hat : At C Gp ⟨fn.ntmps, mdF c vs⟩ ⟨setL .e 0 vs, H, none⟩ w0 E w := by
    refine ⟨inv, setL_ok hok, hg, fun l hl => ?_, fun r hr => by cases hr⟩
    rcases mdF_two c vs with h | h
    · have hl' : mdF c vs = some (some l) := hl
      rw [h] at hl'; cases hl'
    · have hl' : mdF c vs = some (some l) := hl
      rw [h] at hl'; cases hl'
  rcases mdF_two c vs with hm | hm
  · rw [hm] at hx hat hD
    have hDn : S.D = none := by
      cases hd : S.D with
      | none => rfl
      | some d => rw [hd] at hD; cases hD
    have hS : S = S2 := by
      unfold undf at hu
      rw [hDn] at hu
      exact Option.some.inj hu
    subst hS
    refine enter (k := fn.ntmps) h1 h2 rfl hlen ?_
    rw [← setL_args]
    refine exec_ok hC hK c _ _ e S hx w0 E w _ hat np_body ?_
    intro E' w' a' n' at'
    obtain ⟨q1, q2⟩ := results_ok hC at' hr [] none
    have hres : ∃ E', Ag H.nx E E' ∧ H.nx ≤ S.H.nx ∧ Inv w0 E' S.H w' ∧ (oneV azq).ok S.H.nx ∧ (oneV azq).re E' = (oneV azq).re E' := ⟨E', a', n', at'.inv, q2, rfl⟩
    rw [hDn]
    have hres : ∃ E'', Ag H.nx E E'' ∧ H.nx ≤ S.H.nx ∧ Inv w0 E'' S.H w' ∧ (oneV azq).ok S.H.nx ∧ (oneV azq).re E' = (oneV azq).re E'' := ⟨E', a', n', at'.inv, q2, rfl⟩
    rcases he with rfl | rfl
    · exact ⟨rfl, _, q1, _, rfl, hres⟩
    · exact ⟨rfl, _, q1, _, rfl, hres⟩
  · rw [hm] at hx hat
    refine enterM (k := fn.ntmps) h1 h2 rfl hlen ?_
    rw [← setL_args]
    refine C_mono (Q := calm (bodyPostM Fence.wide 0 C.P fn fun e w' => ∃ v, e = .returned v ∧ ∃ E'', Ag H.nx E E'' ∧ H.nx ≤ S2.H.nx ∧ Inv w0 E'' S2.H w' ∧ (oneV azq).ok S2.H.nx ∧ v = (oneV azq).re E'')) calm_le ?_
    refine exec_ok hC hK c _ _ e S hx w0 E w _ hat calm_np ?_
    intro E' w' a' n' at'
    suffices hs : bodyPostM Fence.wide 0 C.P fn (fun e w' => ∃ v, e = .returned v ∧ ∃ E'', Ag H.nx E E'' ∧ H.nx ≤ S2.H.nx ∧ Inv w0 E'' S2.H w' ∧ (oneV azq).ok S2.H.nx ∧ v = (oneV azq).re E'') .ret (fr (aax E' ⟨fn.ntmps, some none⟩ S.D) (rF E' S.F)) w' by
      rcases he with rfl | rfl
      · exact m_norm hs
      · exact hs
    cases hd : S.D with
    | none =>
      have hS : S = S2 := by
        unfold undf at hu
        rw [hd] at hu
        exact Option.some.inj hu
      subst hS
      obtain ⟨q1, q2⟩ := results_ok hC at' hr [] none
      exact m_res0 ⟨_, q1, E', a', n', at'.inv, q2, rfl⟩
    | some d =>
      unfold undf at hu
      rw [hd] at hu
      obtain ⟨b, hb, hu⟩ := aaa (show (ob (S.H.t.get d) fun b => bi b.isDf (some (⟨S.F, S.H.upd d .gn, none⟩ : T)) none) = some S2 from hu)
      obtain ⟨hb2, hu⟩ := aab hu
      cases hu
      obtain rfl := isDf_ok hb2
      have hlt : d < S.H.nx := at'.inv.lt d _ hb
      have hk : (aan E' S.H)[d]? = some (dfr (E' d).1) := at'.inv.at hb
      refine m_res1 at'.inv.hp d (E' d).1 hk ?_
      intro w2 hp2
      have hlen2 : d < (aan E' S.H).length := by rw [aar]; exact hlt
      have hp3 := (hp2.front d _ (List.getElem?_set_self hlen2)).tail
      rw [List.eraseIdx_set_eq] at hp3
      have inv2 : Inv w0 E' (S.H.upd d .gn) w2 := at'.inv.upd hlt trivial (Hp.perm (hp_gn hp3) (set_perm _ _ _ hlen2).symm)
      have at2 : At C Gp ⟨fn.ntmps, none⟩ ⟨S.F, S.H.upd d .gn, none⟩ w0 E' w2 := ⟨inv2, at'.fok, at'.gp, fun l hl => (by cases hl), fun r hr => (by cases hr)⟩
      obtain ⟨q1, q2⟩ := results_ok hC at2 hr [] none
      exact ⟨_, q1, E', a', n', inv2, q2, rfl⟩
theorem sc_pl {x : SC} (h : x.pl = true) (n : Nat) (E E' : En) : x.ok n ∧ x.re E = x.re E' := by
  cases x with
  | p i o => cases h
  | sl i o m c => cases h
  | y i => cases h
  | m i => cases h
  | z i b dd off => cases h
  | fn f l =>
    cases l with
    | nil => exact ⟨fun i hi => (by cases hi), rfl⟩
    | cons a l => cases h
  | _ => exact ⟨trivial, rfl⟩
theorem plL_ok {l : List SC} (n : Nat) (E E' : En) : plL l = true → (∀ x ∈ l, x.ok n) ∧ l.map (SC.re E) = l.map (SC.re E') := by
  induction l with
  | nil => exact fun _ => ⟨fun x hx => (by cases hx), rfl⟩
  | cons x l ih =>
    intro h
    obtain ⟨h1, h2⟩ := bb2 (show bi x.pl (plL l) false = true from h)
    obtain ⟨i1, i2⟩ := ih h2
    obtain ⟨j1, j2⟩ := sc_pl h1 n E E'
    refine ⟨fun y hy => ?_, by rw [List.map_cons, List.map_cons, i2, j2]⟩
    rcases List.mem_cons.1 hy with rfl | hy
    · exact j1
    · exact i1 y hy
theorem sa_pl {x : SA} (h : x.pl = true) (n : Nat) (E E' : En) : x.ok n ∧ x.re E = x.re E' := by
  cases x with
  | c x => exact sc_pl h n E E'
  | a l => obtain ⟨h1, h2⟩ := plL_ok n E E' (show plL l = true from h); exact ⟨h1, by simp only [SA.re]; rw [h2]⟩
theorem plT_ok {l : List SA} (n : Nat) (E E' : En) : plT l = true → (∀ x ∈ l, x.ok n) ∧ l.map (SA.re E) = l.map (SA.re E') := by
  induction l with
  | nil => exact fun _ => ⟨fun x hx => (by cases hx), rfl⟩
  | cons x l ih =>
    intro h
    obtain ⟨h1, h2⟩ := bb2 (show bi x.pl (plT l) false = true from h)
    obtain ⟨i1, i2⟩ := ih h2
    obtain ⟨j1, j2⟩ := sa_pl h1 n E E'
    refine ⟨fun y hy => ?_, by rw [List.map_cons, List.map_cons, i2, j2]⟩
    rcases List.mem_cons.1 hy with rfl | hy
    · exact j1
    · exact i1 y hy
theorem sv_pl {x : SV} (h : x.pl = true) (n : Nat) (E E' : En) : x.ok n ∧ x.re E = x.re E' := by
  cases x with
  | c x => exact sc_pl h n E E'
  | a l => obtain ⟨h1, h2⟩ := plL_ok n E E' (show plL l = true from h); exact ⟨h1, by simp only [SV.re]; rw [h2]⟩
  | t l => obtain ⟨h1, h2⟩ := plT_ok n E E' (show plT l = true from h); exact ⟨h1, by simp only [SV.re]; rw [h2]⟩
  | u => exact ⟨trivial, rfl⟩
theorem plV_ok {l : List SV} (n : Nat) (h : plV l = true) : ∀ x ∈ l, x.ok n := by
  induction l with
  | nil => exact fun x hx => by cases hx
  | cons x l ih =>
    obtain ⟨h1, h2⟩ := bb2 (show bi x.pl (plV l) false = true from h)
    intro y hy
    rcases List.mem_cons.1 hy with rfl | hy
    · exact (sv_pl h1 n (fun _ => (0, 0)) (fun _ => (0, 0))).1
    · exact ih h2 y hy
def Xok (C : Cx) (Gp : World → Prop) : Prop := ∀ k f, C.X k = some f → aam C Gp f k
theorem callK_ok (hC : Cok C Gp) (hX : Xok C Gp) (hK : KsOk C Gp K) (k : Nat) : aam C Gp (callK C K k) k := by
  intro vs H v H' hv w0 E w hg inv hok
  unfold callK at hv
  cases hx : C.X k with
  | some f =>
    rw [hx] at hv
    exact hX k f hx vs H v H' hv w0 E w hg inv hok
  | none =>
    rw [hx] at hv
    have hv : bi (C.pure k) (bi (plV vs) (ob (bodyE C K k vs H0) fun r => bi r.1.pl (some (r.1, H)) none) none) (bodyE C K k vs H) = some (v, H') := hv
    rw [aae] at hv
    split at hv
    · obtain ⟨hp, hv⟩ := aab hv
      obtain ⟨r, h1, hv⟩ := aaa hv
      obtain ⟨h2, hv⟩ := aab hv
      cases hv
      obtain ⟨hE, hc⟩ := body_ok hC hK k vs H0 r.1 r.2 h1 w E w (hC.gp hg inv.hp) (inv_bare E 0 w) (plV_ok 0 hp)
      refine ⟨hE, CR.mono hc ?_⟩
      rintro V w' ⟨E', g1, g2, g3, g4, rfl⟩
      exact ⟨E, Ag.refl _ _, Nat.le_refl _, ⟨inv.hp.call g3.hp.nil, inv.lt, inv.ok⟩, (sv_pl h2 _ E E).1, (sv_pl h2 0 E' E).2⟩
    · exact body_ok hC hK k vs H v H' hv w0 E w hg inv hok
theorem lev_ok (hC : Cok C Gp) (hX : Xok C Gp) : ∀ n, KsOk C Gp (lev C n)
  | 0 => ⟨fun k vs H v H' hv => (by cases hv), fun c m S e S' hv => (by cases hv)⟩
  | n + 1 => ⟨fun k => callK_ok hC hX (lev_ok hC hX n) k, fun c => exec_ok hC (lev_ok hC hX n) c⟩
theorem run_says (hC : Cok C Gp) (hX : Xok C Gp) {n k : Nat} {vs : List SV} {v : SV} {H' : Hs} (h : (lev C n).call k vs H0 = some (v, H')) (hp : plV vs = true) (hp' : v.pl = true) (hg : Gp w) (E : En) :
    Enters C.P k ∧ CR C.P k (vs.map (SV.re E)) w fun V w' => V = v.re E ∧ Hp w [] [] w' := by
  obtain ⟨hE, hc⟩ := (lev_ok hC hX n).call k vs H0 v H' h w E w hg (inv_bare E 0 w) (plV_ok 0 hp)
  refine ⟨hE, CR.mono hc ?_⟩
  rintro V w' ⟨E', g1, g2, g3, g4, rfl⟩
  exact ⟨(sv_pl hp' 0 E' E).2, g3.hp.nil⟩
end
end Go.Ce
set_option linter.unusedVariables false
set_option linter.unusedSimpArgs false
set_option linter.constructorNameAsVariable false
namespace Go.Ce
open Go.Wk Go.Px
theorem cvc_pl {v : Value} {x : SC} (h : cvc v = some x) : x.pl = true := by
  unfold cvc at h
  split at h
  all_goals first | (cases h; rfl) | (obtain ⟨_, h⟩ := aab h; cases h; rfl) | cases h
theorem cvs_pl : ∀ {vs : List Value} {l : List SC}, cvs vs = some l → plL l = true
  | [], l, h => by cases h; rfl
  | v :: vs, l, h => by
    obtain ⟨x, h1, h⟩ := aaa h
    obtain ⟨xs, h2, h⟩ := aaa h
    cases h
    show bi x.pl (plL xs) false = true
    rw [cvc_pl h1, cvs_pl h2]; rfl
theorem cv_pl {v : Value} {x : SV} (h : cv v = some x) : x.pl = true := by
  unfold cv at h
  split at h
  · obtain ⟨xs, h1, h⟩ := aaa h
    cases h
    exact cvs_pl h1
  · obtain ⟨y, h1, h⟩ := aaa h
    cases h
    exact cvc_pl h1
noncomputable def cvl (l : List Value) : Option (List SA) := List.rec (some []) (fun v _ r => ob (cv v) fun x => ob x.sa fun a => ob r fun q => some (a :: q)) l
noncomputable def cvT (l : List Value) : Option SV := ob (cvl l) fun q => some (.t q)
theorem sa_pl' {x : SV} {a : SA} (h : x.sa = some a) (hp : x.pl = true) : a.pl = true := by
  cases x <;> first | (cases h; exact hp) | cases h
theorem cvl_ok (E : En) : ∀ {l : List Value} {q : List SA}, cvl l = some q → q.map (SA.re E) = l ∧ plT q = true
  | [], q, h => by
    have e : [] = q := Option.some.inj h
    subst e; exact ⟨rfl, rfl⟩
  | v :: l, q, h => by
    obtain ⟨x, h1, h⟩ := aaa h
    obtain ⟨a, h2, h⟩ := aaa h
    obtain ⟨q', h3, h⟩ := aaa h
    cases h
    obtain ⟨i1, i2⟩ := cvl_ok E (show cvl l = some q' from h3)
    refine ⟨by rw [List.map_cons, i1, SV.sa_r h2, (cv_ok h1 E 0).1], ?_⟩
    show bi a.pl (plT q') false = true
    rw [sa_pl' h2 (cv_pl h1), i2]; rfl
theorem cvT_ok {l : List Value} {v : SV} (h : cvT l = some v) (E : En) : v.re E = .tuple l.toArray ∧ v.pl = true := by
  obtain ⟨q, h1, h⟩ := aaa h
  cases h
  obtain ⟨h2, h3⟩ := cvl_ok E h1
  exact ⟨by simp only [SV.re]; rw [h2], h3⟩
noncomputable def xs2 (f : Str → Str → Option SV) (vs : List SV) (H : Hs) : Option (SV × Hs) :=
  match vs with
  | [.c (.s l x), .c (.s m y)] => ob (f (dec l x) (dec m y)) fun v => some (v, H)
  | _ => none
noncomputable def xsb (f : Str → UInt8 → Option SV) (vs : List SV) (H : Hs) : Option (SV × Hs) :=
  match vs with
  | [.c (.s l x), .c (.i .u8 n)] => ob (f (dec l x) (UInt8.ofNat n)) fun v => some (v, H)
  | _ => none
noncomputable def xi (f : Int → Option SV) (vs : List SV) (H : Hs) : Option (SV × Hs) :=
  match vs with
  | [.c (.i .i64 n)] => ob (f (ures .i64 (Nat.mod n (km .i64)))) fun v => some (v, H)
  | _ => none
noncomputable def cstOf (xs : List SC) : Option (List Str) := List.rec (some []) (fun x _ r => ob x.asS fun q => ob r fun l => some (dec q.1 q.2 :: l)) xs
noncomputable def hcut (H : Hs) (i base n : Nat) : Option (List SC) := ob (cellsOf ⟨.e, H, none⟩ i) fun xs => bi (Nat.ble (Nat.add base n) (aaw xs)) (some (ltake (ldrop xs base) n)) none
noncomputable def splR (et : Nat) (H : Hs) (r : List Str) : Option (SV × Hs) :=
  bi r.isEmpty none (some (.c (.sl H.nx (nat_lit 0) (aaw r) (.r (nat_lit 0))), H.add (.cl et (.rw (nat_lit 1) (aaw r)) (r.map fun a => .s (aaw a) (enc a)))))
noncomputable def xsplit (et : Nat) (vs : List SV) (H : Hs) : Option (SV × Hs) :=
  match vs with
  | [.c (.s l x), .c (.s m y)] => bi (Nat.beq m (nat_lit 1)) (bi (Nat.ble l (nat_lit 1000000000)) (splR et H (spl (UInt8.ofNat y) (dec l x))) none) none
  | _ => none
noncomputable def xjoin (vs : List SV) (H : Hs) : Option (SV × Hs) :=
  match vs with
  | [.c (.sl i base n c), .c (.s m y)] => bi (capOk ⟨.e, H, none⟩ i n c) (ob (hcut H i base n) fun xs => ob (cstOf xs) fun l => bi (Nat.ble (aaw l) (nat_lit 1000000000)) (bi (Nat.ble (aaw (Lib.join l (dec m y))) (nat_lit 100000000000))
    (ob (cv (str (Lib.join l (dec m y)))) fun v => some (v, H)) none) none) none
  | [.c .ns, .c (.s m y)] => ob (cv (str [])) fun v => some (v, H)
  | _ => none
noncomputable def xccR (t i : Nat) (H : Hs) (a s : SC) : Option (SV × Hs) :=
  bi (Option.rec a.isPt (fun p => bi (Nat.beq p.1 i) (Nat.beq p.2 (nat_lit 0)) false) a.asP) (some (.t [], H.upd i (.cl t .ex [.p i (nat_lit 0), s]))) none
noncomputable def xcc (t : Nat) (vs : List SV) (H : Hs) : Option (SV × Hs) :=
  match vs with
  | [.c (.p i o)] => bi (Nat.beq o (nat_lit 0)) (ob (H.t.get i) fun b => ob b.asC fun q => bi (Nat.beq q.1 t) (bi (Mo.rec true (fun _ _ => false) false false q.2.1) (match q.2.2 with
    | [a, s] => xccR t i H a s
    | _ => none) none) none) none
  | _ => none
section
variable {C : Cx} {Gp : World → Prop} {w0 w : World} {E E' : En} {H : Hs} {k : Nat}
theorem ext_plain (hC : Cok C Gp) (hE : Enters C.P k) {vs : List SV} {v : SV} (hp : v.pl = true) (hc : ∀ E w, Gp w → CR C.P k (vs.map (SV.re E)) w fun V w' => V = v.re E ∧ Hp w [] [] w') (hg : Gp w0) (inv : Inv w0 E H w) :
    Enters C.P k ∧ CR C.P k (vs.map (SV.re E)) w fun V w' => ∃ E', Ag H.nx E E' ∧ H.nx ≤ H.nx ∧ Inv w0 E' H w' ∧ v.ok H.nx ∧ V = v.re E' := by
  refine ⟨hE, CR.mono (hc E w (hC.gp hg inv.hp)) ?_⟩
  rintro V w' ⟨rfl, hp'⟩
  exact ⟨E, Ag.refl _ _, Nat.le_refl _, ⟨inv.hp.call hp', inv.lt, inv.ok⟩, (sv_pl hp _ E E).1, rfl⟩
theorem xs2_ok (hC : Cok C Gp) (hE : Enters C.P k) {f : Str → Str → Option SV} (hf : ∀ a b v, f a b = some v → v.pl = true ∧ ∀ E w, Gp w → CR C.P k [str a, str b] w fun V w' => V = v.re E ∧ Hp w [] [] w') : aam C Gp (xs2 f) k := by
  intro vs H v H' hv w0 E w hg inv hok
  unfold xs2 at hv
  split at hv
  · rename_i l x m y
    obtain ⟨u, h1, hv⟩ := aaa hv
    cases hv
    obtain ⟨h2, h3⟩ := hf _ _ _ h1
    exact ext_plain hC hE h2 (fun E w hw => h3 E w hw) hg inv
  · cases hv
theorem xsb_ok (hC : Cok C Gp) (hE : Enters C.P k) {f : Str → UInt8 → Option SV} (hf : ∀ a b v, f a b = some v → v.pl = true ∧ ∀ E w, Gp w → CR C.P k [str a, bt b] w fun V w' => V = v.re E ∧ Hp w [] [] w') : aam C Gp (xsb f) k := by
  intro vs H v H' hv w0 E w hg inv hok
  unfold xsb at hv
  split at hv
  · rename_i l x n
    obtain ⟨u, h1, hv⟩ := aaa hv
    cases hv
    obtain ⟨h2, h3⟩ := hf _ _ _ h1
    refine ext_plain hC hE h2 (fun E w hw => ?_) hg inv
    have e : (SV.c (.i .u8 n)).re E = bt (UInt8.ofNat n) := by
      show Value.int .u8 (IntKind.u8.wrap n) = Value.int .u8 ((UInt8.ofNat n).toNat : Int)
      congr 1
    have := h3 E w hw
    rw [← e] at this
    exact this
  · cases hv
theorem xi_ok (hC : Cok C Gp) (hE : Enters C.P k) {f : Int → Option SV} (hf : ∀ z v, f z = some v → v.pl = true ∧ ∀ E w, Gp w → (-9223372036854775808 ≤ z ∧ z ≤ 9223372036854775807) → CR C.P k [.int .i64 z] w fun V w' => V = v.re E ∧ Hp w [] [] w') : aam C Gp (xi f) k := by
  intro vs H v H' hv w0 E w hg inv hok
  unfold xi at hv
  split at hv
  · rename_i n
    obtain ⟨u, h1, hv⟩ := aaa hv
    cases hv
    obtain ⟨h2, h3⟩ := hf _ _ h1
    refine ext_plain hC hE h2 (fun E w hw => ?_) hg inv
    have hlt : n % km .i64 < 18446744073709551616 := Nat.mod_lt _ (by decide)
    have hb : -9223372036854775808 ≤ ures .i64 (n % km .i64) ∧ ures .i64 (n % km .i64) ≤ 9223372036854775807 := by
      generalize n % km .i64 = z at hlt ⊢
      rw [ures_eq]
      have e1 : kh .i64 = 9223372036854775808 := rfl
      have e2 : km .i64 = 18446744073709551616 := rfl
      rw [e2, e1]
      split
      · omega
      · constructor
        · exact Int.le_trans (by decide) (Int.natCast_nonneg z)
        · have : z ≤ 9223372036854775807 := by omega
          exact Int.ofNat_le.2 this
    have := h3 E w hw hb
    have e : (SV.c (.i .i64 n)).re E = .int .i64 (ures .i64 (n % km .i64)) := by
      show Value.int .i64 (IntKind.i64.wrap n) = _
      rw [abf]
    rw [show List.map (SV.re E) [SV.c (.i .i64 n)] = [(SV.c (.i .i64 n)).re E] from rfl, e]
    exact this
  · cases hv
theorem row_call (inv : Inv w0 E H w) {α : Type} {f : α → List Value} {e sz cap : Nat} {o : Option Nat} {a : Option Addr} {l : List α} {w' : World} {xs : List SC} (hp : Hp w [] [rwt f e sz o a cap l] w') (hne : l ≠ []) (hx : xs.map (SC.re E) = l.flatMap f)
    (hok : ∀ x ∈ xs, x.ok H.nx) (hl : xs.length = l.length * sz) : ∃ E', Ag H.nx E E' ∧ Inv w0 E' (H.add (.cl e (.rw sz l.length) xs)) w' ∧ Value.slice a l.length cap = (SV.c (.sl H.nx 0 l.length (.r 0))).re E' := by
  rcases (hp.res _ List.mem_cons_self).1 with ⟨_, h, _, _⟩ | ⟨g, cur, ho, ha, hob, h1, h2, h3, h4⟩
  · exact absurd h hne
  · subst ha
    have ho' : o = some g := ho
    subst ho'
    refine ⟨eat E H.nx (g, cap), aas _ _ _, ?_, ?_⟩
    · refine inv.add (aas _ _ _) (okUp hok) ?_
      refine hp_weak (k := 0) (inv.hp.callL hp) rfl ?_ ?_
      · simp only [resOf, cres, aag]; rfl
      · show (resOf (eat E H.nx (g, cap)) H.nx (.cl e (.rw sz l.length) xs)).holds w'
        unfold Res.holds
        simp only [resOf, cres, aag]
        rw [scs_ext (aas E H.nx _) hok, hx]
        have hxl : (l.flatMap f).length = l.length * sz := by rw [← hx, List.length_map, hl]
        have hle : l.length * sz ≤ cap * sz := Nat.mul_le_mul_right _ h1
        refine ⟨cur, e, (0, 0), hob, .inr rfl, by rw [hxl, h3]; exact hle, by rw [hxl]; exact h4, hxl, h1, h2, h3, rfl⟩
    · simp only [SV.re, SC.re, aag, Cp.re, Nat.sub_zero]
theorem str_scs (E : En) (r : List Str) : (r.map fun a => SC.s (aaw a) (enc a)).map (SC.re E) = r.flatMap eS := by
  induction r with
  | nil => rfl
  | cons a r ih =>
    rw [List.map_cons, List.map_cons, ih, List.flatMap_cons]
    show str (dec (aaw a) (enc a)) :: _ = [str a] ++ _
    rw [aaf, dec_enc]; rfl
theorem xsplit_ok (hC : Cok C Gp) (hE : Enters C.P k) {et : Nat} (hf : ∀ s c w, Gp w → s.length ≤ 1000000000 → CR C.P k [str s, str [c]] w fun v w' => ∃ o a cap, v = .slice a (spl c s).length cap ∧ Hp w [] [rwt eS et 1 o a cap (spl c s)] w') : aam C Gp (xsplit et) k := by
  intro vs H v H' hv w0 E w hg inv hok
  unfold xsplit at hv
  split at hv
  · rename_i l x m y
    obtain ⟨h1, hv1⟩ := aab hv
    obtain ⟨h2, hv2⟩ := aab hv1
    clear hv hv1
    rw [aad] at h1
    have h1 : m = 1 := h1
    subst h1
    rw [aac] at h2
    unfold splR at hv2
    generalize hr : spl (UInt8.ofNat y) (dec l x) = r at hv2
    rw [aae] at hv2
    split at hv2
    · cases hv2
    · rename_i hne
      cases hv2
      have hne' : r ≠ [] := fun e => hne (by rw [e]; rfl)
      refine ⟨hE, ?_⟩
      have e : [SV.c (.s l x), SV.c (.s 1 y)].map (SV.re E) = [str (dec l x), str [UInt8.ofNat y]] := by
        show [str (dec l x), str (dec 1 y)] = _
        have : dec 1 y = [UInt8.ofNat y] := by
          simp only [dec]
          congr 1
          apply UInt8.toNat_inj.1
          simp [UInt8.toNat_ofNat']
        rw [this]
      rw [e]
      refine CR.mono (hf (dec l x) (UInt8.ofNat y) w (hC.gp hg inv.hp) (by rw [aah]; exact h2)) ?_
      rintro V w' ⟨o, a, cap, rfl, hp⟩
      rw [hr] at hp ⊢
      have hlen : (r.map fun a => SC.s (aaw a) (enc a)).length = r.length * 1 := by simp
      obtain ⟨E', g1, g2, g3⟩ := row_call inv hp hne' (str_scs E r) (fun x hx => by obtain ⟨a, _, rfl⟩ := List.mem_map.1 hx; trivial) hlen
      refine ⟨E', g1, Nat.le_succ _, ?_, ?_, ?_⟩
      · rw [aaf]; exact g2
      · show H.nx < H.nx + 1; omega
      · rw [aaf]; exact g3
  · cases hv
theorem cst_ok (E : En) : ∀ {xs : List SC} {l : List Str}, cstOf xs = some l → xs.map (SC.re E) = l.flatMap eS
  | [], l, h => by
    have e : [] = l := Option.some.inj h
    subst e; rfl
  | x :: xs, l, h => by
    obtain ⟨q, h1, h⟩ := aaa h
    obtain ⟨r, h2, h⟩ := aaa h
    cases h
    rw [asS_ok h1, List.map_cons, cst_ok E (show cstOf xs = some r from h2)]
    rfl
theorem flat_len : ∀ l : List Str, (l.flatMap eS).length = l.length
  | [] => rfl
  | a :: l => by rw [List.flatMap_cons, List.length_append, flat_len l]; simp [eS]; omega
theorem hcut_rd (inv : Inv w0 E H w) {i base n : Nat} {xs : List SC} (h : hcut H i base n = some xs) : Rd w (some ⟨(E i).1, base, none⟩) (xs.map (SC.re E)) ∧ xs.length = n := by
  obtain ⟨ys, h1, h⟩ := aaa h
  obtain ⟨h2, h⟩ := aab h
  cases h
  rw [aac, aaf] at h2
  rw [aav, ldrop_eq]
  obtain ⟨t, md, hb⟩ := cellsOf_ok h1
  refine ⟨fun j v hj => ⟨_, rfl, ?_⟩, ?_⟩
  · rw [aal]
    rw [List.getElem?_map] at hj
    obtain ⟨x, hx, rfl⟩ := Option.map_eq_some_iff.1 hj
    rw [List.getElem?_take] at hx
    split at hx
    · rw [List.getElem?_drop] at hx
      exact inv.cell hb hx
    · cases hx
  · have h2 : base + n ≤ ys.length := h2
    simp; omega
theorem xjoin_ok (hC : Cok C Gp) (hE : Enters C.P k) (hf : ∀ (t : Str) (w : World) (a : Option Addr) (n cap : Nat) (xs : List Str), n = xs.length → Rd w a (xs.flatMap eS) → n ≤ cap → xs.length ≤ 1000000000 ∧ (Lib.join xs t).length ≤ 100000000000 →
    CR C.P k [.slice a n cap, str t] w fun v w' => v = str (Lib.join xs t) ∧ Hp w [] [] w') : aam C Gp xjoin k := by
  intro vs H v H' hv w0 E w hg inv hok
  unfold xjoin at hv
  split at hv
  · rename_i i base n c m y
    obtain ⟨h1, hv⟩ := aab hv
    obtain ⟨xs, h2, hv⟩ := aaa hv
    obtain ⟨l, h3, hv⟩ := aaa hv
    obtain ⟨h4, hv⟩ := aab hv
    obtain ⟨h5, hv⟩ := aab hv
    obtain ⟨u, h6, hv⟩ := aaa hv
    cases hv
    rw [aac, aaf] at h4 h5
    refine ⟨hE, ?_⟩
    obtain ⟨r1, r2⟩ := hcut_rd inv h2
    have e1 := cst_ok E h3
    rw [e1] at r1
    have e2 : n = l.length := by
      have := congrArg List.length e1
      rw [List.length_map, r2] at this
      rw [this, flat_len]
    have hcap : n ≤ c.re E i := by
      cases c with
      | k cc => have h' : Nat.ble n cc = true := h1; rw [aac] at h'; exact h'
      | r off =>
        have hsd : Sd ⟨C.P, fun _ => none, C.X, C.pure, C.V⟩ ⟨0, none⟩ ⟨.e, H, none⟩ ⟨0, [], none⟩ w0 E w := ⟨rfl, inv, fun t v h => (by rw [Tr.get_e] at h; cases h), fun g cs h => (by cases h)⟩
        have := room_ok hsd (show room ⟨.e, H, none⟩ i (off + n) = true from h1)
        show n ≤ (E i).2 - off
        omega
    refine CR.mono (hf (dec m y) w (some ⟨(E i).1, base, none⟩) n (c.re E i) l e2 r1 hcap ⟨h4, h5⟩) ?_
    rintro V w' ⟨rfl, hp'⟩
    exact ⟨E, Ag.refl _ _, Nat.le_refl _, ⟨inv.hp.call hp', inv.lt, inv.ok⟩, (cv_ok h6 E _).2, (cv_ok h6 E 0).1.symm⟩
  · rename_i m y
    obtain ⟨u, h6, hv⟩ := aaa hv
    cases hv
    refine ⟨hE, ?_⟩
    refine CR.mono (hf (dec m y) w none 0 0 [] rfl (fun j v h => by simp at h) (Nat.le_refl _) ⟨by simp, by simp [Lib.join]⟩) ?_
    rintro V w' ⟨rfl, hp'⟩
    exact ⟨E, Ag.refl _ _, Nat.le_refl _, ⟨inv.hp.call hp', inv.lt, inv.ok⟩, (cv_ok h6 E _).2, (cv_ok h6 E 0).1.symm⟩
  · cases hv
theorem xcc_ok (hC : Cok C Gp) (hE : Enters C.P k) {t : Nat} (hf : ∀ (b : Nat) (z : Bool) (s : Value) (w : World), Hp w (owns [blk b [Value.pointer (bif z then some ⟨b, 0, none⟩ else none), s] t]) [blk b [Value.pointer (bif z then some ⟨b, 0, none⟩ else none), s] t] w →
    CR C.P k [Value.pointer (some ⟨b, 0, none⟩)] w fun v w' => v = .tuple #[] ∧ Hp w (owns [blk b [Value.pointer (bif z then some ⟨b, 0, none⟩ else none), s] t]) [blk b [Value.pointer (some ⟨b, 0, none⟩), s] t] w') : aam C Gp (xcc t) k := by
  intro vs H v H' hv w0 E w hg inv hok
  unfold xcc at hv
  split at hv
  · rename_i i o
    obtain ⟨h1, hv1⟩ := aab hv
    obtain ⟨b, h2, hv2⟩ := aaa hv1
    obtain ⟨q, h3, hv3⟩ := aaa hv2
    obtain ⟨h4, hv4⟩ := aab hv3
    obtain ⟨h5, hv5⟩ := aab hv4
    clear hv hv1 hv2 hv3 hv4
    obtain ⟨t', md, xs⟩ := q
    rw [hbC_ok h3] at h2
    rw [aad] at h1 h4
    have h1 : o = 0 := h1
    have h4 : t' = t := h4
    subst h1; subst h4
    cases md with
    | rw sz mm => cases h5
    | bw => cases h5
    | fb => cases h5
    | ex =>
      split at hv5
      · rename_i a s hxs
        have hxs : xs = [a, s] := hxs
        subst hxs
        obtain ⟨h6, h7⟩ := aab (show bi (Option.rec a.isPt (fun p => bi (Nat.beq p.1 i) (Nat.beq p.2 0) false) a.asP) (some (SV.t [], H.upd i (.cl t' .ex [.p i 0, s]))) none = some (v, H') from hv5)
        cases h7
        have h2 : H.t.get i = some (.cl t' .ex [a, s]) := h2
        have hz : ∃ z : Bool, a.re E = Value.pointer (bif z then some ⟨(E i).1, 0, none⟩ else none) := by
          cases a <;> first | exact ⟨false, rfl⟩ | cases h6 | skip
          obtain ⟨g1, g2⟩ := bb2 h6
          rw [aad] at g1 g2
          have g1 : _ = i := g1
          have g2 : _ = 0 := g2
          subst g1; subst g2
          exact ⟨true, rfl⟩
        obtain ⟨z, hz⟩ := hz
        obtain ⟨cur, tt, fz, c1, c2, c3, c4, c5⟩ := inv.cells h2
        have ht : tt = t' := by
          rcases c2 with h | h
          · cases h
          · exact h
        subst ht
        obtain ⟨c6, c7⟩ := c5
        subst c7
        have hcur : cur = [a.re E, s.re E].toArray := by
          apply Array.toList_inj.1
          have c6' : cur.size = 2 := c6
          have := c4
          rw [List.take_of_length_le (by simp [c6'])] at this
          rw [this]; rfl
        rw [hcur, hz] at c1
        have hst := Hp.start1 c1
        refine ⟨hE, CR.mono (hf (E i).1 z (s.re E) w hst) ?_⟩
        rintro V w' ⟨rfl, hp2⟩
        have hi := inv.lt i _ h2
        have hp0 := inv.hp.front i _ (inv.at h2)
        have hp1 : Hp w0 [] ([blk (E i).1 [Value.pointer (bif z then some ⟨(E i).1, 0, none⟩ else none), s.re E] tt] ++ (aan E H).eraseIdx i) w :=
          hp_weak (k := 0) (r' := blk (E i).1 [Value.pointer (bif z then some ⟨(E i).1, 0, none⟩ else none), s.re E] tt) hp0 rfl rfl (by show w.heap[(E i).1]? = _; exact c1)
        have hp3 := hp1.callK hp2
        have hb3 : w'.heap[(E i).1]? = some (.cells [Value.pointer (some ⟨(E i).1, 0, none⟩), s.re E].toArray tt (0, 0)) := (hp3.res _ List.mem_cons_self).1
        have hp4 : Hp w0 [] (resOf E i (.cl tt .ex [.p i 0, s]) :: (aan E H).eraseIdx i) w' :=
          hp_weak (k := 0) (r' := resOf E i (.cl tt .ex [.p i 0, s])) hp3 rfl rfl ⟨_, tt, (0, 0), hb3, .inr rfl, by simp, by simp [SC.re], rfl, rfl⟩
        refine ⟨E, Ag.refl _ _, Nat.le_refl _, inv.upd hi ?_ (Hp.perm hp4 (set_perm _ _ _ (by rw [aar]; exact hi)).symm), (fun x hx => by cases hx), rfl⟩
        intro x hx
        have hok2 := inv.ok i _ h2
        rcases List.mem_cons.1 hx with rfl | hx
        · exact hi
        · exact hok2 x (List.mem_cons_of_mem _ hx)
      · cases hv5
  · cases hv
end
noncomputable def isT (r : Option (SV × Hs)) : Bool := Option.rec false (fun p => SV.rec (fun x => Option.rec false (fun b => b) x.asB) (fun _ => false) (fun _ => false) false p.1) r
theorem isT_ok {r : Option (SV × Hs)} (h : isT r = true) : ∃ H', r = some (.c (.b true), H') := by
  cases r with
  | none => cases h
  | some p =>
    obtain ⟨v, H⟩ := p
    cases v with
    | c x =>
      have h' : (Option.rec false (fun b => b) x.asB : Bool) = true := h
      cases hb : x.asB with
      | none => rw [hb] at h'; cases h'
      | some b =>
        rw [hb] at h'
        have h' : b = true := h'
        subst h'
        rw [asB_ok hb]
        exact ⟨H, rfl⟩
    | _ => cases h
end Go.Ce
set_option linter.unusedVariables false
namespace Go.Ce
open Go.Wk
noncomputable def memo (l : List (List SV × SV)) (vs : List SV) (H : Hs) : Option (SV × Hs) := List.rec none (fun p _ r => bi (eqL SV.eqb vs p.1) (some (p.2, H)) r) l
noncomputable def aay (C : Cx) (n k : Nat) (p : List SV × SV) : Bool := bi (plV p.1) (bi p.2.pl (Option.rec false (fun q => SV.eqb q.1 p.2) ((lev C n).call k p.1 H0)) false) false
def Ans (C : Cx) (k : Nat) : List (List SV × SV) → Prop
  | [] => True
  | p :: l => (∃ n, aay C n k p = true) ∧ Ans C k l
noncomputable def Cx.memo (C : Cx) (k : Nat) (l : List (List SV × SV)) : Cx := ⟨C.P, C.G, fun j => bi (Nat.beq j k) (some (Ce.memo l)) (C.X j), C.pure, C.V⟩
section
variable {C : Cx} {Gp : World → Prop}
theorem memo_ok (hC : Cok C Gp) (hX : Xok C Gp) {k : Nat} : ∀ {l : List (List SV × SV)}, Ans C k l → aam C Gp (memo l) k
  | [], _ => fun vs H v H' hv => by cases hv
  | p :: l, ⟨⟨n, ha⟩, hl⟩ => by
    intro vs H v H' hv w0 E w hg inv hok
    have hv : bi (eqL SV.eqb vs p.1) (some (p.2, H)) (memo l vs H) = some (v, H') := hv
    rw [aae] at hv
    split at hv
    · rename_i he
      have e := eqL_ok sve_ok he
      cases hv
      subst e
      obtain ⟨h1, h2⟩ := bb2 ha
      obtain ⟨h2, h3⟩ := bb2 h2
      cases hc : (lev C n).call k p.1 H0 with
      | none => rw [hc] at h3; cases h3
      | some q =>
        rw [hc] at h3
        obtain ⟨v, H1⟩ := q
        have e : v = p.2 := sve_ok h3
        subst e
        have hr := fun E w hw => run_says (w := w) hC hX hc h1 h2 hw E
        exact ext_plain hC (hr E w (hC.gp hg inv.hp)).1 h2 (fun E w hw => (hr E w hw).2) hg inv
    · exact memo_ok hC hX hl vs H v H' hv w0 E w hg inv hok
theorem abo (h : Cok C Gp ∧ Xok C Gp) {k : Nat} {l : List (List SV × SV)} (ha : Ans C k l) : Cok (C.memo k l) Gp ∧ Xok (C.memo k l) Gp := by
  obtain ⟨hC, hX⟩ := h
  refine ⟨⟨hC.gp, hC.g, hC.ng, hC.mo, hC.ov⟩, ?_⟩
  intro j f hf
  have hf2 : bi (Nat.beq j k) (some (Ce.memo l)) (C.X j) = some f := hf
  clear hf
  rw [aae] at hf2
  split at hf2
  · rename_i hj
    rw [aad] at hj
    have hj : j = k := hj
    subst hj
    cases hf2
    exact memo_ok hC hX ha
  · exact hX j f hf2
end
end Go.Ce
