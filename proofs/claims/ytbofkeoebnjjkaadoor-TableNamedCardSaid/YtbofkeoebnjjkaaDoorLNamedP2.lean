import Derived.Test.YtbofkeoebnjjkaaDoorLNamedP1
import Derived.Test.YtbofkeoebnjjkaaDoorConA
import Derived.Test.YtbofkeoebnjjkaaDoorConB
import Derived.Test.YtbofkeoebnjjkaaDoorAvB
/- The contracts that TableNamed uses. Conditions: each theorem names its own. -/
namespace Go.Proofs.YtbofkeoebnjjkaaDoor
open Go.Av Tab
set_option linter.unusedVariables false
set_option linter.unusedSimpArgs false
set_option maxRecDepth 4000

/-- All ways to go on with an ascending list. -/
def exL (n : Nat) : Nat → Nat → List (List Nat)
  | 0, _ => [[]]
  | f + 1, fr => (List.range (n - fr)).flatMap fun m => (exL n f (fr + m + 1)).map ((fr + m) :: ·)
def exLTo (n f fr k : Nat) : List (List Nat) := (List.range k).flatMap fun m => (exL n f (fr + m + 1)).map ((fr + m) :: ·)
theorem exLTo_succ (n f fr k : Nat) : exLTo n f fr (k + 1) = exLTo n f fr k ++ (exL n f (fr + k + 1)).map ((fr + k) :: ·) := by
  simp [exLTo, List.range_succ]
theorem exLTo_len {n f fr B : Nat} (h : ∀ c, (exL n f c).length ≤ B) (m : Nat) : (exLTo n f fr m).length ≤ m * B := by
  induction m with
  | zero => simp [exLTo]
  | succ m ih =>
    rw [exLTo_succ, List.length_append, Nat.add_mul, Nat.one_mul, List.length_map]
    have := h (fr + m + 1)
    omega
theorem exL_len {n : Nat} : ∀ (f fr : Nat), (exL n f fr).length ≤ n ^ f
  | 0, fr => by simp [exL]
  | f + 1, fr => by
    have h1 := exLTo_len (n := n) (f := f) (fr := fr) (fun c => exL_len f c) (n - fr)
    have h2 : (n - fr) * n ^ f ≤ n * n ^ f := Nat.mul_le_mul_right _ (by omega)
    rw [Nat.pow_succ, Nat.mul_comm]
    exact Nat.le_trans h1 h2
def plVL (n f fr : Nat) (E : List Nat) (x : AV) : AV :=
  if f = 0 then .imm 1 false [x] else .imm (exL n f fr).length false ((exL n f fr).map fun G => sl (up (E ++ G)))
def lastF (E : List Nat) : Nat := if E.length = 0 then 0 else E.getD (E.length - 1) 0 + 1
theorem lastF_snoc (E : List Nat) (c : Nat) : lastF (E ++ [c]) = c + 1 := by
  rw [lastF, if_neg (by simp)]
  simp [List.getD_eq_getElem?_getD]
/-- ref.lists -/
theorem c85 {n many : Nat} (hn : n ≤ 4) : ∀ (f fr : Nat) (E : List Nat) (x : AV) (H : Heap) (K : AV → Heap → Prop), Reads H x (up E) → E.length + f = many → lastF E = fr → fr ≤ n → many ≤ 4 →
    K (plVL n f fr E x) H → ACalls Tryd.prog 85 [.int .i64 n, .int .i64 many, x] H K := by
  intro f
  induction f with
  | zero =>
    intro fr E x H K hx he hfr hfn hm4 hk
    apply W85_ok
    unfold W85
    have hxl := hx.len
    rw [up_length] at hxl
    have e1 : ((E.length : Int) == (many : Int)) = true := by rw [← he]; exact beq_self_eq_true _
    simp only [letO_some, cellsOf?_agg, cellsOf?_int, cellsOf?_bool, cellsOf?_imm, cellsOf?_ref, cellsOf?_nils, faddr_iptr, faddr_ptr, List.drop_succ_cons, List.drop_zero, List.take_succ_cons, List.take_zero, load1_iptr, loadN_iptr, List.length_cons, List.length_nil, Nat.le_refl, if_true, List.getElem?_cons_zero, List.getElem?_cons_succ, List.getD_cons_zero, List.getD_cons_succ, extrF_tup, binF_add, binF_sub, binF_mul, binF_eql, binF_neq, binF_lss, binF_leq, binF_gtr, binF_geq, true_and, hxl, e1, condA_tt, l22 hx.cells]
    rw [plVL, if_pos rfl] at hk
    exact endK_weak (endK_ret hk)
  | succ f ih =>
    intro fr E x H K hx he hfr hfn hm4 hk
    apply W85_ok
    unfold W85
    have hxl := hx.len
    rw [up_length] at hxl
    have e1 : ((E.length : Int) == (many : Int)) = false := by rw [beq_eq_false_iff_ne]; omega
    simp only [letO_some, cellsOf?_agg, cellsOf?_int, cellsOf?_bool, cellsOf?_imm, cellsOf?_ref, cellsOf?_nils, faddr_iptr, faddr_ptr, List.drop_succ_cons, List.drop_zero, List.take_succ_cons, List.take_zero, load1_iptr, loadN_iptr, List.length_cons, List.length_nil, Nat.le_refl, if_true, List.getElem?_cons_zero, List.getElem?_cons_succ, List.getD_cons_zero, List.getD_cons_succ, extrF_tup, binF_add, binF_sub, binF_mul, binF_eql, binF_neq, binF_lss, binF_leq, binF_gtr, binF_geq, true_and, hxl, e1, condA_ff]
    rw [plVL, if_neg (by omega)] at hk
    have hB : ∀ c, (exL n f c).length ≤ 4 ^ 4 := fun c => by
      have h1 := exL_len (n := n) f c
      have h2 : n ^ f ≤ 4 ^ f := Nat.pow_le_pow_left hn f
      have h3 : 4 ^ f ≤ 4 ^ 4 := Nat.pow_le_pow_right (by decide) (by omega)
      omega
    refine ⟨fun L H' => eqt L [.int .i64 fr] ∧ eqt H' H, ?_, ?_⟩
    · refine condA_t (fun hpos => ?_) (fun hz => ?_)
      · have h0 : 0 < E.length := by omega
        rw [wrap_i64 (by omega) (by omega)]
        have e2 : ((E.length : Int) - 1) = ((E.length - 1 : Nat) : Int) := by omega
        rw [e2]
        refine hx.get (Heap.le_refl _) (by omega) (by rw [up_length]; omega) ?_
        rw [Int.toNat_natCast, up_getD]
        rw [lastF, if_neg (by omega)] at hfr
        try simp only [letO_some, cellsOf?_agg, cellsOf?_int, cellsOf?_bool, cellsOf?_imm, cellsOf?_ref, cellsOf?_nils, faddr_iptr, faddr_ptr, List.drop_succ_cons, List.drop_zero, List.take_succ_cons, List.take_zero, load1_iptr, loadN_iptr, List.length_cons, List.length_nil, Nat.le_refl, if_true, List.getElem?_cons_zero, List.getElem?_cons_succ, List.getD_cons_zero, List.getD_cons_succ, extrF_tup, binF_add, binF_sub, binF_mul, binF_eql, binF_neq, binF_lss, binF_leq, binF_gtr, binF_geq, true_and]
        rw [wrap_i64 (by omega) (by omega)]
        refine ⟨?_, rfl⟩
        unfold eqt
        congr 2
        omega
      · rw [lastF, if_pos (by omega)] at hfr
        subst hfr
        exact ⟨rfl, rfl⟩
    rintro L Hq ⟨rfl, rfl⟩
    try simp only [letO_some, cellsOf?_agg, cellsOf?_int, cellsOf?_bool, cellsOf?_imm, cellsOf?_ref, cellsOf?_nils, faddr_iptr, faddr_ptr, List.drop_succ_cons, List.drop_zero, List.take_succ_cons, List.take_zero, load1_iptr, loadN_iptr, List.length_cons, List.length_nil, Nat.le_refl, if_true, List.getElem?_cons_zero, List.getElem?_cons_succ, List.getD_cons_zero, List.getD_cons_succ, extrF_tup, binF_add, binF_sub, binF_mul, binF_eql, binF_neq, binF_lss, binF_leq, binF_gtr, binF_geq, true_and]
    refine ⟨fun L H' => ∃ (m : Nat) (X : AV) (xs : List AV) (H1 : Heap), eqt L [X, .int .i64 ((fr + m : Nat) : Int)] ∧ fr + m ≤ n ∧ Hq.le H1 ∧ Grow 1 H1 H' X xs.length xs ∧ ∀ H2, H1.le H2 → xs.map (conv Hq H2 1) = (exLTo n f fr m).map fun G => sl (up (E ++ G)), fun L _ => (n - iv L 1).toNat,
      ⟨0, .nils, [], Hq, rfl, by omega, Heap.le_refl _, Grow.nils 1 Hq, fun _ _ => by simp [exLTo]⟩, ?_⟩
    intro L H' hI
    obtain ⟨m, X, xs, H1, rfl, hm, hle1, hg, hxs⟩ := hI
    have hleH : Hq.le H' := Heap.le_trans hle1 hg.le
    have hxslen : xs.length = (exLTo n f fr m).length := by
      have := congrArg List.length (hxs H1 (Heap.le_refl _)); simpa using this
    have hxb := exLTo_len (n := n) (f := f) (fr := fr) hB m
    have hxb2 : m * 4 ^ 4 ≤ 4 * 4 ^ 4 := Nat.mul_le_mul_right _ (by omega)
    try simp only [letO_some, cellsOf?_agg, cellsOf?_int, cellsOf?_bool, cellsOf?_imm, cellsOf?_ref, cellsOf?_nils, faddr_iptr, faddr_ptr, List.drop_succ_cons, List.drop_zero, List.take_succ_cons, List.take_zero, load1_iptr, loadN_iptr, List.length_cons, List.length_nil, Nat.le_refl, if_true, List.getElem?_cons_zero, List.getElem?_cons_succ, List.getD_cons_zero, List.getD_cons_succ, extrF_tup, binF_add, binF_sub, binF_mul, binF_eql, binF_neq, binF_lss, binF_leq, binF_gtr, binF_geq, true_and]
    refine condA_t (fun hlt => ?_) (fun hgt => ?_)
    · have hmn : fr + m < n := by omega
      simp only [l23n, l23 cellsOf?_int, letO_some]
      refine appendA_grow (Grow.imm (H := H') (sz := 1) (n := 0) (cells := []) rfl) (reads_src (hx.le hleH)) (by simp [ints, isScalar]) (by simp) (by rw [up_length]; omega) (by rw [up_length]; omega) fun t36 H12 g36 => ?_
      rw [List.nil_append, Nat.zero_add, up_length] at g36
      refine appendA_oneR g36 (by omega) fun t39 H13 g39 o39 => ?_
      have hup : up E ++ [((fr + m : Nat) : Int)] = up (E ++ [fr + m]) := by simp [up]
      rw [hup] at g39
      have hr39 := g39.reads
      obtain ⟨b13, hb13, rfl, rfl⟩ := g39.own o39
      have hle13 : H'.le (H'.put b13 (ints (up (E ++ [fr + m])))) := Heap.le_put_self hb13
      refine ih (fr + m + 1) (E ++ [fr + m]) _ _ _ hr39 (by simp; omega) (lastF_snoc _ _) (by omega) hm4 ?_
      have hb1 := fresh_of hg.le hb13
      have hbH := fresh_of hle1 hb1
      have hgX := alloc_grow (cs := ints (up (E ++ [fr + m]))) hg hb13
      have hx2 := exLTo_succ n f fr m
      have hle1' : Hq.le (H1.put b13 (ints (up (E ++ [fr + m])))) := Heap.le_trans hle1 (Heap.le_put_self hb1)
      by_cases hf0 : f = 0
      · subst hf0
        have hallv : plVL n 0 (fr + m + 1) (E ++ [fr + m]) (.ref 1 b13 0 (E.length + 1) none) = .imm 1 false [.ref 1 b13 0 (E.length + 1) none] := by rw [plVL, if_pos rfl]
        rw [hallv]
        refine appendA_grow hgX (m := 1) (new := [.ref 1 b13 0 (E.length + 1) none]) (by simp [srcOf]) rfl rfl (by omega) (by omega) fun v' H14 g14 => ?_
        rw [wrap_i64 (by omega) (by omega)]
        refine ⟨⟨m + 1, v', xs ++ [.ref 1 b13 0 (E.length + 1) none], _, by unfold eqt; congr 3, by omega, hle1', by simpa using g14, fun H2 hle2 => ?_⟩, by simp <;> omega⟩
        rw [List.map_append, hxs H2 (Heap.le_trans (Heap.le_put_self hb1) hle2), hx2, List.map_append]
        have := conv_own (l := up (E ++ [fr + m])) hbH (hle2 _ _ Heap.put_same) 0 (n := E.length + 1) (by simp [up])
        simp only [exL, List.map_cons, List.map_nil]
        rw [this]
      · have hallv : plVL n f (fr + m + 1) (E ++ [fr + m]) (.ref 1 b13 0 (E.length + 1) none) = .imm (exL n f (fr + m + 1)).length false ((exL n f (fr + m + 1)).map fun G => sl (up (E ++ [fr + m] ++ G))) := by rw [plVL, if_neg hf0]
        rw [hallv]
        have hBj := hB (fr + m + 1)
        refine appendA_grow hgX (m := (exL n f (fr + m + 1)).length) (new := (exL n f (fr + m + 1)).map fun G => sl (up (E ++ [fr + m] ++ G))) (by simp [srcOf]) (by simp [isScalar, sl]) (by simp) (by omega) (by omega) fun v' H14 g14 => ?_
        rw [wrap_i64 (by omega) (by omega)]
        refine ⟨⟨m + 1, v', xs ++ (exL n f (fr + m + 1)).map fun G => sl (up (E ++ [fr + m] ++ G)), _, by unfold eqt; congr 3, by omega, hle1', by simpa using g14, fun H2 hle2 => ?_⟩, by simp <;> omega⟩
        rw [List.map_append, hxs H2 (Heap.le_trans (Heap.le_put_self hb1) hle2), hx2, List.map_append, List.map_map, List.map_map]
        congr 1
        refine List.map_congr_left fun G _ => ?_
        simp only [Function.comp, conv_sl]
        rw [List.append_assoc, List.singleton_append]
    · have hm' : m = n - fr := by omega
      subst hm'
      refine endK_all hleH 2 ?_
      rw [conv_grow hg hle1, hxs H' hg.le, hxslen]
      exact hk
def listsS (n many : Nat) : List (List Nat) := exL n many 0
theorem c85n {n many : Nat} {H : Heap} {K : AV → Heap → Prop} (hn : n ≤ 4) (hm : 1 ≤ many ∧ many ≤ 4) (hk : K (tl ((listsS n many).map up)) H) : ACalls Tryd.prog 85 [.int .i64 n, .int .i64 many, .nils] H K := by
  refine c85 hn many 0 [] .nils H K rfl (by simp) rfl (by omega) hm.2 ?_
  rw [plVL, if_neg (by omega)]
  have e : (.imm (exL n many 0).length false ((exL n many 0).map fun G => sl (up ([] ++ G))) : AV) = tl ((listsS n many).map up) := by
    simp [tl, listsS, Function.comp_def]
  rw [e]; exact hk
theorem exL_mem {n : Nat} : ∀ (f fr : Nat) (G : List Nat), G ∈ exL n f fr → G.length = f ∧ ∀ c ∈ G, c < n
  | 0, fr, G, h => by simp [exL] at h; subst h; simp
  | f + 1, fr, G, h => by
    simp only [exL, List.mem_flatMap, List.mem_range] at h
    obtain ⟨m, hm, h⟩ := h
    obtain ⟨G', h1, rfl⟩ := List.mem_map.1 h
    obtain ⟨h2, h3⟩ := exL_mem f _ _ h1
    refine ⟨by simp [h2], fun x hx => ?_⟩
    rcases List.mem_cons.1 hx with rfl | hx
    · omega
    · exact h3 x hx
/-- Columns that have 0 in all of some rows. -/
def zerosZ (t : Tb) (p : List Int) : List Nat := (List.range t.length).filter fun c => p.all fun r => decide (cell t r.toNat c = 0)
/-- ref.zeros -/
theorem c86 {v u : AV} {t : Tbl} {p : List Int} {H : Heap} {K : AV → Heap → Prop} (hc : chkT t = 0) (hv : RT H v t) (hu : Reads H u p) (hp : ∀ r ∈ p, 0 ≤ r ∧ r < t.length) (hl : p.length < 2 ^ 63) (hk : K (sl (up (zerosZ t p))) H) : ACalls Tryd.prog 86 [v, u] H K := by
  apply W86_ok
  unfold W86
  obtain ⟨n1, n2, hrows⟩ := chkT_ok hc
  simp only [letO_some, cellsOf?_agg, cellsOf?_int, cellsOf?_bool, cellsOf?_imm, cellsOf?_ref, cellsOf?_nils, faddr_iptr, faddr_ptr, List.drop_succ_cons, List.drop_zero, List.take_succ_cons, List.take_zero, load1_iptr, loadN_iptr, List.length_cons, List.length_nil, Nat.le_refl, if_true, List.getElem?_cons_zero, List.getElem?_cons_succ, List.getD_cons_zero, List.getD_cons_succ, extrF_tup, binF_add, binF_sub, binF_mul, binF_eql, binF_neq, binF_lss, binF_leq, binF_gtr, binF_geq, true_and, hv.len, hu.len]
  refine ⟨fun L H' => ∃ (i : Nat) (X : AV), eqt L [X, .int .i64 i] ∧ i ≤ t.length ∧ ∃ l : List Nat, Grow 1 H H' X l.length (ints (up l)) ∧ l = (List.range i).filter fun c => p.all fun r => decide (cell t r.toNat c = 0), fun L _ => (t.length - iv L 1).toNat, ⟨0, .nils, rfl, by omega, [], Grow.nils 1 H, rfl⟩, ?_⟩
  rintro L H' ⟨i, X, rfl, hi, l, hg, hll⟩
  have hle := hg.le
  try simp only [letO_some, cellsOf?_agg, cellsOf?_int, cellsOf?_bool, cellsOf?_imm, cellsOf?_ref, cellsOf?_nils, faddr_iptr, faddr_ptr, List.drop_succ_cons, List.drop_zero, List.take_succ_cons, List.take_zero, load1_iptr, loadN_iptr, List.length_cons, List.length_nil, Nat.le_refl, if_true, List.getElem?_cons_zero, List.getElem?_cons_succ, List.getD_cons_zero, List.getD_cons_succ, extrF_tup, binF_add, binF_sub, binF_mul, binF_eql, binF_neq, binF_lss, binF_leq, binF_gtr, binF_geq, true_and]
  refine condA_t (fun hlt => ?_) (fun hge => ?_)
  · have a1 : i < t.length := by omega
    refine ⟨fun L H'' => ∃ X' : AV, eqt L [X'] ∧ ∃ l : List Nat, Grow 1 H H'' X' l.length (ints (up l)) ∧ l = (List.range (i + 1)).filter fun c => p.all fun r => decide (cell t r.toNat c = 0), ?_, ?_⟩
    · refine ⟨fun L H'' => ∃ j : Nat, eqt L [.bool ((p.take j).all fun r => decide (cell t r.toNat i = 0)), .int .i64 j] ∧ j ≤ p.length ∧ eqt H'' H', fun L _ => (p.length - iv L 1).toNat, ⟨0, rfl, by omega, rfl⟩, ?_⟩
      rintro L H'' ⟨j, rfl, hj, rfl⟩
      try simp only [letO_some, cellsOf?_agg, cellsOf?_int, cellsOf?_bool, cellsOf?_imm, cellsOf?_ref, cellsOf?_nils, faddr_iptr, faddr_ptr, List.drop_succ_cons, List.drop_zero, List.take_succ_cons, List.take_zero, load1_iptr, loadN_iptr, List.length_cons, List.length_nil, Nat.le_refl, if_true, List.getElem?_cons_zero, List.getElem?_cons_succ, List.getD_cons_zero, List.getD_cons_succ, extrF_tup, binF_add, binF_sub, binF_mul, binF_eql, binF_neq, binF_lss, binF_leq, binF_gtr, binF_geq, true_and]
      refine condA_t (fun hlt2 => ?_) (fun hge2 => ?_)
      · have b1 : j < p.length := by omega
        have g1 : p.getD j 0 = p[j] := by simp [List.getD_eq_getElem?_getD, b1]
        have hpj := hp p[j] (List.getElem_mem b1)
        have hstep : ((p.take (j + 1)).all fun r => decide (cell t r.toNat i = 0)) = (((p.take j).all fun r => decide (cell t r.toNat i = 0)) && decide (cell t p[j].toNat i = 0)) := by
          rw [take_snoc b1, List.all_append]; simp
        have hrl : (t.getD p[j].toNat []).length = t.length := row_len hc (by omega)
        cases hb : ((p.take j).all fun r => decide (cell t r.toNat i = 0)) with
        | true =>
          simp only [gval_bool, Int.reduceBNe, Int.reduceBEq, pickF_true, pickF_false, reduceIte, Bool.true_eq_false, Bool.false_eq_true, if_false, condA_tt, condA_ff, condG_tt, condG_ff, condG_tt', condG_ff', condG_undef, gval_undef, letO_some, cellsOf?_agg, cellsOf?_int, cellsOf?_bool, cellsOf?_imm, cellsOf?_ref, cellsOf?_nils, faddr_iptr, faddr_ptr, List.drop_succ_cons, List.drop_zero, List.take_succ_cons, List.take_zero, load1_iptr, loadN_iptr, List.length_cons, List.length_nil, Nat.le_refl, if_true, List.getElem?_cons_zero, List.getElem?_cons_succ, List.getD_cons_zero, List.getD_cons_succ, extrF_tup, binF_add, binF_sub, binF_mul, binF_eql, binF_neq, binF_lss, binF_leq, binF_gtr, binF_geq, true_and]
          refine hu.get hle (by omega) (by omega) ?_
          rw [Int.toNat_natCast, g1]
          try simp only [letO_some, cellsOf?_agg, cellsOf?_int, cellsOf?_bool, cellsOf?_imm, cellsOf?_ref, cellsOf?_nils, faddr_iptr, faddr_ptr, List.drop_succ_cons, List.drop_zero, List.take_succ_cons, List.take_zero, load1_iptr, loadN_iptr, List.length_cons, List.length_nil, Nat.le_refl, if_true, List.getElem?_cons_zero, List.getElem?_cons_succ, List.getD_cons_zero, List.getD_cons_succ, extrF_tup, binF_add, binF_sub, binF_mul, binF_eql, binF_neq, binF_lss, binF_leq, binF_gtr, binF_geq, true_and]
          refine hv.get hle hpj.1 (by omega) fun a ha => ?_
          try simp only [letO_some, cellsOf?_agg, cellsOf?_int, cellsOf?_bool, cellsOf?_imm, cellsOf?_ref, cellsOf?_nils, faddr_iptr, faddr_ptr, List.drop_succ_cons, List.drop_zero, List.take_succ_cons, List.take_zero, load1_iptr, loadN_iptr, List.length_cons, List.length_nil, Nat.le_refl, if_true, List.getElem?_cons_zero, List.getElem?_cons_succ, List.getD_cons_zero, List.getD_cons_succ, extrF_tup, binF_add, binF_sub, binF_mul, binF_eql, binF_neq, binF_lss, binF_leq, binF_gtr, binF_geq, true_and]
          refine ha.get hle (by omega) (by omega) ?_
          rw [Int.toNat_natCast, show (t.getD p[j].toNat []).getD i 0 = cell t p[j].toNat i from rfl]
          simp only [gval_bool, Int.reduceBNe, Int.reduceBEq, pickF_true, pickF_false, reduceIte, Bool.true_eq_false, Bool.false_eq_true, if_false, condA_tt, condA_ff, condG_tt, condG_ff, condG_tt', condG_ff', condG_undef, gval_undef, letO_some, cellsOf?_agg, cellsOf?_int, cellsOf?_bool, cellsOf?_imm, cellsOf?_ref, cellsOf?_nils, faddr_iptr, faddr_ptr, List.drop_succ_cons, List.drop_zero, List.take_succ_cons, List.take_zero, load1_iptr, loadN_iptr, List.length_cons, List.length_nil, Nat.le_refl, if_true, List.getElem?_cons_zero, List.getElem?_cons_succ, List.getD_cons_zero, List.getD_cons_succ, extrF_tup, binF_add, binF_sub, binF_mul, binF_eql, binF_neq, binF_lss, binF_leq, binF_gtr, binF_geq, true_and]
          rw [wrap_i64 (by omega) (by omega)]
          refine ⟨⟨j + 1, ?_, by omega, rfl⟩, by simp <;> omega⟩
          rw [hstep, hb, Bool.true_and]
          have : (cell t p[j].toNat i == 0) = decide (cell t p[j].toNat i = 0) := rfl
          rw [this]; rfl
        | false =>
          simp only [gval_bool, Int.reduceBNe, Int.reduceBEq, pickF_true, pickF_false, reduceIte, Bool.true_eq_false, Bool.false_eq_true, if_false, condA_tt, condA_ff, condG_tt, condG_ff, condG_tt', condG_ff', condG_undef, gval_undef, letO_some, cellsOf?_agg, cellsOf?_int, cellsOf?_bool, cellsOf?_imm, cellsOf?_ref, cellsOf?_nils, faddr_iptr, faddr_ptr, List.drop_succ_cons, List.drop_zero, List.take_succ_cons, List.take_zero, load1_iptr, loadN_iptr, List.length_cons, List.length_nil, Nat.le_refl, if_true, List.getElem?_cons_zero, List.getElem?_cons_succ, List.getD_cons_zero, List.getD_cons_succ, extrF_tup, binF_add, binF_sub, binF_mul, binF_eql, binF_neq, binF_lss, binF_leq, binF_gtr, binF_geq, true_and]
          rw [wrap_i64 (by omega) (by omega)]
          refine ⟨⟨j + 1, ?_, by omega, rfl⟩, by simp <;> omega⟩
          rw [hstep, hb, Bool.false_and]; rfl
      · have hje : j = p.length := by omega
        subst hje
        rw [List.take_length]
        have hstep : ((List.range (i + 1)).filter fun c => p.all fun r => decide (cell t r.toNat c = 0)) = l ++ if (p.all fun r => decide (cell t r.toNat i = 0)) = true then [i] else [] := by
          rw [List.range_succ, List.filter_append, ← hll]
          cases h : (p.all fun r => decide (cell t r.toNat i = 0)) <;> simp [h]
        have hl4 : l.length ≤ 4 := by
          rw [hll]
          refine Nat.le_trans (List.length_filter_le _ _) ?_
          simp; omega
        cases hb : (p.all fun r => decide (cell t r.toNat i = 0)) with
        | true =>
          simp only [condA_tt, l23 cellsOf?_int, letO_some]
          refine appendA_oneR hg (by omega) fun v' H7 hg7 _ => ?_
          refine ⟨v', rfl, l ++ [i], ?_, by rw [hstep, hb]; rfl⟩
          have e : up (l ++ [i]) = up l ++ [(i : Int)] := by simp [up]
          rw [e, List.length_append]
          exact hg7
        | false =>
          simp only [condA_ff]
          exact ⟨X, rfl, l, hg, by rw [hstep, hb]; simp⟩
    · rintro L H'' ⟨X', rfl, l', hg', hl'⟩
      try simp only [letO_some, cellsOf?_agg, cellsOf?_int, cellsOf?_bool, cellsOf?_imm, cellsOf?_ref, cellsOf?_nils, faddr_iptr, faddr_ptr, List.drop_succ_cons, List.drop_zero, List.take_succ_cons, List.take_zero, load1_iptr, loadN_iptr, List.length_cons, List.length_nil, Nat.le_refl, if_true, List.getElem?_cons_zero, List.getElem?_cons_succ, List.getD_cons_zero, List.getD_cons_succ, extrF_tup, binF_add, binF_sub, binF_mul, binF_eql, binF_neq, binF_lss, binF_leq, binF_gtr, binF_geq, true_and]
      rw [wrap_i64 (by omega) (by omega)]
      exact ⟨⟨i + 1, X', rfl, by omega, l', hg', hl'⟩, by simp <;> omega⟩
  · have hie : i = t.length := by omega
    subst hie
    refine hg.end1 ?_
    have e : (.imm l.length false (ints (up l)) : AV) = sl (up (zerosZ t p)) := by
      rw [show zerosZ t p = l from hll.symm]
      simp [sl]
    rw [e]; exact hk
/-- ref.listed -/
theorem c88 {v : AV} {l : List Int} {n : Nat} {H : Heap} {K : AV → Heap → Prop} (hv : Reads H v l) (hn : n ≤ 4) (hl : l.length < 2 ^ 63) (hk : K (.int .i64 (rdE n (-1) l)) H) : ACalls Tryd.prog 88 [.int .i64 n, v] H K := by
  apply W88_ok
  unfold W88
  simp only [letO_some, cellsOf?_agg, cellsOf?_int, cellsOf?_bool, cellsOf?_imm, cellsOf?_ref, cellsOf?_nils, faddr_iptr, faddr_ptr, List.drop_succ_cons, List.drop_zero, List.take_succ_cons, List.take_zero, load1_iptr, loadN_iptr, List.length_cons, List.length_nil, Nat.le_refl, if_true, List.getElem?_cons_zero, List.getElem?_cons_succ, List.getD_cons_zero, List.getD_cons_succ, extrF_tup, binF_add, binF_sub, binF_mul, binF_eql, binF_neq, binF_lss, binF_leq, binF_gtr, binF_geq, true_and, hv.len]
  refine ⟨fun L H' => ∃ i : Nat, eqt L [.int .i64 i] ∧ i ≤ l.length ∧ eqt H' H ∧ rdE n (-1) l = rdE n (if i = 0 then -1 else l.getD (i - 1) 0) (l.drop i), fun L _ => (l.length - iv L 0).toNat, ⟨0, rfl, by omega, rfl, by simp⟩, ?_⟩
  rintro L H' ⟨i, rfl, hi, rfl, he⟩
  try simp only [letO_some, cellsOf?_agg, cellsOf?_int, cellsOf?_bool, cellsOf?_imm, cellsOf?_ref, cellsOf?_nils, faddr_iptr, faddr_ptr, List.drop_succ_cons, List.drop_zero, List.take_succ_cons, List.take_zero, load1_iptr, loadN_iptr, List.length_cons, List.length_nil, Nat.le_refl, if_true, List.getElem?_cons_zero, List.getElem?_cons_succ, List.getD_cons_zero, List.getD_cons_succ, extrF_tup, binF_add, binF_sub, binF_mul, binF_eql, binF_neq, binF_lss, binF_leq, binF_gtr, binF_geq, true_and]
  refine condA_t (fun hlt => ?_) (fun hge => ?_)
  · have a1 : i < l.length := by omega
    have g1 : l.getD i 0 = l[i] := by simp [List.getD_eq_getElem?_getD, a1]
    rw [List.drop_eq_getElem_cons a1, rdE] at he
    refine hv.get (Heap.le_refl _) (by omega) (by omega) ?_
    rw [Int.toNat_natCast, g1]
    try simp only [letO_some, cellsOf?_agg, cellsOf?_int, cellsOf?_bool, cellsOf?_imm, cellsOf?_ref, cellsOf?_nils, faddr_iptr, faddr_ptr, List.drop_succ_cons, List.drop_zero, List.take_succ_cons, List.take_zero, load1_iptr, loadN_iptr, List.length_cons, List.length_nil, Nat.le_refl, if_true, List.getElem?_cons_zero, List.getElem?_cons_succ, List.getD_cons_zero, List.getD_cons_succ, extrF_tup, binF_add, binF_sub, binF_mul, binF_eql, binF_neq, binF_lss, binF_leq, binF_gtr, binF_geq, true_and]
    rw [wrap_i64 (by omega) (by omega)]
    refine c78 ?_
    try simp only [not_v, letO_some, cellsOf?_agg, cellsOf?_int, cellsOf?_bool, cellsOf?_imm, cellsOf?_ref, cellsOf?_nils, faddr_iptr, faddr_ptr, List.drop_succ_cons, List.drop_zero, List.take_succ_cons, List.take_zero, load1_iptr, loadN_iptr, List.length_cons, List.length_nil, Nat.le_refl, if_true, List.getElem?_cons_zero, List.getElem?_cons_succ, List.getD_cons_zero, List.getD_cons_succ, extrF_tup, binF_add, binF_sub, binF_mul, binF_eql, binF_neq, binF_lss, binF_leq, binF_gtr, binF_geq, true_and]
    by_cases hbad : l[i] < 0 ∨ (n : Int) ≤ l[i]
    · rw [if_pos hbad] at he
      have e : decide (0 ≤ l[i] ∧ l[i] ≤ (n : Int) - 1) = false := decide_eq_false (by omega)
      simp only [e, Bool.not_false, condA_tt]
      rw [he] at hk
      exact endK_ret hk
    · rw [if_neg hbad] at he
      have e : decide (0 ≤ l[i] ∧ l[i] ≤ (n : Int) - 1) = true := decide_eq_true (by omega)
      simp only [e, Bool.not_true, condA_ff, letO_some, cellsOf?_agg, cellsOf?_int, cellsOf?_bool, cellsOf?_imm, cellsOf?_ref, cellsOf?_nils, faddr_iptr, faddr_ptr, List.drop_succ_cons, List.drop_zero, List.take_succ_cons, List.take_zero, load1_iptr, loadN_iptr, List.length_cons, List.length_nil, Nat.le_refl, if_true, List.getElem?_cons_zero, List.getElem?_cons_succ, List.getD_cons_zero, List.getD_cons_succ, extrF_tup, binF_add, binF_sub, binF_mul, binF_eql, binF_neq, binF_lss, binF_leq, binF_gtr, binF_geq, true_and]
      have next : ∀ (h : ¬ l[i] ≤ (if i = 0 then -1 else l.getD (i - 1) 0)), rdE n (-1) l = rdE n (if i + 1 = 0 then -1 else l.getD (i + 1 - 1) 0) (l.drop (i + 1)) := by
        intro h
        rw [he, if_neg h, if_neg (by omega), Nat.add_sub_cancel, g1]
      by_cases h0 : i = 0
      · subst h0
        have e2 : decide ((0 : Int) < ((0 : Nat) : Int)) = false := rfl
        simp only [e2, gval_bool, Int.reduceBNe, Int.reduceBEq, pickF_true, pickF_false, reduceIte, Bool.true_eq_false, Bool.false_eq_true, if_false, condA_tt, condA_ff, condG_tt, condG_ff, condG_tt', condG_ff', condG_undef, gval_undef, letO_some, cellsOf?_agg, cellsOf?_int, cellsOf?_bool, cellsOf?_imm, cellsOf?_ref, cellsOf?_nils, faddr_iptr, faddr_ptr, List.drop_succ_cons, List.drop_zero, List.take_succ_cons, List.take_zero, load1_iptr, loadN_iptr, List.length_cons, List.length_nil, Nat.le_refl, if_true, List.getElem?_cons_zero, List.getElem?_cons_succ, List.getD_cons_zero, List.getD_cons_succ, extrF_tup, binF_add, binF_sub, binF_mul, binF_eql, binF_neq, binF_lss, binF_leq, binF_gtr, binF_geq, true_and]
        rw [wrap_i64 (by omega) (by omega)]
        refine ⟨⟨1, rfl, by omega, rfl, next ?_⟩, by simp <;> omega⟩
        rw [if_pos rfl]; omega
      · have e2 : decide ((0 : Int) < (i : Int)) = true := decide_eq_true (by omega)
        rw [if_neg h0] at he
        simp only [e2, gval_bool, Int.reduceBNe, Int.reduceBEq, pickF_true, pickF_false, reduceIte, Bool.true_eq_false, Bool.false_eq_true, if_false, condA_tt, condA_ff, condG_tt, condG_ff, condG_tt', condG_ff', condG_undef, gval_undef, letO_some, cellsOf?_agg, cellsOf?_int, cellsOf?_bool, cellsOf?_imm, cellsOf?_ref, cellsOf?_nils, faddr_iptr, faddr_ptr, List.drop_succ_cons, List.drop_zero, List.take_succ_cons, List.take_zero, load1_iptr, loadN_iptr, List.length_cons, List.length_nil, Nat.le_refl, if_true, List.getElem?_cons_zero, List.getElem?_cons_succ, List.getD_cons_zero, List.getD_cons_succ, extrF_tup, binF_add, binF_sub, binF_mul, binF_eql, binF_neq, binF_lss, binF_leq, binF_gtr, binF_geq, true_and]
        refine hv.get (Heap.le_refl _) (by omega) (by omega) ?_
        rw [Int.toNat_natCast, g1]
        rw [wrap_i64 (n := (i : Int) - 1) (by omega) (by omega)]
        try simp only [letO_some, cellsOf?_agg, cellsOf?_int, cellsOf?_bool, cellsOf?_imm, cellsOf?_ref, cellsOf?_nils, faddr_iptr, faddr_ptr, List.drop_succ_cons, List.drop_zero, List.take_succ_cons, List.take_zero, load1_iptr, loadN_iptr, List.length_cons, List.length_nil, Nat.le_refl, if_true, List.getElem?_cons_zero, List.getElem?_cons_succ, List.getD_cons_zero, List.getD_cons_succ, extrF_tup, binF_add, binF_sub, binF_mul, binF_eql, binF_neq, binF_lss, binF_leq, binF_gtr, binF_geq, true_and]
        refine hv.get (Heap.le_refl _) (by omega) (by omega) ?_
        rw [show ((i : Int) - 1).toNat = i - 1 by omega]
        simp only [gval_bool, Int.reduceBNe, Int.reduceBEq, pickF_true, pickF_false, reduceIte, Bool.true_eq_false, Bool.false_eq_true, if_false, condA_tt, condA_ff, condG_tt, condG_ff, condG_tt', condG_ff', condG_undef, gval_undef, letO_some, cellsOf?_agg, cellsOf?_int, cellsOf?_bool, cellsOf?_imm, cellsOf?_ref, cellsOf?_nils, faddr_iptr, faddr_ptr, List.drop_succ_cons, List.drop_zero, List.take_succ_cons, List.take_zero, load1_iptr, loadN_iptr, List.length_cons, List.length_nil, Nat.le_refl, if_true, List.getElem?_cons_zero, List.getElem?_cons_succ, List.getD_cons_zero, List.getD_cons_succ, extrF_tup, binF_add, binF_sub, binF_mul, binF_eql, binF_neq, binF_lss, binF_leq, binF_gtr, binF_geq, true_and]
        refine condA_t (fun hh => ?_) (fun hh => ?_)
        · rw [if_pos hh] at he
          rw [he] at hk
          exact endK_ret hk
        · rw [wrap_i64 (by omega) (by omega)]
          refine ⟨⟨i + 1, rfl, by omega, rfl, next ?_⟩, by simp <;> omega⟩
          rw [if_neg h0]; exact hh
  · have hie : i = l.length := by omega
    subst hie
    rw [List.drop_length, rdE] at he
    rw [he] at hk
    exact endK_ret hk
theorem zerosZ_mem {t : Tb} {p : List Int} {c : Nat} (hc : c < t.length) : c ∈ zerosZ t p ↔ ∀ r ∈ p, cell t r.toNat c = 0 := by
  simp [zerosZ, hc]
theorem hitB_iff {t : Tb} {rows cols : List Int} : hitB t rows cols = true ↔ ∃ r ∈ rows, ∃ c ∈ cols, 0 < cell t r.toNat c.toNat := by
  simp [hitB]
/-- ref.Proves -/
theorem c37 {v u w : AV} {t : Tbl} {rows cols : List Int} {H : Heap} {K : AV → Heap → Prop} (hv : RT H v t) (hu : Reads H u rows) (hw : Reads H w cols) (hl : t.length < 2 ^ 63) (hl2 : ∀ l ∈ t, l.length < 2 ^ 63) (hl3 : rows.length < 2 ^ 60) (hl4 : cols.length < 2 ^ 60)
    (hk : K (.int .i64 (provesE t rows cols)) H) : ACalls Tryd.prog 37 [v, u, w] H K := by
  apply W37_ok
  unfold W37
  try simp only [letO_some, cellsOf?_agg, cellsOf?_int, cellsOf?_bool, cellsOf?_imm, cellsOf?_ref, cellsOf?_nils, faddr_iptr, faddr_ptr, List.drop_succ_cons, List.drop_zero, List.take_succ_cons, List.take_zero, load1_iptr, loadN_iptr, List.length_cons, List.length_nil, Nat.le_refl, if_true, List.getElem?_cons_zero, List.getElem?_cons_succ, List.getD_cons_zero, List.getD_cons_succ, extrF_tup, binF_add, binF_sub, binF_mul, binF_eql, binF_neq, binF_lss, binF_leq, binF_gtr, binF_geq, true_and]
  refine c31 hv hl hl2 ?_
  try simp only [letO_some, cellsOf?_agg, cellsOf?_int, cellsOf?_bool, cellsOf?_imm, cellsOf?_ref, cellsOf?_nils, faddr_iptr, faddr_ptr, List.drop_succ_cons, List.drop_zero, List.take_succ_cons, List.take_zero, load1_iptr, loadN_iptr, List.length_cons, List.length_nil, Nat.le_refl, if_true, List.getElem?_cons_zero, List.getElem?_cons_succ, List.getD_cons_zero, List.getD_cons_succ, extrF_tup, binF_add, binF_sub, binF_mul, binF_eql, binF_neq, binF_lss, binF_leq, binF_gtr, binF_geq, true_and]
  by_cases hc : chkT t = 0
  · obtain ⟨n1, n2, hrows⟩ := chkT_ok hc
    rw [proves_eq hc] at hk
    rw [hc]
    refine ⟨fun L H' => eqt L [.int .i64 (rdE t.length (-1) rows)] ∧ eqt H' H, ?_, ?_⟩
    · simp only [beq_self_eq_true, condA_tt, hv.len, letO_some]
      refine c88 hu n2 (by omega) ?_
      try simp only [letO_some, cellsOf?_agg, cellsOf?_int, cellsOf?_bool, cellsOf?_imm, cellsOf?_ref, cellsOf?_nils, faddr_iptr, faddr_ptr, List.drop_succ_cons, List.drop_zero, List.take_succ_cons, List.take_zero, load1_iptr, loadN_iptr, List.length_cons, List.length_nil, Nat.le_refl, if_true, List.getElem?_cons_zero, List.getElem?_cons_succ, List.getD_cons_zero, List.getD_cons_succ, extrF_tup, binF_add, binF_sub, binF_mul, binF_eql, binF_neq, binF_lss, binF_leq, binF_gtr, binF_geq, true_and]
      exact ⟨rfl, rfl⟩
    rintro L H' ⟨rfl, rfl⟩
    try simp only [letO_some, cellsOf?_agg, cellsOf?_int, cellsOf?_bool, cellsOf?_imm, cellsOf?_ref, cellsOf?_nils, faddr_iptr, faddr_ptr, List.drop_succ_cons, List.drop_zero, List.take_succ_cons, List.take_zero, load1_iptr, loadN_iptr, List.length_cons, List.length_nil, Nat.le_refl, if_true, List.getElem?_cons_zero, List.getElem?_cons_succ, List.getD_cons_zero, List.getD_cons_succ, extrF_tup, binF_add, binF_sub, binF_mul, binF_eql, binF_neq, binF_lss, binF_leq, binF_gtr, binF_geq, true_and]
    refine ⟨fun L H'' => eqt L [.int .i64 (if rdE t.length (-1) rows ≠ 0 then rdE t.length (-1) rows else rdE t.length (-1) cols)] ∧ eqt H'' H', ?_, ?_⟩
    · by_cases h1 : rdE t.length (-1) rows = 0
      · have e : (rdE t.length (-1) rows == 0) = true := by rw [h1]; rfl
        simp only [e, condA_tt, hv.len, letO_some]
        refine c88 hw n2 (by omega) ?_
        try simp only [letO_some, cellsOf?_agg, cellsOf?_int, cellsOf?_bool, cellsOf?_imm, cellsOf?_ref, cellsOf?_nils, faddr_iptr, faddr_ptr, List.drop_succ_cons, List.drop_zero, List.take_succ_cons, List.take_zero, load1_iptr, loadN_iptr, List.length_cons, List.length_nil, Nat.le_refl, if_true, List.getElem?_cons_zero, List.getElem?_cons_succ, List.getD_cons_zero, List.getD_cons_succ, extrF_tup, binF_add, binF_sub, binF_mul, binF_eql, binF_neq, binF_lss, binF_leq, binF_gtr, binF_geq, true_and]
        rw [if_neg (by simp [h1])]
        exact ⟨rfl, rfl⟩
      · have e : (rdE t.length (-1) rows == 0) = false := by rw [beq_eq_false_iff_ne]; exact h1
        simp only [e, condA_ff]
        rw [if_pos h1]
        exact ⟨rfl, rfl⟩
    rintro L H'' ⟨rfl, rfl⟩
    try simp only [letO_some, cellsOf?_agg, cellsOf?_int, cellsOf?_bool, cellsOf?_imm, cellsOf?_ref, cellsOf?_nils, faddr_iptr, faddr_ptr, List.drop_succ_cons, List.drop_zero, List.take_succ_cons, List.take_zero, load1_iptr, loadN_iptr, List.length_cons, List.length_nil, Nat.le_refl, if_true, List.getElem?_cons_zero, List.getElem?_cons_succ, List.getD_cons_zero, List.getD_cons_succ, extrF_tup, binF_add, binF_sub, binF_mul, binF_eql, binF_neq, binF_lss, binF_leq, binF_gtr, binF_geq, true_and]
    by_cases h1 : rdE t.length (-1) rows = 0
    · rw [if_neg (by simp [h1])] at hk
      rw [if_neg (c := rdE t.length (-1) rows ≠ 0) (by simp [h1])]
      by_cases h2 : rdE t.length (-1) cols = 0
      · rw [if_neg (by simp [h2])] at hk
        have e : (rdE t.length (-1) cols != 0) = false := by rw [h2]; rfl
        have hmr := rdE_mem h1
        have hmc := rdE_mem h2
        simp only [e, condA_ff]
        refine c86 hc hv hu hmr (by omega) ?_
        simp only [letO_some, cellsOf?_agg, cellsOf?_int, cellsOf?_bool, cellsOf?_imm, cellsOf?_ref, cellsOf?_nils, faddr_iptr, faddr_ptr, List.drop_succ_cons, List.drop_zero, List.take_succ_cons, List.take_zero, load1_iptr, loadN_iptr, List.length_cons, List.length_nil, Nat.le_refl, if_true, List.getElem?_cons_zero, List.getElem?_cons_succ, List.getD_cons_zero, List.getD_cons_succ, extrF_tup, binF_add, binF_sub, binF_mul, binF_eql, binF_neq, binF_lss, binF_leq, binF_gtr, binF_geq, true_and, hw.len]
        refine ⟨fun L H3 => ∃ i : Nat, eqt L [.int .i64 i] ∧ i ≤ cols.length ∧ eqt H3 H'' ∧ ∀ c ∈ cols.take i, ∀ r ∈ rows, cell t r.toNat c.toNat = 0, fun L _ => (cols.length - iv L 0).toNat, ⟨0, rfl, by omega, rfl, by simp⟩, ?_⟩
        rintro L H3 ⟨i, rfl, hi, rfl, he⟩
        try simp only [letO_some, cellsOf?_agg, cellsOf?_int, cellsOf?_bool, cellsOf?_imm, cellsOf?_ref, cellsOf?_nils, faddr_iptr, faddr_ptr, List.drop_succ_cons, List.drop_zero, List.take_succ_cons, List.take_zero, load1_iptr, loadN_iptr, List.length_cons, List.length_nil, Nat.le_refl, if_true, List.getElem?_cons_zero, List.getElem?_cons_succ, List.getD_cons_zero, List.getD_cons_succ, extrF_tup, binF_add, binF_sub, binF_mul, binF_eql, binF_neq, binF_lss, binF_leq, binF_gtr, binF_geq, true_and]
        refine condA_t (fun hlt => ?_) (fun hge => ?_)
        · have a1 : i < cols.length := by omega
          have g1 : cols.getD i 0 = cols[i] := by simp [List.getD_eq_getElem?_getD, a1]
          have hci := hmc _ (List.getElem_mem a1)
          refine hw.get (Heap.le_refl _) (by omega) (by omega) ?_
          rw [Int.toNat_natCast, g1]
          have hzl : (zerosZ t rows).length ≤ 4 := Nat.le_trans (List.length_filter_le _ _) (by simp; omega)
          refine c89 (Reads.sl _ _) (by rw [up_length]; omega) ?_
          try simp only [not_v, letO_some, cellsOf?_agg, cellsOf?_int, cellsOf?_bool, cellsOf?_imm, cellsOf?_ref, cellsOf?_nils, faddr_iptr, faddr_ptr, List.drop_succ_cons, List.drop_zero, List.take_succ_cons, List.take_zero, load1_iptr, loadN_iptr, List.length_cons, List.length_nil, Nat.le_refl, if_true, List.getElem?_cons_zero, List.getElem?_cons_succ, List.getD_cons_zero, List.getD_cons_succ, extrF_tup, binF_add, binF_sub, binF_mul, binF_eql, binF_neq, binF_lss, binF_leq, binF_gtr, binF_geq, true_and]
          have hmem : cols[i] ∈ up (zerosZ t rows) ↔ ∀ r ∈ rows, cell t r.toNat cols[i].toNat = 0 := by
            rw [← zerosZ_mem (by omega), ← mem_up, show ((cols[i].toNat : Nat) : Int) = cols[i] by omega]
          by_cases hin : cols[i] ∈ up (zerosZ t rows)
          · simp only [decide_eq_true hin, Bool.not_true, condA_ff]
            rw [wrap_i64 (by omega) (by omega)]
            refine ⟨⟨i + 1, rfl, by omega, rfl, fun c hcm => ?_⟩, by simp <;> omega⟩
            rw [take_snoc a1] at hcm
            rcases List.mem_append.1 hcm with hcm | hcm
            · exact he c hcm
            · simp at hcm; subst hcm; exact hmem.1 hin
          · simp only [decide_eq_false hin, Bool.not_false, condA_tt]
            have hhit : hitB t rows cols = true := by
              rw [hitB_iff]
              refine Classical.byContradiction fun hx => hin (hmem.2 fun r hr => ?_)
              have h0 := (cell_rng hc r.toNat cols[i].toNat).1
              by_cases hp : 0 < cell t r.toNat cols[i].toNat
              · exact absurd ⟨r, hr, cols[i], List.getElem_mem a1, hp⟩ hx
              · omega
            rw [if_pos (.inl hhit)] at hk
            exact endK_ret hk
        · have hie : i = cols.length := by omega
          subst hie
          rw [List.take_length] at he
          have hhit : ¬ hitB t rows cols = true := by
            rw [hitB_iff]
            rintro ⟨r, hr, c, hcm, hp⟩
            have := he c hcm r hr
            omega
          simp only [hu.len, hw.len, hv.len, letO_some, cellsOf?_agg, cellsOf?_int, cellsOf?_bool, cellsOf?_imm, cellsOf?_ref, cellsOf?_nils, faddr_iptr, faddr_ptr, List.drop_succ_cons, List.drop_zero, List.take_succ_cons, List.take_zero, load1_iptr, loadN_iptr, List.length_cons, List.length_nil, Nat.le_refl, if_true, List.getElem?_cons_zero, List.getElem?_cons_succ, List.getD_cons_zero, List.getD_cons_succ, extrF_tup, binF_add, binF_sub, binF_mul, binF_eql, binF_neq, binF_lss, binF_leq, binF_gtr, binF_geq, true_and]
          rw [wrap_i64 (by omega) (by omega)]
          refine condA_t (fun hh => ?_) (fun hh => ?_)
          · rw [if_pos (.inr (by omega))] at hk
            exact endK_ret hk
          · rw [if_neg (fun h => h.elim hhit (fun h => hh (by omega)))] at hk
            exact endK_ret hk
      · rw [if_pos h2] at hk
        have e : (rdE t.length (-1) cols != 0) = true := by rw [bne_iff_ne]; exact h2
        simp only [e, condA_tt]
        exact endK_ret hk
    · rw [if_pos h1] at hk
      rw [if_pos (c := rdE t.length (-1) rows ≠ 0) h1]
      have e : (rdE t.length (-1) rows != 0) = true := by rw [bne_iff_ne]; exact h1
      simp only [e, condA_tt]
      exact endK_ret hk
  · rw [provesE, if_pos hc] at hk
    have e : (chkT t == 0) = false := by rw [beq_eq_false_iff_ne]; exact hc
    have e2 : (chkT t != 0) = true := by rw [bne_iff_ne]; exact hc
    refine ⟨fun L H' => eqt L [.int .i64 (chkT t)] ∧ eqt H' H, ?_, ?_⟩
    · simp only [e, condA_ff]
      exact ⟨rfl, rfl⟩
    rintro L H' ⟨rfl, rfl⟩
    try simp only [letO_some, cellsOf?_agg, cellsOf?_int, cellsOf?_bool, cellsOf?_imm, cellsOf?_ref, cellsOf?_nils, faddr_iptr, faddr_ptr, List.drop_succ_cons, List.drop_zero, List.take_succ_cons, List.take_zero, load1_iptr, loadN_iptr, List.length_cons, List.length_nil, Nat.le_refl, if_true, List.getElem?_cons_zero, List.getElem?_cons_succ, List.getD_cons_zero, List.getD_cons_succ, extrF_tup, binF_add, binF_sub, binF_mul, binF_eql, binF_neq, binF_lss, binF_leq, binF_gtr, binF_geq, true_and]
    refine ⟨fun L H'' => eqt L [.int .i64 (chkT t)] ∧ eqt H'' H', ?_, ?_⟩
    · simp only [e, condA_ff]
      exact ⟨rfl, rfl⟩
    rintro L H'' ⟨rfl, rfl⟩
    simp only [letO_some, cellsOf?_agg, cellsOf?_int, cellsOf?_bool, cellsOf?_imm, cellsOf?_ref, cellsOf?_nils, faddr_iptr, faddr_ptr, List.drop_succ_cons, List.drop_zero, List.take_succ_cons, List.take_zero, load1_iptr, loadN_iptr, List.length_cons, List.length_nil, Nat.le_refl, if_true, List.getElem?_cons_zero, List.getElem?_cons_succ, List.getD_cons_zero, List.getD_cons_succ, extrF_tup, binF_add, binF_sub, binF_mul, binF_eql, binF_neq, binF_lss, binF_leq, binF_gtr, binF_geq, true_and, e2, condA_tt]
    exact endK_ret hk
/-- All lists of rows, the shorter ones first. -/
def allK (n k : Nat) : List (List Nat) := (List.range k).flatMap fun i => listsS n (i + 1)
theorem allK_succ (n k : Nat) : allK n (k + 1) = allK n k ++ listsS n (k + 1) := by simp [allK, List.range_succ]
def barQ (t : Tb) (l : List Nat) : Bool := decide (t.length < (zerosZ t (up l)).length + l.length)
theorem allK_find {n : Nat} {Q : List Nat → Bool} {l : List Nat} : ∀ {k m : Nat}, k ≤ m → (allK n k).find? Q = some l → (allK n m).find? Q = some l
  | k, 0, h, hf => by obtain rfl : k = 0 := by omega
                      exact hf
  | k, m + 1, h, hf => by
    by_cases hk : k = m + 1
    · subst hk; exact hf
    · rw [allK_succ, List.find?_append, allK_find (by omega) hf]; rfl
def barR (t : Tb) : List Int × List Int × Int := if chkT t ≠ 0 then ([], [], chkT t) else match (allK t.length t.length).find? (barQ t) with
  | none => ([], [], 13)
  | some l => (up l, up (zerosZ t (up l)), 0)
/-- ref.Bar -/
theorem c35 {v : AV} {t : Tbl} {H : Heap} {K : AV → Heap → Prop} (hv : RT H v t) (hl : t.length < 2 ^ 63) (hl2 : ∀ l ∈ t, l.length < 2 ^ 63) (hk : K (.tup [sl (barR t).1, sl (barR t).2.1, .int .i64 (barR t).2.2]) H) : ACalls Tryd.prog 35 [v] H K := by
  apply W35_ok
  unfold W35
  try simp only [letO_some, cellsOf?_agg, cellsOf?_int, cellsOf?_bool, cellsOf?_imm, cellsOf?_ref, cellsOf?_nils, faddr_iptr, faddr_ptr, List.drop_succ_cons, List.drop_zero, List.take_succ_cons, List.take_zero, load1_iptr, loadN_iptr, List.length_cons, List.length_nil, Nat.le_refl, if_true, List.getElem?_cons_zero, List.getElem?_cons_succ, List.getD_cons_zero, List.getD_cons_succ, extrF_tup, binF_add, binF_sub, binF_mul, binF_eql, binF_neq, binF_lss, binF_leq, binF_gtr, binF_geq, true_and]
  refine c31 hv hl hl2 ?_
  try simp only [letO_some, cellsOf?_agg, cellsOf?_int, cellsOf?_bool, cellsOf?_imm, cellsOf?_ref, cellsOf?_nils, faddr_iptr, faddr_ptr, List.drop_succ_cons, List.drop_zero, List.take_succ_cons, List.take_zero, load1_iptr, loadN_iptr, List.length_cons, List.length_nil, Nat.le_refl, if_true, List.getElem?_cons_zero, List.getElem?_cons_succ, List.getD_cons_zero, List.getD_cons_succ, extrF_tup, binF_add, binF_sub, binF_mul, binF_eql, binF_neq, binF_lss, binF_leq, binF_gtr, binF_geq, true_and]
  have weak : ∀ e : Int, K (.tup [sl [], sl [], .int .i64 e]) H → endK (.tup [.nils, .nils, .int .i64 e]) H K := fun e h => endK_weak (endK_ret h)
  unfold barR at hk
  by_cases hc : chkT t = 0
  · have e1 : (chkT t != 0) = false := by rw [hc]; rfl
    obtain ⟨n1, n2, hrows⟩ := chkT_ok hc
    rw [if_neg (by simp [hc])] at hk
    simp only [e1, condA_ff, hv.len, letO_some]
    refine ⟨fun L H' => ∃ k : Nat, eqt L [.int .i64 ((k + 1 : Nat) : Int)] ∧ k ≤ t.length ∧ eqt H' H ∧ (allK t.length k).find? (barQ t) = none, fun L _ => (t.length + 1 - iv L 0).toNat, ⟨0, rfl, by omega, rfl, rfl⟩, ?_⟩
    rintro L H' ⟨k, rfl, hk1, rfl, he⟩
    try simp only [letO_some, cellsOf?_agg, cellsOf?_int, cellsOf?_bool, cellsOf?_imm, cellsOf?_ref, cellsOf?_nils, faddr_iptr, faddr_ptr, List.drop_succ_cons, List.drop_zero, List.take_succ_cons, List.take_zero, load1_iptr, loadN_iptr, List.length_cons, List.length_nil, Nat.le_refl, if_true, List.getElem?_cons_zero, List.getElem?_cons_succ, List.getD_cons_zero, List.getD_cons_succ, extrF_tup, binF_add, binF_sub, binF_mul, binF_eql, binF_neq, binF_lss, binF_leq, binF_gtr, binF_geq, true_and]
    refine condA_t (fun hlt => ?_) (fun hge => ?_)
    · have a1 : k < t.length := by omega
      refine c85n n2 (by omega) ?_
      have hLm : ∀ l ∈ listsS t.length (k + 1), l.length = k + 1 ∧ ∀ c ∈ l, c < t.length := fun l hl => exL_mem _ _ _ hl
      have hLl : (listsS t.length (k + 1)).length ≤ 256 := by
        have h1 := exL_len (n := t.length) (k + 1) 0
        exact Nat.le_trans h1 (pow_le4 n2 (by omega))
      have hPR := (RT.tl H' ((listsS t.length (k + 1)).map up)).len
      have hPL : ((listsS t.length (k + 1)).map up).length = (listsS t.length (k + 1)).length := by simp
      have hsucc := allK_succ t.length k
      generalize hP : listsS t.length (k + 1) = P at *
      simp only [hPR, hPL, letO_some, cellsOf?_agg, cellsOf?_int, cellsOf?_bool, cellsOf?_imm, cellsOf?_ref, cellsOf?_nils, faddr_iptr, faddr_ptr, List.drop_succ_cons, List.drop_zero, List.take_succ_cons, List.take_zero, load1_iptr, loadN_iptr, List.length_cons, List.length_nil, Nat.le_refl, if_true, List.getElem?_cons_zero, List.getElem?_cons_succ, List.getD_cons_zero, List.getD_cons_succ, extrF_tup, binF_add, binF_sub, binF_mul, binF_eql, binF_neq, binF_lss, binF_leq, binF_gtr, binF_geq, true_and]
      have hget : ∀ (i : Nat) (hi : i < P.length) (H' : Heap) (k : AV → Prop), k (sl (up P[i])) → letO (idx 1 (tl (P.map up)) (.int .i64 (i : Int))) fun q => letO (load1 q H') k := by
        intro i hi H' k hk
        refine ReadsC.get (Heap.le_refl _) (n := P.length) (cells := (P.map up).map sl) ⟨by simp, by simp [tl]⟩ (x := sl (up P[i])) (by omega) (by omega) ?_ hk
        simp [hi]
      refine ⟨fun L H'' => ∃ i : Nat, eqt L [.int .i64 i] ∧ i ≤ P.length ∧ eqt H'' H' ∧ (P.take i).find? (barQ t) = none, fun L _ => (P.length - iv L 0).toNat, ⟨0, rfl, by omega, rfl, rfl⟩, ?_⟩
      rintro L H'' ⟨i, rfl, hi, rfl, hn⟩
      try simp only [letO_some, cellsOf?_agg, cellsOf?_int, cellsOf?_bool, cellsOf?_imm, cellsOf?_ref, cellsOf?_nils, faddr_iptr, faddr_ptr, List.drop_succ_cons, List.drop_zero, List.take_succ_cons, List.take_zero, load1_iptr, loadN_iptr, List.length_cons, List.length_nil, Nat.le_refl, if_true, List.getElem?_cons_zero, List.getElem?_cons_succ, List.getD_cons_zero, List.getD_cons_succ, extrF_tup, binF_add, binF_sub, binF_mul, binF_eql, binF_neq, binF_lss, binF_leq, binF_gtr, binF_geq, true_and]
      refine condA_t (fun hlt2 => ?_) (fun hge2 => ?_)
      · have b1 : i < P.length := by omega
        obtain ⟨q1, q2⟩ := hLm P[i] (List.getElem_mem b1)
        refine hget i b1 _ _ ?_
        refine c86 hc hv (Reads.sl _ _) (fun r hr => ?_) (by rw [up_length]; omega) ?_
        · obtain ⟨x, hx, rfl⟩ := List.mem_map.1 hr
          have := q2 x hx; omega
        have hzl : (zerosZ t (up P[i])).length ≤ 4 := Nat.le_trans (List.length_filter_le _ _) (by simp; omega)
        have hsl : lenA (sl (up (zerosZ t (up P[i])))) = some (.int .i64 (zerosZ t (up P[i])).length) := by rw [(Reads.sl H'' _).len, up_length]
        simp only [letO_some, cellsOf?_agg, cellsOf?_int, cellsOf?_bool, cellsOf?_imm, cellsOf?_ref, cellsOf?_nils, faddr_iptr, faddr_ptr, List.drop_succ_cons, List.drop_zero, List.take_succ_cons, List.take_zero, load1_iptr, loadN_iptr, List.length_cons, List.length_nil, Nat.le_refl, if_true, List.getElem?_cons_zero, List.getElem?_cons_succ, List.getD_cons_zero, List.getD_cons_succ, extrF_tup, binF_add, binF_sub, binF_mul, binF_eql, binF_neq, binF_lss, binF_leq, binF_gtr, binF_geq, true_and, hsl]
        rw [wrap_i64 (n := ((zerosZ t (up P[i])).length : Int) + _) (by omega) (by omega)]
        refine condA_t (fun hh => ?_) (fun hh => ?_)
        · have hQ : barQ t P[i] = true := decide_eq_true (by omega)
          have hf : (allK t.length t.length).find? (barQ t) = some P[i] := by
            refine allK_find (show k + 1 ≤ t.length by omega) ?_
            rw [hsucc, List.find?_append, he, Option.none_or]
            have this : P = P.take i ++ P[i] :: P.drop (i + 1) := by
              rw [← List.drop_eq_getElem_cons b1, List.take_append_drop]
            refine (congrArg (List.find? (barQ t)) this).trans ?_
            rw [List.find?_append, hn, Option.none_or, List.find?_cons_of_pos hQ]
          rw [hf] at hk
          refine hget i b1 _ _ ?_
          try simp only [letO_some, cellsOf?_agg, cellsOf?_int, cellsOf?_bool, cellsOf?_imm, cellsOf?_ref, cellsOf?_nils, faddr_iptr, faddr_ptr, List.drop_succ_cons, List.drop_zero, List.take_succ_cons, List.take_zero, load1_iptr, loadN_iptr, List.length_cons, List.length_nil, Nat.le_refl, if_true, List.getElem?_cons_zero, List.getElem?_cons_succ, List.getD_cons_zero, List.getD_cons_succ, extrF_tup, binF_add, binF_sub, binF_mul, binF_eql, binF_neq, binF_lss, binF_leq, binF_gtr, binF_geq, true_and]
          exact endK_ret hk
        · rw [wrap_i64 (by omega) (by omega)]
          refine ⟨⟨i + 1, rfl, by omega, rfl, ?_⟩, by simp <;> omega⟩
          rw [take_snoc b1, List.find?_append, hn, Option.none_or]
          have hQ : barQ t P[i] = false := decide_eq_false (by omega)
          simp [hQ]
      · have hie : i = P.length := by omega
        subst hie
        rw [List.take_length] at hn
        rw [wrap_i64 (by omega) (by omega)]
        refine ⟨⟨k + 1, by unfold eqt; congr 2, by omega, rfl, ?_⟩, by simp <;> omega⟩
        rw [hsucc, List.find?_append, he, hn]; rfl
    · have hke : k = t.length := by omega
      subst hke
      rw [he] at hk
      exact weak _ hk
  · have e1 : (chkT t != 0) = true := by simp [hc]
    simp only [e1, condA_tt]
    rw [if_pos hc] at hk
    exact weak _ hk
end Go.Proofs.YtbofkeoebnjjkaaDoor

namespace Go.Proofs.YtbofkeoebnjjkaaDoor
open Tab
set_option linter.unusedVariables false
set_option linter.unusedSimpArgs false
set_option maxRecDepth 20000

/- The block of the sets is the block of the lists. -/
def ltL (l m : List Nat) : Prop := l.length < m.length ∨ (l.length = m.length ∧ cmpL (up l) (up m) < 0)
instance (l m : List Nat) : Decidable (ltL l m) := inferInstanceAs (Decidable (_ ∨ _))
/-- The rank of a list. -/
def rkL (l : List Nat) : Nat := (allK 4 4).idxOf l
theorem rk_lt : ∀ a : Fin 16, ∀ b : Fin 16, a.val ≠ 0 → b.val ≠ 0 → (ltL (lst a.val) (lst b.val) ↔ rkL (lst a.val) < rkL (lst b.val)) := by decide +kernel
theorem rk_inj : ∀ a : Fin 16, ∀ b : Fin 16, a.val ≠ 0 → b.val ≠ 0 → rkL (lst a.val) = rkL (lst b.val) → a = b := by decide +kernel
theorem allK_sorted : ∀ n : Fin 5, (allK n.val n.val).Pairwise fun l m => rkL l < rkL m := by decide +kernel
theorem allK_sets : ∀ n : Fin 5, ∀ s : Fin 16, s.val ≠ 0 → s.val < 2 ^ n.val → lst s.val ∈ allK n.val n.val := by decide +kernel
theorem allK_lists : ∀ n : Fin 5, ∀ l ∈ allK n.val n.val, ∃ s : Fin 16, s.val ≠ 0 ∧ s.val < 2 ^ n.val ∧ lst s.val = l := by decide +kernel
theorem lst_ne : ∀ s : Fin 16, lst s.val = [] ↔ s.val = 0 := by decide +kernel
theorem range4 {n : Nat} (hn : n ≤ 4) (f : Nat → Bool) : (List.range 4).filter (fun c => decide (c < n) && f c) = (List.range n).filter f := by
  have h : n = 0 ∨ n = 1 ∨ n = 2 ∨ n = 3 ∨ n = 4 := by omega
  have e4 : List.range 4 = [0, 1, 2, 3] := rfl
  have e3 : List.range 3 = [0, 1, 2] := rfl
  have e2 : List.range 2 = [0, 1] := rfl
  have e1 : List.range 1 = [0] := rfl
  rcases h with rfl | rfl | rfl | rfl | rfl <;> simp [e4, e3, e2, e1, List.filter_cons]
theorem zeros_lst {t : Tb} (hc : chkT t = 0) (s : Nat) : lst (zerosN t s) = zerosZ t (up (lst s)) := by
  obtain ⟨n1, n2, hrows⟩ := chkT_ok hc
  rw [zerosN, lst_bits]
  have h : zerosB t (lst s) = fun c => decide (c < t.length) && (up (lst s)).all fun r => decide (cell t r.toNat c = 0) := by
    funext c
    unfold zerosB up
    rw [List.all_map]
    congr 2
    funext r
    have := (cell_rng hc r c).1
    simp only [Function.comp, Int.toNat_natCast]
    by_cases h0 : cell t r c = 0
    · simp [h0]
    · have : 0 < cell t r c := by omega
      simp [h0, this]
  rw [h, range4 n2]; rfl
/-- What is asked of a set. -/
def setQ (t : Tb) (s : Nat) : Bool := barQ t (lst s)
theorem barStep_eq {t : Tb} (hc : chkT t = 0) {s : Nat} (hs : s < 16) (h0 : s ≠ 0) {b : Option Nat} : barStep t s b = if setQ t s = true then (match b with | none => some s | some b' => if ltL (lst s) (lst b') then some s else some b') else b := by
  unfold barStep setQ barQ
  have hne : lst s ≠ [] := fun h => h0 ((lst_ne ⟨s, hs⟩).1 h)
  have e : popN (zerosN t s) = (zerosZ t (up (lst s))).length := by rw [popN, zeros_lst hc]
  rw [e]
  by_cases hq : t.length < (zerosZ t (up (lst s))).length + (lst s).length
  · rw [if_neg (by rintro (h | h); exact hne h; omega), if_pos (decide_eq_true hq)]
    rfl
  · rw [if_pos (.inr (by omega)), if_neg (by simpa using hq)]
theorem barF_best {t : Tb} (hc : chkT t = 0) : ∀ m, m ≤ 2 ^ t.length → (barF t m = none → ∀ s, s < m → s ≠ 0 → setQ t s = false) ∧ (∀ s, barF t m = some s → s ≠ 0 ∧ s < m ∧ setQ t s = true ∧ ∀ s', s' < m → s' ≠ 0 → setQ t s' = true → rkL (lst s) ≤ rkL (lst s'))
  | 0, _ => ⟨fun _ s hs => by omega, fun s h => by cases h⟩
  | m + 1, hm => by
    obtain ⟨n1, n2, hrows⟩ := chkT_ok hc
    have h16 : 2 ^ t.length ≤ 16 := by
      have : 2 ^ t.length ≤ 2 ^ 4 := Nat.pow_le_pow_right (by omega) n2
      have e : 2 ^ 4 = 16 := by decide
      omega
    obtain ⟨ih1, ih2⟩ := barF_best hc m (by omega)
    rw [barF]
    by_cases h0 : m = 0
    · subst h0
      have : barStep t 0 (barF t 0) = none := by
        unfold barStep
        rw [if_pos (.inl (by decide))]; rfl
      rw [this]
      exact ⟨fun _ s h1 h2 => by omega, fun s h => by cases h⟩
    rw [barStep_eq hc (by omega) h0]
    by_cases hq : setQ t m = true
    · rw [if_pos hq]
      cases hb : barF t m with
      | none =>
        have hnone := ih1 hb
        refine ⟨fun h => (by cases h), fun s h => ?_⟩
        cases h
        refine ⟨h0, by omega, hq, fun s' h1 h2 h3 => ?_⟩
        by_cases he : s' = m
        · subst he; exact Nat.le_refl _
        · rw [hnone s' (by omega) h2] at h3; cases h3
      | some b =>
        obtain ⟨q1, q2, q3, q4⟩ := ih2 b hb
        have hlt := rk_lt ⟨m, by omega⟩ ⟨b, by omega⟩ h0 q1
        simp only at hlt
        refine ⟨fun h => (by simp only at h; split at h <;> cases h), fun s h => ?_⟩
        simp only at h
        by_cases hl : ltL (lst m) (lst b)
        · rw [if_pos hl] at h
          cases h
          have := hlt.1 hl
          refine ⟨h0, by omega, hq, fun s' h1 h2 h3 => ?_⟩
          by_cases he : s' = m
          · subst he; exact Nat.le_refl _
          · have := q4 s' (by omega) h2 h3; omega
        · rw [if_neg hl] at h
          cases h
          have : ¬ rkL (lst m) < rkL (lst b) := fun h => hl (hlt.2 h)
          refine ⟨q1, by omega, q3, fun s' h1 h2 h3 => ?_⟩
          by_cases he : s' = m
          · subst he; omega
          · exact q4 s' (by omega) h2 h3
    · rw [if_neg hq]
      refine ⟨fun h s h1 h2 => ?_, fun s h => ?_⟩
      · by_cases he : s = m
        · subst he; simpa using hq
        · exact ih1 h s (by omega) h2
      · obtain ⟨q1, q2, q3, q4⟩ := ih2 s h
        refine ⟨q1, by omega, q3, fun s' h1 h2 h3 => ?_⟩
        by_cases he : s' = m
        · subst he; exact absurd h3 hq
        · exact q4 s' (by omega) h2 h3
/-- BOTH BLOCKS ARE THE SAME. -/
theorem bar_eq (t : Tb) : barO t = barR t := by
  by_cases hc : chkT t = 0
  · obtain ⟨n1, n2, hrows⟩ := chkT_ok hc
    have h16 : 2 ^ t.length ≤ 16 := by
      have : 2 ^ t.length ≤ 2 ^ 4 := Nat.pow_le_pow_right (by omega) n2
      have e : 2 ^ 4 = 16 := by decide
      omega
    rw [barO, barR, if_neg (by simp [hc]), if_neg (by simp [hc])]
    obtain ⟨b1, b2⟩ := barF_best hc (2 ^ t.length) (Nat.le_refl _)
    cases hb : barF t (2 ^ t.length) with
    | none =>
      have hnone := b1 hb
      have : (allK t.length t.length).find? (barQ t) = none := by
        rw [List.find?_eq_none]
        intro l hl hq
        obtain ⟨s, s1, s2, rfl⟩ := allK_lists ⟨t.length, by omega⟩ l hl
        have := hnone s.val s2 s1
        unfold setQ at this
        rw [this] at hq; cases hq
      rw [this]
    | some s =>
      obtain ⟨q1, q2, q3, q4⟩ := b2 s hb
      have hmem := allK_sets ⟨t.length, by omega⟩ ⟨s, by omega⟩ q1 q2
      cases hf : (allK t.length t.length).find? (barQ t) with
      | none =>
        rw [List.find?_eq_none] at hf
        exact absurd q3 (hf _ hmem)
      | some l =>
        obtain ⟨hQ, pre, post, hall, has⟩ := List.find?_eq_some_iff_append.1 hf
        have hlm : l ∈ allK t.length t.length := by rw [hall]; simp
        obtain ⟨s', s1, s2, rfl⟩ := allK_lists ⟨t.length, by omega⟩ l hlm
        have h1 := q4 s'.val s2 s1 hQ
        have hsort := allK_sorted ⟨t.length, by omega⟩
        simp only at hsort hmem
        rw [hall, List.pairwise_append, List.pairwise_cons] at hsort
        rw [hall, List.mem_append, List.mem_cons] at hmem
        have h2 : rkL (lst s'.val) ≤ rkL (lst s) := by
          rcases hmem with h | h | h
          · have := has _ h
            unfold setQ at q3
            rw [q3] at this; cases this
          · rw [h]; exact Nat.le_refl _
          · exact Nat.le_of_lt (hsort.2.1.1 _ h)
        have h3 := rk_inj ⟨s, by omega⟩ s' q1 s1 (by simp only; omega)
        obtain rfl : s = s'.val := by rw [← h3]
        simp only
        rw [zeros_lst hc]
  · rw [barO, barR, if_pos hc, if_pos hc]
end Go.Proofs.YtbofkeoebnjjkaaDoor

namespace Go.Proofs.YtbofkeoebnjjkaaDoor
open Tab
set_option linter.unusedVariables false
set_option linter.unusedSimpArgs false
set_option maxRecDepth 20000

/- No plan within a table: a block (at most four rows). -/
def plW (n : Nat) (m : Nat → Nat) : Bool := (plansS n).any fun p => (List.range n).all fun r => (m r).testBit (p.getD r 0)
def zrs (n : Nat) (m : Nat → Nat) (s : Nat) : List Nat := (List.range n).filter fun c => (lst s).all fun r => !(m r).testBit c
def blkS (n : Nat) (m : Nat → Nat) (s : Nat) : Bool := s != 0 && decide (n < (zrs n m s).length + (lst s).length)
def m4 (a b c d : Nat) (r : Nat) : Nat := match r with | 0 => a | 1 => b | 2 => c | _ => d
theorem small_blk1 : ∀ a : Fin 2, plW 1 (m4 a.val 0 0 0) = false → ∃ s : Fin 16, s.val < 2 ∧ blkS 1 (m4 a.val 0 0 0) s.val = true := by decide +kernel
theorem small_blk2 : ∀ a b : Fin 4, plW 2 (m4 a.val b.val 0 0) = false → ∃ s : Fin 16, s.val < 4 ∧ blkS 2 (m4 a.val b.val 0 0) s.val = true := by decide +kernel
theorem small_blk3 : ∀ a b c : Fin 8, plW 3 (m4 a.val b.val c.val 0) = false → ∃ s : Fin 16, s.val < 8 ∧ blkS 3 (m4 a.val b.val c.val 0) s.val = true := by decide +kernel
/-- One bit of a number. -/
def bt (a x : Nat) : Nat := Nat.mod (Nat.div a (Nat.pow 2 x)) 2
/-- In how many ways three rows have the other columns. -/
def pr0 (a b c : Nat) : Nat := bt a 1 * (bt b 2 * bt c 3) + bt a 1 * (bt b 3 * bt c 2) + bt a 2 * (bt b 1 * bt c 3) + bt a 2 * (bt b 3 * bt c 1) + bt a 3 * (bt b 1 * bt c 2) + bt a 3 * (bt b 2 * bt c 1)
def pr1 (a b c : Nat) : Nat := bt a 0 * (bt b 2 * bt c 3) + bt a 0 * (bt b 3 * bt c 2) + bt a 2 * (bt b 0 * bt c 3) + bt a 2 * (bt b 3 * bt c 0) + bt a 3 * (bt b 0 * bt c 2) + bt a 3 * (bt b 2 * bt c 0)
def pr2 (a b c : Nat) : Nat := bt a 0 * (bt b 1 * bt c 3) + bt a 0 * (bt b 3 * bt c 1) + bt a 1 * (bt b 0 * bt c 3) + bt a 1 * (bt b 3 * bt c 0) + bt a 3 * (bt b 0 * bt c 1) + bt a 3 * (bt b 1 * bt c 0)
def pr3 (a b c : Nat) : Nat := bt a 0 * (bt b 1 * bt c 2) + bt a 0 * (bt b 2 * bt c 1) + bt a 1 * (bt b 0 * bt c 2) + bt a 1 * (bt b 2 * bt c 0) + bt a 2 * (bt b 0 * bt c 1) + bt a 2 * (bt b 1 * bt c 0)
/-- The columns that the last row may not have. -/
def gap (a b c : Nat) : Nat := cond (Nat.beq (pr0 a b c) 0) 1 0 + (cond (Nat.beq (pr1 a b c) 0) 2 0 + (cond (Nat.beq (pr2 a b c) 0) 4 0 + cond (Nat.beq (pr3 a b c) 0) 8 0))
def pc (x : Nat) : Nat := Nat.mod (Nat.div 0x4332322132212110 (Nat.pow 16 x)) 16
def viol (a b c d : Nat) : Nat := cond (Nat.blt (pc d) 1) 8 (cond (Nat.blt (pc c) 1) 4 (cond (Nat.blt (pc b) 1) 2 (cond (Nat.blt (pc a) 1) 1 (cond (Nat.blt (pc (Nat.lor c d)) 2) 12 (cond (Nat.blt (pc (Nat.lor b d)) 2) 10 (cond (Nat.blt (pc (Nat.lor a d)) 2) 9 (cond (Nat.blt (pc (Nat.lor b c)) 2) 6 (cond (Nat.blt (pc (Nat.lor a c)) 2) 5 (cond (Nat.blt (pc (Nat.lor a b)) 2) 3 (cond (Nat.blt (pc (Nat.lor (Nat.lor b c) d)) 3) 14 (cond (Nat.blt (pc (Nat.lor (Nat.lor a c) d)) 3) 13 (cond (Nat.blt (pc (Nat.lor (Nat.lor a b) d)) 3) 11 (cond (Nat.blt (pc (Nat.lor (Nat.lor a b) c)) 3) 7 (cond (Nat.blt (pc (Nat.lor (Nat.lor (Nat.lor a b) c) d)) 4) 15 (0)))))))))))))))
def okC (a b : Nat) : Nat → Bool
  | 0 => true
  | c + 1 => blkS 4 (m4 a b c (gap a b c)) (viol a b c (gap a b c)) && okC a b c
def okB (a : Nat) : Nat → Bool
  | 0 => true
  | b + 1 => okC a b 16 && okB a b
def okA : Nat → Bool
  | 0 => true
  | a + 1 => okB a 16 && okA a
theorem okall : okA 16 = true := by decide +kernel
theorem okA_at : ∀ {n a : Nat}, okA n = true → a < n → okB a 16 = true
  | n + 1, a, h, ha => by
    rw [okA, Bool.and_eq_true] at h
    by_cases he : a = n
    · subst he; exact h.1
    · exact okA_at h.2 (by omega)
theorem okB_at {a : Nat} : ∀ {n b : Nat}, okB a n = true → b < n → okC a b 16 = true
  | n + 1, b, h, hb => by
    rw [okB, Bool.and_eq_true] at h
    by_cases he : b = n
    · subst he; exact h.1
    · exact okB_at h.2 (by omega)
theorem okC_at {a b : Nat} : ∀ {n c : Nat}, okC a b n = true → c < n → blkS 4 (m4 a b c (gap a b c)) (viol a b c (gap a b c)) = true
  | n + 1, c, h, hc => by
    rw [okC, Bool.and_eq_true] at h
    by_cases he : c = n
    · subst he; exact h.1
    · exact okC_at h.2 (by omega)
theorem blk4 {a b c : Nat} (ha : a < 16) (hb : b < 16) (hc : c < 16) : blkS 4 (m4 a b c (gap a b c)) (viol a b c (gap a b c)) = true := okC_at (okB_at (okA_at okall ha) hb) hc
theorem cond_lt (b : Bool) {x y : Nat} (hx : x < 16) (hy : y < 16) : cond b x y < 16 := by cases b <;> assumption
theorem viol_lt (a b c d : Nat) : viol a b c d < 16 := by
  unfold viol
  repeat (refine cond_lt _ (by decide) ?_)
  decide
theorem getD_memN {l : List Nat} {i : Nat} (h : i < l.length) : l.getD i 0 ∈ l := by
  rw [List.getD_eq_getElem?_getD, List.getElem?_eq_getElem h]; exact List.getElem_mem h
/-- The columns above 0 of a row. -/
def mk (t : Tb) (r : Nat) : Nat := bits4 fun c => decide (0 < cell t r c)
theorem mk_bit {t : Tb} {r c : Nat} (hc : c < 4) : (mk t r).testBit c = decide (0 < cell t r c) := bits4_test hc
theorem mk_lt (t : Tb) (r : Nat) : mk t r < 16 := bits4_lt _
theorem bt_bit {a x : Nat} (h : bt a x ≠ 0) : a.testBit x = true := by
  rw [Nat.testBit_eq_decide_div_mod_eq, decide_eq_true_eq]
  have : bt a x = a / 2 ^ x % 2 := rfl
  omega
theorem bt3 {a b c x y z : Nat} (h : bt a x * (bt b y * bt c z) ≠ 0) : a.testBit x = true ∧ b.testBit y = true ∧ c.testBit z = true := by
  have h1 : bt a x ≠ 0 := fun h0 => h (by rw [h0, Nat.zero_mul])
  have h2 : bt b y * bt c z ≠ 0 := fun h0 => h (by rw [h0, Nat.mul_zero])
  have h3 : bt b y ≠ 0 := fun h0 => h2 (by rw [h0, Nat.zero_mul])
  have h4 : bt c z ≠ 0 := fun h0 => h2 (by rw [h0, Nat.mul_zero])
  exact ⟨bt_bit h1, bt_bit h3, bt_bit h4⟩
theorem six {u v w x y z : Nat} (h : u + v + w + x + y + z ≠ 0) : u ≠ 0 ∨ v ≠ 0 ∨ w ≠ 0 ∨ x ≠ 0 ∨ y ≠ 0 ∨ z ≠ 0 := by omega
theorem mem_within {t : Tb} (hc : chkT t = 0) {p : List Nat} (hp : p ∈ plansS t.length) (h : ∀ r, r < t.length → 0 < cell t r (p.getD r 0)) : p ∈ withinS t := by
  obtain ⟨r, h1, h2⟩ := leastK_in (t := t) (p := up p) t.length (chkT_ok hc).1
  rw [up_getN] at h2
  exact List.mem_filter.2 ⟨hp, decide_eq_true (by have := h r h1; omega)⟩
theorem within_pos {t : Tb} {p : List Nat} (hp : p ∈ withinS t) : p ∈ plansS t.length ∧ ∀ r, r < t.length → 0 < cell t r (p.getD r 0) := by
  obtain ⟨h1, h2⟩ := List.mem_filter.1 hp
  refine ⟨h1, fun r hr => ?_⟩
  have h3 := leastK_le (t := t) (p := up p) t.length r hr
  rw [up_getN] at h3
  have := of_decide_eq_true h2
  omega
theorem gap_bits : ∀ e0 e1 e2 e3 : Bool, ∀ x : Fin 4, (cond e0 1 0 + (cond e1 2 0 + (cond e2 4 0 + cond e3 8 0))).testBit x.val = [e0, e1, e2, e3].getD x.val false := by decide +kernel
theorem gap_0 {t : Tb} (hc : chkT t = 0) (hl : t.length = 4) (hn : withinS t = []) (h : 0 < cell t 3 0) : pr0 (mk t 0) (mk t 1) (mk t 2) = 0 := by
  refine Classical.byContradiction fun hx => ?_
  have key : ∀ y0 y1 y2, [y0, y1, y2, 0] ∈ plansS 4 → y0 < 4 → y1 < 4 → y2 < 4 → ¬ (bt (mk t 0) y0 * (bt (mk t 1) y1 * bt (mk t 2) y2) ≠ 0) := by
    intro y0 y1 y2 hp l0 l1 l2 hne
    obtain ⟨q0, q1, q2⟩ := bt3 hne
    rw [mk_bit l0] at q0
    rw [mk_bit l1] at q1
    rw [mk_bit l2] at q2
    have : [y0, y1, y2, 0] ∈ withinS t := mem_within hc (by rw [hl]; exact hp) fun r hr => by
      have hr4 : r = 0 ∨ r = 1 ∨ r = 2 ∨ r = 3 := by omega
      rcases hr4 with rfl | rfl | rfl | rfl
      · exact of_decide_eq_true q0
      · exact of_decide_eq_true q1
      · exact of_decide_eq_true q2
      · exact h
    rw [hn] at this
    cases this
  unfold pr0 at hx
  rcases six hx with h | h | h | h | h | h
  · exact key 1 2 3 (by decide) (by omega) (by omega) (by omega) h
  · exact key 1 3 2 (by decide) (by omega) (by omega) (by omega) h
  · exact key 2 1 3 (by decide) (by omega) (by omega) (by omega) h
  · exact key 2 3 1 (by decide) (by omega) (by omega) (by omega) h
  · exact key 3 1 2 (by decide) (by omega) (by omega) (by omega) h
  · exact key 3 2 1 (by decide) (by omega) (by omega) (by omega) h
theorem gap_1 {t : Tb} (hc : chkT t = 0) (hl : t.length = 4) (hn : withinS t = []) (h : 0 < cell t 3 1) : pr1 (mk t 0) (mk t 1) (mk t 2) = 0 := by
  refine Classical.byContradiction fun hx => ?_
  have key : ∀ y0 y1 y2, [y0, y1, y2, 1] ∈ plansS 4 → y0 < 4 → y1 < 4 → y2 < 4 → ¬ (bt (mk t 0) y0 * (bt (mk t 1) y1 * bt (mk t 2) y2) ≠ 0) := by
    intro y0 y1 y2 hp l0 l1 l2 hne
    obtain ⟨q0, q1, q2⟩ := bt3 hne
    rw [mk_bit l0] at q0
    rw [mk_bit l1] at q1
    rw [mk_bit l2] at q2
    have : [y0, y1, y2, 1] ∈ withinS t := mem_within hc (by rw [hl]; exact hp) fun r hr => by
      have hr4 : r = 0 ∨ r = 1 ∨ r = 2 ∨ r = 3 := by omega
      rcases hr4 with rfl | rfl | rfl | rfl
      · exact of_decide_eq_true q0
      · exact of_decide_eq_true q1
      · exact of_decide_eq_true q2
      · exact h
    rw [hn] at this
    cases this
  unfold pr1 at hx
  rcases six hx with h | h | h | h | h | h
  · exact key 0 2 3 (by decide) (by omega) (by omega) (by omega) h
  · exact key 0 3 2 (by decide) (by omega) (by omega) (by omega) h
  · exact key 2 0 3 (by decide) (by omega) (by omega) (by omega) h
  · exact key 2 3 0 (by decide) (by omega) (by omega) (by omega) h
  · exact key 3 0 2 (by decide) (by omega) (by omega) (by omega) h
  · exact key 3 2 0 (by decide) (by omega) (by omega) (by omega) h
theorem gap_2 {t : Tb} (hc : chkT t = 0) (hl : t.length = 4) (hn : withinS t = []) (h : 0 < cell t 3 2) : pr2 (mk t 0) (mk t 1) (mk t 2) = 0 := by
  refine Classical.byContradiction fun hx => ?_
  have key : ∀ y0 y1 y2, [y0, y1, y2, 2] ∈ plansS 4 → y0 < 4 → y1 < 4 → y2 < 4 → ¬ (bt (mk t 0) y0 * (bt (mk t 1) y1 * bt (mk t 2) y2) ≠ 0) := by
    intro y0 y1 y2 hp l0 l1 l2 hne
    obtain ⟨q0, q1, q2⟩ := bt3 hne
    rw [mk_bit l0] at q0
    rw [mk_bit l1] at q1
    rw [mk_bit l2] at q2
    have : [y0, y1, y2, 2] ∈ withinS t := mem_within hc (by rw [hl]; exact hp) fun r hr => by
      have hr4 : r = 0 ∨ r = 1 ∨ r = 2 ∨ r = 3 := by omega
      rcases hr4 with rfl | rfl | rfl | rfl
      · exact of_decide_eq_true q0
      · exact of_decide_eq_true q1
      · exact of_decide_eq_true q2
      · exact h
    rw [hn] at this
    cases this
  unfold pr2 at hx
  rcases six hx with h | h | h | h | h | h
  · exact key 0 1 3 (by decide) (by omega) (by omega) (by omega) h
  · exact key 0 3 1 (by decide) (by omega) (by omega) (by omega) h
  · exact key 1 0 3 (by decide) (by omega) (by omega) (by omega) h
  · exact key 1 3 0 (by decide) (by omega) (by omega) (by omega) h
  · exact key 3 0 1 (by decide) (by omega) (by omega) (by omega) h
  · exact key 3 1 0 (by decide) (by omega) (by omega) (by omega) h
theorem gap_3 {t : Tb} (hc : chkT t = 0) (hl : t.length = 4) (hn : withinS t = []) (h : 0 < cell t 3 3) : pr3 (mk t 0) (mk t 1) (mk t 2) = 0 := by
  refine Classical.byContradiction fun hx => ?_
  have key : ∀ y0 y1 y2, [y0, y1, y2, 3] ∈ plansS 4 → y0 < 4 → y1 < 4 → y2 < 4 → ¬ (bt (mk t 0) y0 * (bt (mk t 1) y1 * bt (mk t 2) y2) ≠ 0) := by
    intro y0 y1 y2 hp l0 l1 l2 hne
    obtain ⟨q0, q1, q2⟩ := bt3 hne
    rw [mk_bit l0] at q0
    rw [mk_bit l1] at q1
    rw [mk_bit l2] at q2
    have : [y0, y1, y2, 3] ∈ withinS t := mem_within hc (by rw [hl]; exact hp) fun r hr => by
      have hr4 : r = 0 ∨ r = 1 ∨ r = 2 ∨ r = 3 := by omega
      rcases hr4 with rfl | rfl | rfl | rfl
      · exact of_decide_eq_true q0
      · exact of_decide_eq_true q1
      · exact of_decide_eq_true q2
      · exact h
    rw [hn] at this
    cases this
  unfold pr3 at hx
  rcases six hx with h | h | h | h | h | h
  · exact key 0 1 2 (by decide) (by omega) (by omega) (by omega) h
  · exact key 0 2 1 (by decide) (by omega) (by omega) (by omega) h
  · exact key 1 0 2 (by decide) (by omega) (by omega) (by omega) h
  · exact key 1 2 0 (by decide) (by omega) (by omega) (by omega) h
  · exact key 2 0 1 (by decide) (by omega) (by omega) (by omega) h
  · exact key 2 1 0 (by decide) (by omega) (by omega) (by omega) h
theorem gap_sub {t : Tb} (hc : chkT t = 0) (hl : t.length = 4) (hn : withinS t = []) {x : Nat} (hx : x < 4) (h : 0 < cell t 3 x) : (gap (mk t 0) (mk t 1) (mk t 2)).testBit x = true := by
  unfold gap
  have hb : ∀ k : Nat, k = 0 → Nat.beq k 0 = true := fun k hk => by subst hk; rfl
  have hx4 : x = 0 ∨ x = 1 ∨ x = 2 ∨ x = 3 := by omega
  rcases hx4 with rfl | rfl | rfl | rfl
  · exact (gap_bits _ _ _ _ ⟨0, by omega⟩).trans (hb _ (gap_0 hc hl hn h))
  · exact (gap_bits _ _ _ _ ⟨1, by omega⟩).trans (hb _ (gap_1 hc hl hn h))
  · exact (gap_bits _ _ _ _ ⟨2, by omega⟩).trans (hb _ (gap_2 hc hl hn h))
  · exact (gap_bits _ _ _ _ ⟨3, by omega⟩).trans (hb _ (gap_3 hc hl hn h))
theorem filter_mono' {α : Type} {p q : α → Bool} : ∀ l : List α, (∀ x ∈ l, p x = true → q x = true) → (l.filter p).length ≤ (l.filter q).length
  | [], _ => Nat.le_refl _
  | a :: l, h => by
    have := filter_mono' l fun x hx => h x (by simp [hx])
    rw [List.filter_cons, List.filter_cons]
    by_cases hp : p a = true
    · rw [if_pos hp, if_pos (h a (by simp) hp)]; simp; exact this
    · rw [if_neg hp]
      split
      · simp; omega
      · exact this
theorem lst_lt4 {s c : Nat} (h : c ∈ lst s) : c < 4 := by
  have := (List.mem_filter.1 h).1
  simpa using this
/-- A block of the masks is a block of the table. -/
theorem blk_set {t : Tb} (hc : chkT t = 0) {m : Nat → Nat} {s : Nat} (hm : ∀ r c, r ∈ lst s → c < t.length → 0 < cell t r c → (m r).testBit c = true) (h : blkS t.length m s = true) : s ≠ 0 ∧ setQ t s = true := by
  unfold blkS at h
  rw [Bool.and_eq_true] at h
  obtain ⟨h1, h2⟩ := h
  refine ⟨by simpa using h1, ?_⟩
  have h3 := of_decide_eq_true h2
  have h4 : (zrs t.length m s).length ≤ (zerosZ t (up (lst s))).length := by
    unfold zrs zerosZ
    refine filter_mono' _ fun c hcm h => ?_
    rw [List.all_eq_true] at h ⊢
    intro r hr
    obtain ⟨r', hr', rfl⟩ := List.mem_map.1 hr
    rw [Int.toNat_natCast]
    have h5 := h r' hr'
    have h6 := (cell_rng hc r' c).1
    by_cases h7 : 0 < cell t r' c
    · rw [hm r' c hr' (by simpa using hcm) h7] at h5; cases h5
    · exact decide_eq_true (by omega)
  exact decide_eq_true (by omega)
theorem plW_none {t : Tb} (hc : chkT t = 0) (hn : withinS t = []) {m : Nat → Nat} (hm : ∀ r c, r < t.length → c < t.length → (m r).testBit c = true → 0 < cell t r c) : plW t.length m = false := by
  refine Bool.eq_false_iff.2 fun h => ?_
  unfold plW at h
  rw [List.any_eq_true] at h
  obtain ⟨p, hp, h⟩ := h
  rw [List.all_eq_true] at h
  have : p ∈ withinS t := mem_within hc hp fun r hr => hm r _ hr ((plansS_mem hp).2 _ (getD_memN (by rw [(plansS_mem hp).1]; exact hr))) (h r (by simpa using hr))
  rw [hn] at this
  cases this
theorem b4_lt2 : ∀ a b c d : Bool, (c = false → d = false → b4 a b c d < 4) ∧ (d = false → b4 a b c d < 8) ∧ (b = false → c = false → d = false → b4 a b c d < 2) := by decide
theorem mk_small {t : Tb} (hc : chkT t = 0) (r : Nat) : (t.length ≤ 3 → mk t r < 8) ∧ (t.length ≤ 2 → mk t r < 4) ∧ (t.length ≤ 1 → mk t r < 2) := by
  have h0 : ∀ c, t.length ≤ c → decide (0 < cell t r c) = false := by
    intro c hcl
    have : cell t r c = 0 := by
      unfold cell
      by_cases hr : r < t.length
      · rw [List.getD_eq_getElem?_getD, List.getElem?_eq_none (by have := row_len hc hr; omega)]; rfl
      · have : row t r = [] := by rw [row, List.getD_eq_getElem?_getD, List.getElem?_eq_none (by omega)]; rfl
        rw [this]; rfl
    rw [this]; rfl
  unfold mk bits4
  obtain ⟨q1, q2, q3⟩ := b4_lt2 (decide (0 < cell t r 0)) (decide (0 < cell t r 1)) (decide (0 < cell t r 2)) (decide (0 < cell t r 3))
  exact ⟨fun h => q2 (h0 3 h), fun h => q1 (h0 2 h) (h0 3 (by omega)), fun h => q3 (h0 1 h) (h0 2 (by omega)) (h0 3 (by omega))⟩
/-- NO PLAN, A BLOCK. -/
theorem no_plan {t : Tb} (hc : chkT t = 0) (hn : withinS t = []) : ∃ s, s ≠ 0 ∧ s < 2 ^ t.length ∧ setQ t s = true := by
  obtain ⟨n1, n2, hrows⟩ := chkT_ok hc
  have hs := mk_small hc
  have h : t.length = 1 ∨ t.length = 2 ∨ t.length = 3 ∨ t.length = 4 := by omega
  have up' : ∀ (a b c d : Nat) (hm : ∀ r, r < t.length → m4 a b c d r = mk t r), plW t.length (m4 a b c d) = false := fun a b c d hm => plW_none hc hn fun r x hr hx hb => by
    rw [hm r hr, mk_bit (by omega)] at hb; exact of_decide_eq_true hb
  have fin : ∀ (a b c d : Nat) (hm : ∀ r, r < t.length → m4 a b c d r = mk t r) (s : Nat), s < 2 ^ t.length → blkS t.length (m4 a b c d) s = true → ∃ s, s ≠ 0 ∧ s < 2 ^ t.length ∧ setQ t s = true := fun a b c d hm s hsl hb => by
    obtain ⟨q1, q2⟩ := blk_set hc (fun r x hr hx h0 => by rw [hm r (lst_mem hsl hr), mk_bit (by omega)]; exact decide_eq_true h0) hb
    exact ⟨s, q1, hsl, q2⟩
  rcases h with h | h | h | h
  · have hm : ∀ r, r < t.length → m4 (mk t 0) 0 0 0 r = mk t r := fun r hr => by
      obtain rfl : r = 0 := by omega
      rfl
    have h1 := up' _ _ _ _ hm
    rw [h] at h1
    obtain ⟨s, s1, s2⟩ := small_blk1 ⟨mk t 0, (hs 0).2.2 (by omega)⟩ h1
    exact fin _ _ _ _ hm s.val (by rw [h]; exact s1) (by rw [h]; exact s2)
  · have hm : ∀ r, r < t.length → m4 (mk t 0) (mk t 1) 0 0 r = mk t r := fun r hr => by
      have : r = 0 ∨ r = 1 := by omega
      rcases this with rfl | rfl <;> rfl
    have h1 := up' _ _ _ _ hm
    rw [h] at h1
    obtain ⟨s, s1, s2⟩ := small_blk2 ⟨mk t 0, (hs 0).2.1 (by omega)⟩ ⟨mk t 1, (hs 1).2.1 (by omega)⟩ h1
    exact fin _ _ _ _ hm s.val (by rw [h]; exact s1) (by rw [h]; exact s2)
  · have hm : ∀ r, r < t.length → m4 (mk t 0) (mk t 1) (mk t 2) 0 r = mk t r := fun r hr => by
      have : r = 0 ∨ r = 1 ∨ r = 2 := by omega
      rcases this with rfl | rfl | rfl <;> rfl
    have h1 := up' _ _ _ _ hm
    rw [h] at h1
    obtain ⟨s, s1, s2⟩ := small_blk3 ⟨mk t 0, (hs 0).1 (by omega)⟩ ⟨mk t 1, (hs 1).1 (by omega)⟩ ⟨mk t 2, (hs 2).1 (by omega)⟩ h1
    exact fin _ _ _ _ hm s.val (by rw [h]; exact s1) (by rw [h]; exact s2)
  · have hb := blk4 (mk_lt t 0) (mk_lt t 1) (mk_lt t 2)
    rw [← h] at hb
    obtain ⟨q1, q2⟩ := blk_set hc (s := viol (mk t 0) (mk t 1) (mk t 2) (gap (mk t 0) (mk t 1) (mk t 2))) (fun r x hr hx h0 => by
      have hr4 : r = 0 ∨ r = 1 ∨ r = 2 ∨ r = 3 := by have := lst_lt4 hr; omega
      rcases hr4 with rfl | rfl | rfl | rfl
      · show (mk t 0).testBit x = true
        rw [mk_bit (by omega)]; exact decide_eq_true h0
      · show (mk t 1).testBit x = true
        rw [mk_bit (by omega)]; exact decide_eq_true h0
      · show (mk t 2).testBit x = true
        rw [mk_bit (by omega)]; exact decide_eq_true h0
      · exact gap_sub hc h hn (by omega) h0) hb
    exact ⟨_, q1, by rw [h]; exact viol_lt _ _ _ _, q2⟩
theorem pigeon : ∀ n : Fin 5, ∀ p ∈ plansS n.val, ∀ s : Fin 16, s.val < 2 ^ n.val → ((List.range n.val).filter fun c => (lst s.val).all fun r => decide (p.getD r 0 ≠ c)).length + (lst s.val).length ≤ n.val := by decide +kernel
/-- A PLAN, NO BLOCK. -/
theorem plan_no {t : Tb} (hc : chkT t = 0) {p : List Nat} (hp : p ∈ withinS t) {s : Nat} (hs : s < 2 ^ t.length) : setQ t s = false := by
  obtain ⟨n1, n2, hrows⟩ := chkT_ok hc
  obtain ⟨h1, h2⟩ := within_pos hp
  have h16 : 2 ^ t.length ≤ 16 := by
    have : 2 ^ t.length ≤ 2 ^ 4 := Nat.pow_le_pow_right (by omega) n2
    have e : 2 ^ 4 = 16 := by decide
    omega
  have h3 := pigeon ⟨t.length, by omega⟩ p h1 ⟨s, by omega⟩ hs
  simp only at h3
  have h4 : (zerosZ t (up (lst s))).length ≤ ((List.range t.length).filter fun c => (lst s).all fun r => decide (p.getD r 0 ≠ c)).length := by
    unfold zerosZ
    refine filter_mono' _ fun c hcm h => ?_
    rw [List.all_eq_true] at h ⊢
    intro r hr
    refine decide_eq_true fun he => ?_
    have h5 := of_decide_eq_true (h (r : Int) (List.mem_map.2 ⟨r, hr, rfl⟩))
    rw [Int.toNat_natCast] at h5
    have h6 := h2 r (lst_mem hs hr)
    rw [he] at h6
    omega
  exact decide_eq_false (by omega)
end Go.Proofs.YtbofkeoebnjjkaaDoor

namespace Go.Proofs.YtbofkeoebnjjkaaDoor
open Go.Av Tab
set_option linter.unusedVariables false
set_option linter.unusedSimpArgs false
set_option maxRecDepth 4000

theorem b50 {x y : AV} (hx : cellsOf? x = some [x]) (hy : cellsOf? y = some [y]) : buildF Tryd.prog 50 [(0, x), (1, y)] = some (.agg [x, y]) := by
  rw [buildF_of (show buildPlan Tryd.prog 50 = some ([.nils, .int .i64 0], [(0, 1), (1, 1)]) by kernel_rfl)]
  simp [fillA, hx, hy, splice]
theorem l45b {x y : AV} : literalF Tryd.prog 45 1 [(0, .agg [x, y])] = some [x, y] := by
  rw [literalF_of (show literalPlan Tryd.prog 45 = some ([.nils, .int .i64 0], 2) by kernel_rfl) (by decide) (by simp)]
  simp [fillA, splice, rowOf]
def isPlan (n : Nat) (p : List Nat) : Prop := p.length = n ∧ ∀ c ∈ p, c < n
theorem isPlan.fit {t : Tb} (hc : chkT t = 0) {p : List Nat} (h : isPlan t.length p) : fitP t (up p) := by
  refine ⟨by rw [up_length, h.1]; exact Nat.le_refl _, fun r hr => ?_⟩
  rw [up_length, h.1] at hr
  rw [up_getD, Int.toNat_natCast, row_len hc hr]
  have : p.getD r 0 ∈ p := by rw [List.getD_eq_getElem?_getD]; simp [h.1, hr]
  exact ⟨by omega, h.2 _ this⟩
theorem isPlan.rng {n : Nat} {p : List Nat} (h : isPlan n p) : ∀ c ∈ up p, 0 ≤ c ∧ c < n := by
  intro c hc
  obtain ⟨x, hx, rfl⟩ := List.mem_map.1 hc
  have := h.2 x hx
  omega
theorem chk_takeP {t : Tb} (hc : chkT t = 0) {p : List Nat} (hp : isPlan t.length p) {x : Int} (hx : 0 ≤ x ∧ x ≤ leastK t (up p) t.length) : chkT (takeT t (up p) x) = 0 := by
  obtain ⟨n1, n2, hrows⟩ := chkT_ok hc
  have hf := hp.fit hc
  refine chkT_mk (by simpa using n1) (by simpa using n2) (fun r hr => ?_) (fun r c hr => ?_)
  · rw [takeT_length] at hr ⊢
    rw [takeT_rowlen hr]; exact row_len hc hr
  · rw [takeT_length] at hr
    rw [takeT_cell hf hr]
    have hcc := cell_rng hc r c
    split
    · rename_i hh
      have := leastK_le (t := t) (p := up p) t.length r hr
      rw [← hh.2] at this
      omega
    · exact hcc
/-- ref.Split -/
theorem c39 {v : AV} {t : Tbl} {H : Heap} {K : AV → Heap → Prop} (hv : RT H v t) (hl : t.length < 2 ^ 63) (hl2 : ∀ l ∈ t, l.length < 2 ^ 63)
    (hk : K (.tup [.imm (if (evenE t).2 ≠ 0 then [] else splitS t).length false ((if (evenE t).2 ≠ 0 then [] else splitS t).flatMap shC), .int .i64 (evenE t).2]) H) : ACalls Tryd.prog 39 [v] H K := by
  apply W39_ok
  unfold W39
  try simp only [letO_some, cellsOf?_agg, cellsOf?_int, cellsOf?_bool, cellsOf?_imm, cellsOf?_ref, cellsOf?_nils, faddr_iptr, faddr_ptr, List.drop_succ_cons, List.drop_zero, List.take_succ_cons, List.take_zero, load1_iptr, loadN_iptr, List.length_cons, List.length_nil, Nat.le_refl, if_true, List.getElem?_cons_zero, List.getElem?_cons_succ, List.getD_cons_zero, List.getD_cons_succ, extrF_tup, binF_add, binF_sub, binF_mul, binF_eql, binF_neq, binF_lss, binF_leq, binF_gtr, binF_geq, true_and]
  refine c19 hv hl hl2 ?_
  try simp only [letO_some, cellsOf?_agg, cellsOf?_int, cellsOf?_bool, cellsOf?_imm, cellsOf?_ref, cellsOf?_nils, faddr_iptr, faddr_ptr, List.drop_succ_cons, List.drop_zero, List.take_succ_cons, List.take_zero, load1_iptr, loadN_iptr, List.length_cons, List.length_nil, Nat.le_refl, if_true, List.getElem?_cons_zero, List.getElem?_cons_succ, List.getD_cons_zero, List.getD_cons_succ, extrF_tup, binF_add, binF_sub, binF_mul, binF_eql, binF_neq, binF_lss, binF_leq, binF_gtr, binF_geq, true_and]
  by_cases he : (evenE t).2 = 0
  · have e1 : ((evenE t).2 != 0) = false := by rw [he]; rfl
    simp only [e1, condA_ff]
    rw [if_neg (by simp [he]), he] at hk
    have hc : chkT t = 0 := by
      unfold evenE at he
      split at he
      · exact he
      · rename_i h; exact Decidable.not_not.1 h
    have htr := tsum_rng hc
    generalize hF : (tsum t).toNat = F at *
    have hsp : splitS t = splitF F t := by rw [splitS, hF]
    rw [hsp] at hk
    refine ⟨fun L H' => ∃ (done : List (List Nat × Int)) (left : Tb) (f : Nat) (X V : AV), eqt L [X, V] ∧ RT H V left ∧ chkT left = 0 ∧ left.length = t.length ∧ tsum left ≤ f ∧ done.length + f = F ∧ done ++ splitF f left = splitF F t ∧ Grow 2 H H' X done.length (done.flatMap shC), fun L _ => F - xl (L.getD 0 .any),
      ⟨[], t, F, .nils, v, rfl, hv, hc, rfl, by omega, by simp, rfl, Grow.nils 2 H⟩, ?_⟩
    rintro L H' ⟨done, left, f, X, V, rfl, hV, hcl, hll, hts, hdf, hdone, hg⟩
    have hle := hg.le
    try simp only [letO_some, cellsOf?_agg, cellsOf?_int, cellsOf?_bool, cellsOf?_imm, cellsOf?_ref, cellsOf?_nils, faddr_iptr, faddr_ptr, List.drop_succ_cons, List.drop_zero, List.take_succ_cons, List.take_zero, load1_iptr, loadN_iptr, List.length_cons, List.length_nil, Nat.le_refl, if_true, List.getElem?_cons_zero, List.getElem?_cons_succ, List.getD_cons_zero, List.getD_cons_succ, extrF_tup, binF_add, binF_sub, binF_mul, binF_eql, binF_neq, binF_lss, binF_leq, binF_gtr, binF_geq, true_and]
    have hdl : done.length ≤ 144 := by omega
    refine c74 hcl (hV.le hle) ?_
    have hL := (RT.tl H' ((withinS left).map up)).len
    simp only [letO_some, cellsOf?_agg, cellsOf?_int, cellsOf?_bool, cellsOf?_imm, cellsOf?_ref, cellsOf?_nils, faddr_iptr, faddr_ptr, List.drop_succ_cons, List.drop_zero, List.take_succ_cons, List.take_zero, load1_iptr, loadN_iptr, List.length_cons, List.length_nil, Nat.le_refl, if_true, List.getElem?_cons_zero, List.getElem?_cons_succ, List.getD_cons_zero, List.getD_cons_succ, extrF_tup, binF_add, binF_sub, binF_mul, binF_eql, binF_neq, binF_lss, binF_leq, binF_gtr, binF_geq, true_and, hL]
    have hwk := wkAll_eq hcl
    obtain ⟨n1, n2, hrows⟩ := chkT_ok hcl
    cases hw : withinS left with
    | nil =>
      rw [hw] at hwk
      have hnil : splitF f left = [] := by cases f with
        | zero => rfl
        | succ f => rw [splitF, hwk]; rfl
      rw [hnil, List.append_nil] at hdone
      subst hdone
      have e2 : ((([] : List (List Nat)).map up).length : Int) = 0 := rfl
      rw [e2]
      simp only [beq_self_eq_true, condA_tt]
      exact hg.end2 hk
    | cons p r =>
      have e2 : ((((p :: r).map up).length : Int) == 0) = false := by rw [beq_eq_false_iff_ne]; simp; omega
      simp only [e2, condA_ff]
      have hpm : p ∈ withinS left := by rw [hw]; simp
      have hp : isPlan left.length p := plansS_mem (List.mem_filter.1 hpm).1
      have hpos : 0 < leastK left (up p) left.length := of_decide_eq_true (List.mem_filter.1 hpm).2
      rw [hw, List.map_cons] at hwk
      have hxm : (p, prodK left p left.length, leastK left (up p) left.length) ∈ wkAll left := by rw [hwk]; simp
      obtain ⟨o1, o2, o3, o4, o5⟩ := first_ok hcl hxm
      have hsum := takeT_sum (x := leastK left (up p) left.length) (hp.fit hcl)
      rw [up_length, hp.1] at hsum
      have hmul : (1 : Int) ≤ (left.length : Int) * leastK left (up p) left.length := by
        have : (1 : Int) * 1 ≤ (left.length : Int) * leastK left (up p) left.length := Int.mul_le_mul (by omega) o2 (by omega) (by omega)
        omega
      have hck := chk_take hcl hxm
      have hts2 := (tsum_rng hck).1
      simp only at hck hts2 o2 o3
      obtain ⟨f, rfl⟩ : ∃ g, f = g + 1 := ⟨f - 1, by omega⟩
      rw [splitF, hwk] at hdone
      simp only at hdone
      have hgt : ∀ (H' : Heap) (k : AV → Prop), k (sl (up p)) → letO (idx 1 (tl ((p :: r).map up)) (.int .i64 0)) fun q => letO (load1 q H') k := by
        intro H' k hk
        refine ReadsC.get (H := H') (Heap.le_refl _) (n := r.length + 1) (cells := sl (up p) :: r.map fun p => sl (up p)) ⟨by simp, by simp [tl, Function.comp_def]⟩ (x := sl (up p)) (by omega) (by omega) rfl hk
      refine hgt _ _ ?_
      refine c81 hcl (hV.le hle) (Reads.sl _ _) (by rw [up_length, hp.1]) hp.rng ?_
      rw [up_length, hp.1]
      try simp only [letO_some, cellsOf?_agg, cellsOf?_int, cellsOf?_bool, cellsOf?_imm, cellsOf?_ref, cellsOf?_nils, faddr_iptr, faddr_ptr, List.drop_succ_cons, List.drop_zero, List.take_succ_cons, List.take_zero, load1_iptr, loadN_iptr, List.length_cons, List.length_nil, Nat.le_refl, if_true, List.getElem?_cons_zero, List.getElem?_cons_succ, List.getD_cons_zero, List.getD_cons_succ, extrF_tup, binF_add, binF_sub, binF_mul, binF_eql, binF_neq, binF_lss, binF_leq, binF_gtr, binF_geq, true_and]
      refine hgt _ _ ?_
      generalize hlk : leastK left (up p) left.length = x at *
      simp only [b50 (show cellsOf? (sl (up p)) = some [sl (up p)] from rfl) cellsOf?_int, l45b, letO_some]
      refine appendA_grow hg (m := 1) (new := [sl (up p), .int .i64 x]) (by simp [srcOf]) rfl rfl (by omega) (by omega) fun v' H7 hg7 => ?_
      have hcs : done.flatMap shC ++ [sl (up p), .int .i64 x] = (done ++ [(p, x)]).flatMap shC := by simp [shC]
      rw [hcs] at hg7
      try simp only [letO_some]
      refine hgt _ _ ?_
      refine c92 (hV.le hg7.le) (Reads.sl _ _) (by rw [up_length, hp.1]) (hp.fit hcl) (by omega) (fun r hr => by rw [row_len hcl hr]; omega) (fun r c => by have := cell_rng hcl r c; omega) (by omega) ?_
      try simp only [letO_some, cellsOf?_agg, cellsOf?_int, cellsOf?_bool, cellsOf?_imm, cellsOf?_ref, cellsOf?_nils, faddr_iptr, faddr_ptr, List.drop_succ_cons, List.drop_zero, List.take_succ_cons, List.take_zero, load1_iptr, loadN_iptr, List.length_cons, List.length_nil, Nat.le_refl, if_true, List.getElem?_cons_zero, List.getElem?_cons_succ, List.getD_cons_zero, List.getD_cons_succ, extrF_tup, binF_add, binF_sub, binF_mul, binF_eql, binF_neq, binF_lss, binF_leq, binF_gtr, binF_geq, true_and]
      have hxl : xl v' = done.length + 1 := by
        rcases hg7.2 with ⟨_, h1, _⟩ | ⟨h1, _⟩ | ⟨b, _, h1, _⟩
        · omega
        · rw [h1]; rfl
        · rw [h1]; rfl
      have hxl0 : xl X = done.length := by
        rcases hg.2 with ⟨h1, h2, _⟩ | ⟨h1, _⟩ | ⟨b, _, h1, _⟩
        · rw [h1, h2]; rfl
        · rw [h1]; rfl
        · rw [h1]; rfl
      refine ⟨⟨done ++ [(p, x)], takeT left (up p) x, f, v', _, rfl, RT.tl _ _, hck, by rw [takeT_length]; exact hll, by omega, by simp; omega, by rw [List.append_assoc]; exact hdone, by rw [List.length_append]; exact hg7⟩, ?_⟩
      show F - xl v' < F - xl X
      omega
  · have e1 : ((evenE t).2 != 0) = true := by rw [bne_iff_ne]; exact he
    simp only [e1, condA_tt]
    rw [if_pos he] at hk
    exact endK_weak (endK_ret hk)
/-- In how many ways plans of a list, none before another one, add up to what is left. -/
def rS : Nat → Tb → List (List Nat) → Nat
  | 0, _, _ => 1
  | _ + 1, _, [] => 0
  | s + 1, t, p :: l => (if 0 < leastK t (up p) t.length then rS s (takeT t (up p) 1) (p :: l) else 0) + rS (s + 1) t l
termination_by s _ l => (s, l.length)
theorem rS_le : ∀ (s : Nat) (t : Tb) (l : List (List Nat)), rS s t l ≤ l.length ^ s
  | 0, t, l => by rw [rS]; simp
  | s + 1, t, [] => by rw [rS]; simp
  | s + 1, t, p :: l => by
    rw [rS]
    have h1 := rS_le s (takeT t (up p) 1) (p :: l)
    have h2 := rS_le (s + 1) t l
    have h3 : l.length ^ s ≤ (p :: l).length ^ s := Nat.pow_le_pow_left (by simp) s
    have h4 : (p :: l).length ^ (s + 1) = l.length * (p :: l).length ^ s + (p :: l).length ^ s := by rw [Nat.pow_succ, Nat.mul_comm, List.length_cons, Nat.add_mul, Nat.one_mul]
    have h5 : l.length ^ (s + 1) = l.length * l.length ^ s := by rw [Nat.pow_succ, Nat.mul_comm]
    have h6 : l.length * l.length ^ s ≤ l.length * (p :: l).length ^ s := Nat.mul_le_mul_left _ h3
    split <;> omega
termination_by s _ l => (s, l.length)
theorem slcT {P : List (List Nat)} {fl : Bool} {k : Nat} (hk : k ≤ P.length) : ∃ fl', slc 1 (.imm P.length fl (P.map fun p => sl (up p))) (some (.int .i64 (k : Int))) none none = some (.imm (P.drop k).length fl' ((P.drop k).map fun p => sl (up p))) := by
  have n1 : ∀ d, natOf none d = some d := fun d => rfl
  have n2 : ∀ d, natOf (some (.int .i64 (k : Int))) d = some k := fun d => by simp [natOf]
  simp only [slc, n1, n2, Option.bind_some]
  rw [if_pos ⟨hk, Nat.le_refl _⟩]
  refine ⟨fl && P.length == P.length, ?_⟩
  rw [Nat.mul_one, Nat.mul_one, List.take_of_length_le (by simp), List.map_drop, List.length_drop]
/-- ref.splits -/
theorem c96 : ∀ (s : Nat) {t : Tbl} {P : List (List Nat)} {v : AV} {fl : Bool} {H : Heap} {K : AV → Heap → Prop}, s ≤ 6 → chkT t = 0 → RT H v t → (∀ p ∈ P, isPlan t.length p) → P.length ≤ 256 → K (.int .i64 (rS s t P : Nat)) H →
    ACalls Tryd.prog 96 [v, .imm P.length fl (P.map fun p => sl (up p)), .int .i64 (s : Int)] H K := by
  intro s
  induction s with
  | zero =>
    intro t P v fl H K hs hc hv hP hPl hk
    apply W96_ok
    unfold W96
    have e : (((0 : Nat) : Int) == 0) = true := rfl
    simp only [letO_some, cellsOf?_agg, cellsOf?_int, cellsOf?_bool, cellsOf?_imm, cellsOf?_ref, cellsOf?_nils, faddr_iptr, faddr_ptr, List.drop_succ_cons, List.drop_zero, List.take_succ_cons, List.take_zero, load1_iptr, loadN_iptr, List.length_cons, List.length_nil, Nat.le_refl, if_true, List.getElem?_cons_zero, List.getElem?_cons_succ, List.getD_cons_zero, List.getD_cons_succ, extrF_tup, binF_add, binF_sub, binF_mul, binF_eql, binF_neq, binF_lss, binF_leq, binF_gtr, binF_geq, true_and, e, condA_tt]
    rw [rS] at hk
    exact endK_ret hk
  | succ s ih =>
    intro t P v fl H K hs hc hv hP hPl hk
    apply W96_ok
    unfold W96
    obtain ⟨n1, n2, hrows⟩ := chkT_ok hc
    have e : (((s + 1 : Nat) : Int) == 0) = false := by rw [beq_eq_false_iff_ne]; omega
    have hPlen : lenA (.imm P.length fl (P.map fun p => sl (up p))) = some (.int .i64 P.length) := rfl
    have hB : rS (s + 1) t P ≤ 256 ^ 6 := by
      refine Nat.le_trans (rS_le _ _ _) (Nat.le_trans (Nat.pow_le_pow_left hPl _) (Nat.pow_le_pow_right (by decide) hs))
    have h256 : (256 : Nat) ^ 6 = 281474976710656 := by decide
    simp only [letO_some, cellsOf?_agg, cellsOf?_int, cellsOf?_bool, cellsOf?_imm, cellsOf?_ref, cellsOf?_nils, faddr_iptr, faddr_ptr, List.drop_succ_cons, List.drop_zero, List.take_succ_cons, List.take_zero, load1_iptr, loadN_iptr, List.length_cons, List.length_nil, Nat.le_refl, if_true, List.getElem?_cons_zero, List.getElem?_cons_succ, List.getD_cons_zero, List.getD_cons_succ, extrF_tup, binF_add, binF_sub, binF_mul, binF_eql, binF_neq, binF_lss, binF_leq, binF_gtr, binF_geq, true_and, e, condA_ff, hPlen]
    refine ⟨fun L H' => ∃ (i acc : Nat), eqt L [.int .i64 acc, .int .i64 i] ∧ i ≤ P.length ∧ eqt H' H ∧ acc + rS (s + 1) t (P.drop i) = rS (s + 1) t P, fun L _ => (P.length - iv L 1).toNat, ⟨0, 0, rfl, by omega, rfl, by simp⟩, ?_⟩
    rintro L H' ⟨i, acc, rfl, hi, rfl, hacc⟩
    try simp only [letO_some, cellsOf?_agg, cellsOf?_int, cellsOf?_bool, cellsOf?_imm, cellsOf?_ref, cellsOf?_nils, faddr_iptr, faddr_ptr, List.drop_succ_cons, List.drop_zero, List.take_succ_cons, List.take_zero, load1_iptr, loadN_iptr, List.length_cons, List.length_nil, Nat.le_refl, if_true, List.getElem?_cons_zero, List.getElem?_cons_succ, List.getD_cons_zero, List.getD_cons_succ, extrF_tup, binF_add, binF_sub, binF_mul, binF_eql, binF_neq, binF_lss, binF_leq, binF_gtr, binF_geq, true_and]
    refine condA_t (fun hlt => ?_) (fun hge => ?_)
    · have a1 : i < P.length := by omega
      have hpi := hP P[i] (List.getElem_mem a1)
      have hget : ∀ (H' : Heap) (k : AV → Prop), k (sl (up P[i])) → letO (idx 1 (.imm P.length fl (P.map fun p => sl (up p))) (.int .i64 (i : Int))) fun q => letO (load1 q H') k := by
        intro H' k hk
        refine ReadsC.get (H := H') (v := .imm P.length fl (P.map fun p => sl (up p))) (Heap.le_refl _) (n := P.length) (cells := P.map fun p => sl (up p)) ⟨by simp, rfl, rfl⟩ (x := sl (up P[i])) (by omega) (by omega) ?_ hk
        simp [a1]
      rw [List.drop_eq_getElem_cons a1, rS] at hacc
      refine ⟨fun L H'' => ∃ acc' : Nat, eqt L [.int .i64 acc'] ∧ eqt H'' H' ∧ acc' + rS (s + 1) t (P.drop (i + 1)) = rS (s + 1) t P, ?_, ?_⟩
      · refine hget _ _ ?_
        refine c81 hc hv (Reads.sl _ _) (by rw [up_length, hpi.1]) hpi.rng ?_
        rw [up_length, hpi.1]
        try simp only [letO_some, cellsOf?_agg, cellsOf?_int, cellsOf?_bool, cellsOf?_imm, cellsOf?_ref, cellsOf?_nils, faddr_iptr, faddr_ptr, List.drop_succ_cons, List.drop_zero, List.take_succ_cons, List.take_zero, load1_iptr, loadN_iptr, List.length_cons, List.length_nil, Nat.le_refl, if_true, List.getElem?_cons_zero, List.getElem?_cons_succ, List.getD_cons_zero, List.getD_cons_succ, extrF_tup, binF_add, binF_sub, binF_mul, binF_eql, binF_neq, binF_lss, binF_leq, binF_gtr, binF_geq, true_and]
        refine condA_t (fun hpos => ?_) (fun hnp => ?_)
        · rw [if_pos (by omega)] at hacc
          refine hget _ _ ?_
          obtain ⟨fl', hsl⟩ := slcT (P := P) (fl := fl) (k := i) (by omega)
          refine ⟨_, c92 hv (Reads.sl _ _) (by rw [up_length, hpi.1]) (hpi.fit hc) (by omega) (fun r hr => by rw [row_len hc hr]; omega) (fun r c => by have := cell_rng hc r c; omega) (by omega) ⟨rfl, rfl⟩, ?_⟩
          simp only [letO_some, cellsOf?_agg, cellsOf?_int, cellsOf?_bool, cellsOf?_imm, cellsOf?_ref, cellsOf?_nils, faddr_iptr, faddr_ptr, List.drop_succ_cons, List.drop_zero, List.take_succ_cons, List.take_zero, load1_iptr, loadN_iptr, List.length_cons, List.length_nil, Nat.le_refl, if_true, List.getElem?_cons_zero, List.getElem?_cons_succ, List.getD_cons_zero, List.getD_cons_succ, extrF_tup, binF_add, binF_sub, binF_mul, binF_eql, binF_neq, binF_lss, binF_leq, binF_gtr, binF_geq, true_and, hsl]
          rw [wrap_i64 (by omega) (by omega), show (((s + 1 : Nat) : Int) - 1) = (s : Int) by omega]
          have hck : chkT (takeT t (up P[i]) 1) = 0 := chk_takeP hc hpi (by omega)
          refine ⟨_, ih (P := P.drop i) (by omega) hck (RT.tl _ _) (fun p hp => by rw [takeT_length]; exact hP p (List.mem_of_mem_drop hp)) (by rw [List.length_drop]; omega) ⟨rfl, rfl⟩, ?_⟩
          rw [← List.drop_eq_getElem_cons a1] at hacc
          try simp only [letO_some, cellsOf?_agg, cellsOf?_int, cellsOf?_bool, cellsOf?_imm, cellsOf?_ref, cellsOf?_nils, faddr_iptr, faddr_ptr, List.drop_succ_cons, List.drop_zero, List.take_succ_cons, List.take_zero, load1_iptr, loadN_iptr, List.length_cons, List.length_nil, Nat.le_refl, if_true, List.getElem?_cons_zero, List.getElem?_cons_succ, List.getD_cons_zero, List.getD_cons_succ, extrF_tup, binF_add, binF_sub, binF_mul, binF_eql, binF_neq, binF_lss, binF_leq, binF_gtr, binF_geq, true_and]
          rw [wrap_i64 (by omega) (by omega)]
          exact ⟨acc + rS s (takeT t (up P[i]) 1) (P.drop i), by unfold eqt; congr 2, rfl, by omega⟩
        · rw [if_neg (by omega)] at hacc
          exact ⟨acc, rfl, rfl, by omega⟩
      · rintro L H'' ⟨acc', rfl, rfl, hacc'⟩
        try simp only [letO_some, cellsOf?_agg, cellsOf?_int, cellsOf?_bool, cellsOf?_imm, cellsOf?_ref, cellsOf?_nils, faddr_iptr, faddr_ptr, List.drop_succ_cons, List.drop_zero, List.take_succ_cons, List.take_zero, load1_iptr, loadN_iptr, List.length_cons, List.length_nil, Nat.le_refl, if_true, List.getElem?_cons_zero, List.getElem?_cons_succ, List.getD_cons_zero, List.getD_cons_succ, extrF_tup, binF_add, binF_sub, binF_mul, binF_eql, binF_neq, binF_lss, binF_leq, binF_gtr, binF_geq, true_and]
        rw [wrap_i64 (by omega) (by omega)]
        exact ⟨⟨i + 1, acc', rfl, by omega, rfl, hacc'⟩, by simp <;> omega⟩
    · have hie : i = P.length := by omega
      subst hie
      rw [List.drop_length, rS, Nat.add_zero] at hacc
      rw [← hacc] at hk
      exact endK_ret hk
/-- Splits, in the words of the reference. -/
def splitsR (t : Tb) : Int × Int := if (evenE t).2 ≠ 0 then (0, (evenE t).2) else if 6 < (evenE t).1 then (0, 15) else ((rS (evenE t).1.toNat t (plansS t.length) : Nat), 0)
/-- ref.Splits -/
theorem c41 {v : AV} {t : Tbl} {H : Heap} {K : AV → Heap → Prop} (hv : RT H v t) (hl : t.length < 2 ^ 63) (hl2 : ∀ l ∈ t, l.length < 2 ^ 63) (hk : K (.tup [.int .i64 (splitsR t).1, .int .i64 (splitsR t).2]) H) : ACalls Tryd.prog 41 [v] H K := by
  apply W41_ok
  unfold W41
  try simp only [letO_some, cellsOf?_agg, cellsOf?_int, cellsOf?_bool, cellsOf?_imm, cellsOf?_ref, cellsOf?_nils, faddr_iptr, faddr_ptr, List.drop_succ_cons, List.drop_zero, List.take_succ_cons, List.take_zero, load1_iptr, loadN_iptr, List.length_cons, List.length_nil, Nat.le_refl, if_true, List.getElem?_cons_zero, List.getElem?_cons_succ, List.getD_cons_zero, List.getD_cons_succ, extrF_tup, binF_add, binF_sub, binF_mul, binF_eql, binF_neq, binF_lss, binF_leq, binF_gtr, binF_geq, true_and]
  refine c19 hv hl hl2 ?_
  try simp only [letO_some, cellsOf?_agg, cellsOf?_int, cellsOf?_bool, cellsOf?_imm, cellsOf?_ref, cellsOf?_nils, faddr_iptr, faddr_ptr, List.drop_succ_cons, List.drop_zero, List.take_succ_cons, List.take_zero, load1_iptr, loadN_iptr, List.length_cons, List.length_nil, Nat.le_refl, if_true, List.getElem?_cons_zero, List.getElem?_cons_succ, List.getD_cons_zero, List.getD_cons_succ, extrF_tup, binF_add, binF_sub, binF_mul, binF_eql, binF_neq, binF_lss, binF_leq, binF_gtr, binF_geq, true_and]
  unfold splitsR at hk
  by_cases he : (evenE t).2 = 0
  · have hc : chkT t = 0 := by
      unfold evenE at he
      split at he
      · exact he
      · rename_i h; exact Decidable.not_not.1 h
    obtain ⟨n1, n2, hrows⟩ := chkT_ok hc
    rw [if_neg (by simp [he])] at hk
    have hs0 : 0 ≤ (evenE t).1 := by
      rw [evenE_iff hc]
      split
      · exact (rowS_bd hc 0 t.length).1
      · simp
    rw [he]
    generalize (evenE t).1 = s at *
    refine ⟨fun L H' => eqt L [.int .i64 (if 6 < s then 15 else 0)] ∧ eqt H' H, ?_, ?_⟩
    · simp only [beq_self_eq_true, gval_bool, Int.reduceBNe, Int.reduceBEq, pickF_true, pickF_false, reduceIte, Bool.true_eq_false, Bool.false_eq_true, if_false, condA_tt, condA_ff, condG_tt, condG_ff, condG_tt', condG_ff', condG_undef, gval_undef, letO_some, cellsOf?_agg, cellsOf?_int, cellsOf?_bool, cellsOf?_imm, cellsOf?_ref, cellsOf?_nils, faddr_iptr, faddr_ptr, List.drop_succ_cons, List.drop_zero, List.take_succ_cons, List.take_zero, load1_iptr, loadN_iptr, List.length_cons, List.length_nil, Nat.le_refl, if_true, List.getElem?_cons_zero, List.getElem?_cons_succ, List.getD_cons_zero, List.getD_cons_succ, extrF_tup, binF_add, binF_sub, binF_mul, binF_eql, binF_neq, binF_lss, binF_leq, binF_gtr, binF_geq, true_and]
      refine condA_t (fun h => ?_) (fun h => ?_)
      · rw [if_pos h]; exact ⟨rfl, rfl⟩
      · rw [if_neg h]; exact ⟨rfl, rfl⟩
    rintro L H' ⟨rfl, rfl⟩
    try simp only [letO_some, cellsOf?_agg, cellsOf?_int, cellsOf?_bool, cellsOf?_imm, cellsOf?_ref, cellsOf?_nils, faddr_iptr, faddr_ptr, List.drop_succ_cons, List.drop_zero, List.take_succ_cons, List.take_zero, load1_iptr, loadN_iptr, List.length_cons, List.length_nil, Nat.le_refl, if_true, List.getElem?_cons_zero, List.getElem?_cons_succ, List.getD_cons_zero, List.getD_cons_succ, extrF_tup, binF_add, binF_sub, binF_mul, binF_eql, binF_neq, binF_lss, binF_leq, binF_gtr, binF_geq, true_and]
    by_cases h6 : 6 < s
    · rw [if_pos h6] at hk ⊢
      simp only [gval_bool, Int.reduceBNe, Int.reduceBEq, pickF_true, pickF_false, reduceIte, Bool.true_eq_false, Bool.false_eq_true, if_false, condA_tt, condA_ff, condG_tt, condG_ff, condG_tt', condG_ff', condG_undef, gval_undef, letO_some, cellsOf?_agg, cellsOf?_int, cellsOf?_bool, cellsOf?_imm, cellsOf?_ref, cellsOf?_nils, faddr_iptr, faddr_ptr, List.drop_succ_cons, List.drop_zero, List.take_succ_cons, List.take_zero, load1_iptr, loadN_iptr, List.length_cons, List.length_nil, Nat.le_refl, if_true, List.getElem?_cons_zero, List.getElem?_cons_succ, List.getD_cons_zero, List.getD_cons_succ, extrF_tup, binF_add, binF_sub, binF_mul, binF_eql, binF_neq, binF_lss, binF_leq, binF_gtr, binF_geq, true_and]
      exact endK_ret hk
    · rw [if_neg h6] at hk ⊢
      simp only [bne_self_eq_false, condA_ff, hv.len, letO_some]
      refine c76n ⟨n1, n2⟩ ?_
      have e : tl ((plansS t.length).map up) = .imm (plansS t.length).length false ((plansS t.length).map fun p => sl (up p)) := by simp [tl, Function.comp_def]
      rw [e, show (s : Int) = ((s.toNat : Nat) : Int) by omega]
      refine c96 s.toNat (by omega) hc hv (fun p hp => plansS_mem hp) (plansS_len n2) ?_
      try simp only [letO_some, cellsOf?_agg, cellsOf?_int, cellsOf?_bool, cellsOf?_imm, cellsOf?_ref, cellsOf?_nils, faddr_iptr, faddr_ptr, List.drop_succ_cons, List.drop_zero, List.take_succ_cons, List.take_zero, load1_iptr, loadN_iptr, List.length_cons, List.length_nil, Nat.le_refl, if_true, List.getElem?_cons_zero, List.getElem?_cons_succ, List.getD_cons_zero, List.getD_cons_succ, extrF_tup, binF_add, binF_sub, binF_mul, binF_eql, binF_neq, binF_lss, binF_leq, binF_gtr, binF_geq, true_and]
      exact endK_ret hk
  · have e1 : ((evenE t).2 == 0) = false := by rw [beq_eq_false_iff_ne]; exact he
    have e2 : ((evenE t).2 != 0) = true := by rw [bne_iff_ne]; exact he
    refine ⟨fun L H' => eqt L [.int .i64 (evenE t).2] ∧ eqt H' H, ?_, ?_⟩
    · simp only [e1, gval_bool, Int.reduceBNe, Int.reduceBEq, pickF_true, pickF_false, reduceIte, Bool.true_eq_false, Bool.false_eq_true, if_false, condA_tt, condA_ff, condG_tt, condG_ff, condG_tt', condG_ff', condG_undef, gval_undef, letO_some, cellsOf?_agg, cellsOf?_int, cellsOf?_bool, cellsOf?_imm, cellsOf?_ref, cellsOf?_nils, faddr_iptr, faddr_ptr, List.drop_succ_cons, List.drop_zero, List.take_succ_cons, List.take_zero, load1_iptr, loadN_iptr, List.length_cons, List.length_nil, Nat.le_refl, if_true, List.getElem?_cons_zero, List.getElem?_cons_succ, List.getD_cons_zero, List.getD_cons_succ, extrF_tup, binF_add, binF_sub, binF_mul, binF_eql, binF_neq, binF_lss, binF_leq, binF_gtr, binF_geq, true_and]
      exact ⟨rfl, rfl⟩
    rintro L H' ⟨rfl, rfl⟩
    simp only [letO_some, cellsOf?_agg, cellsOf?_int, cellsOf?_bool, cellsOf?_imm, cellsOf?_ref, cellsOf?_nils, faddr_iptr, faddr_ptr, List.drop_succ_cons, List.drop_zero, List.take_succ_cons, List.take_zero, load1_iptr, loadN_iptr, List.length_cons, List.length_nil, Nat.le_refl, if_true, List.getElem?_cons_zero, List.getElem?_cons_succ, List.getD_cons_zero, List.getD_cons_succ, extrF_tup, binF_add, binF_sub, binF_mul, binF_eql, binF_neq, binF_lss, binF_leq, binF_gtr, binF_geq, true_and, e2, condA_tt]
    rw [if_pos he] at hk
    exact endK_ret hk
end Go.Proofs.YtbofkeoebnjjkaaDoor

namespace Go.Proofs.YtbofkeoebnjjkaaDoor
open Tab
set_option linter.unusedVariables false
set_option linter.unusedSimpArgs false

/- Counting splits by times, and plan by plan. -/
theorem mostK_in {t : Tb} {p : List Nat} : ∀ i, mostK t p i = 9 ∨ ∃ j, j < i ∧ mostK t p i = cell t j (p.getD j 0)
  | 0 => .inl rfl
  | i + 1 => by
    rw [mostK]
    split
    · exact .inr ⟨i, by omega, rfl⟩
    · rcases mostK_in (t := t) (p := p) i with h | ⟨j, h1, h2⟩
      · exact .inl h
      · exact .inr ⟨j, by omega, h2⟩
theorem most_least {t : Tb} (hc : chkT t = 0) {p : List Nat} (hp : isPlan t.length p) : most t p = leastK t (up p) t.length := by
  obtain ⟨n1, n2, hrows⟩ := chkT_ok hc
  have h1 := mostK_le hc (p := p) t.length
  obtain ⟨r, h2, h3⟩ := leastK_in (t := t) (p := up p) t.length n1
  have h4 := h1.2.2 r h2
  rw [up_getN] at h3
  have h5 : leastK t (up p) t.length ≤ mostK t p t.length := by
    rcases mostK_in (t := t) (p := p) t.length with h | ⟨j, h6, h7⟩
    · rw [h, h3]; exact (cell_rng hc _ _).2
    · rw [h7]
      have := leastK_le (t := t) (p := up p) t.length j h6
      rwa [up_getN] at this
  unfold most
  rw [hp.1]
  omega
theorem putL_zero : ∀ (l : List (List Nat)) (t : Tb), putL l t 0 = 1
  | [], t => rfl
  | p :: l, t => by rw [putL, if_pos rfl]
theorem take_cell_le {t : Tb} (hc : chkT t = 0) {p : List Nat} (hp : isPlan t.length p) {x : Int} (hx : 0 ≤ x) (r c : Nat) : cell (takeT t (up p) x) r c ≤ cell t r c := by
  by_cases hr : r < t.length
  · rw [takeT_cell (hp.fit hc) hr]
    split <;> omega
  · have e : cell (takeT t (up p) x) r c = 0 := by
      unfold cell row
      rw [List.getD_eq_getElem?_getD (l := takeT t (up p) x), List.getElem?_eq_none (by rw [takeT_length]; omega)]; rfl
    rw [e]; exact (cell_rng hc r c).1
/-- Plans that are not within a table play no part. -/
theorem putL_filter {u : Tb} (hu : chkT u = 0) : ∀ (l : List (List Nat)) (t : Tb) (s : Int), chkT t = 0 → t.length = u.length → (∀ p ∈ l, isPlan u.length p) → (∀ r c, cell t r c ≤ cell u r c) →
    putL l t s = putL (l.filter fun p => decide (0 < leastK u (up p) u.length)) t s
  | [], t, s, _, _, _, _ => rfl
  | p :: l, t, s, hc, hl, hp, hle => by
    have hpp := hp p (by simp)
    have hpt : isPlan t.length p := by rw [hl]; exact hpp
    have ih : ∀ t s, chkT t = 0 → t.length = u.length → (∀ r c, cell t r c ≤ cell u r c) → putL l t s = putL (l.filter fun p => decide (0 < leastK u (up p) u.length)) t s := fun t s h1 h2 h3 => putL_filter hu l t s h1 h2 (fun q hq => hp q (by simp [hq])) h3
    have hm := most_least hc hpt
    rw [List.filter_cons]
    by_cases hw : 0 < leastK u (up p) u.length
    · rw [if_pos (by simpa using hw), putL, putL]
      by_cases hs : s = 0
      · rw [if_pos hs, if_pos hs]
      · rw [if_neg hs, if_neg hs, ih t s hc hl hle]
        congr 2
        refine List.map_congr_left fun k hk => ?_
        have hk' := List.mem_range.1 hk
        refine ih _ _ (chk_takeP hc hpt ⟨by omega, by omega⟩) (by rw [takeT_length]; exact hl) fun r c => ?_
        exact Int.le_trans (take_cell_le hc hpt (by omega) r c) (hle r c)
    · rw [if_neg (by simpa using hw), putL]
      have h0 : (most t p).toNat = 0 := by
        rw [hm]
        obtain ⟨r, h2, h3⟩ := leastK_in (t := u) (p := up p) u.length (chkT_ok hu).1
        have h4 := leastK_le (t := t) (p := up p) t.length r (by omega)
        have h5 := hle r ((up p).getD r 0).toNat
        omega
      rw [h0]
      simp only [List.range_zero, List.map_nil, List.sum_nil, Int.add_zero]
      by_cases hs : s = 0
      · rw [if_pos hs]; subst hs; exact (putL_zero _ _).symm
      · rw [if_neg hs]; exact ih t s hc hl hle
theorem rowS_take {t : Tb} (hc : chkT t = 0) {p : List Nat} (hp : isPlan t.length p) {x : Int} : ∀ m, m ≤ t.length → rowS (takeT t (up p) x) 0 m = rowS t 0 m - if p.getD 0 0 < m then x else 0
  | 0, _ => by simp [rowS]
  | m + 1, h => by
    have n1 := (chkT_ok hc).1
    rw [rowS_succ, rowS_succ, rowS_take hc hp m (by omega), takeT_cell (hp.fit hc) (by omega), up_length, hp.1, up_getN]
    generalize p.getD 0 0 = a
    by_cases h1 : m = a
    · rw [if_pos (c := 0 < t.length ∧ m = a) ⟨n1, h1⟩, if_neg (c := a < m) (by omega), if_pos (c := a < m + 1) (by omega)]; omega
    · rw [if_neg (c := 0 < t.length ∧ m = a) (fun h => h1 h.2)]
      by_cases h2 : a < m
      · rw [if_pos (c := a < m) h2, if_pos (c := a < m + 1) (by omega)]; omega
      · rw [if_neg (c := a < m) h2, if_neg (c := a < m + 1) (by omega)]; omega
theorem rowS_ge {t : Tb} (hc : chkT t = 0) : ∀ m c, c < m → cell t 0 c ≤ rowS t 0 m
  | 0, c, h => by omega
  | m + 1, c, h => by
    rw [rowS_succ]
    have h1 := rowS_bd hc 0 m
    have h2 := cell_rng hc 0 m
    by_cases hm : c = m
    · subst hm; omega
    · have := rowS_ge hc m c (by omega); omega
theorem rS_put : ∀ (l : List (List Nat)) (s : Nat) (t : Tb), chkT t = 0 → (∀ p ∈ l, isPlan t.length p) → rowS t 0 t.length = s → ((rS s t l : Nat) : Int) = putL l t s
  | l, 0, t, _, _, _ => by rw [rS, show (((0 : Nat)) : Int) = 0 from rfl, putL_zero]; rfl
  | [], s + 1, t, _, _, _ => by rw [rS, putL, if_neg (by omega)]; rfl
  | p :: l, s + 1, t, hc, hp, hs => by
    have hpt := hp p (by simp)
    have n1 := (chkT_ok hc).1
    have hm := most_least hc hpt
    have ihl : ((rS (s + 1) t l : Nat) : Int) = putL l t ((s + 1 : Nat) : Int) := rS_put l (s + 1) t hc (fun q hq => hp q (by simp [hq])) hs
    have hp0 : p.getD 0 0 < t.length := by
      have : p.getD 0 0 ∈ p := by rw [List.getD_eq_getElem?_getD]; simp [hpt.1, show 0 < t.length by omega]
      exact hpt.2 _ this
    rw [rS, putL, if_neg (c := ((s + 1 : Nat) : Int) = 0) (by omega)]
    by_cases hpos : 0 < leastK t (up p) t.length
    · rw [if_pos hpos, Int.natCast_add, ihl]
      have hck : chkT (takeT t (up p) 1) = 0 := chk_takeP hc hpt (by omega)
      have hl1 : (takeT t (up p) 1).length = t.length := takeT_length _ _ _
      have hpt1 : isPlan (takeT t (up p) 1).length p := by rw [hl1]; exact hpt
      have hrs : rowS (takeT t (up p) 1) 0 (takeT t (up p) 1).length = (s : Nat) := by
        rw [hl1, rowS_take hc hpt t.length (Nat.le_refl _), if_pos hp0, hs]; omega
      have ih := rS_put (p :: l) s (takeT t (up p) 1) hck (fun q hq => by rw [hl1]; exact hp q hq) hrs
      rw [ih]
      have hm1 := most_least hck hpt1
      -- the smallest number, once the plan is taken away
      have hlk : leastK (takeT t (up p) 1) (up p) (takeT t (up p) 1).length = leastK t (up p) t.length - 1 := by
        rw [hl1]
        have hcell : ∀ r, r < t.length → cell (takeT t (up p) 1) r (p.getD r 0) = cell t r (p.getD r 0) - 1 := fun r hr => by
          rw [takeT_cell (hpt.fit hc) hr, if_pos ⟨by rw [up_length, hpt.1]; exact hr, by rw [up_getN]⟩]
        obtain ⟨r1, q1, q2⟩ := leastK_in (t := takeT t (up p) 1) (p := up p) t.length n1
        obtain ⟨r2, q3, q4⟩ := leastK_in (t := t) (p := up p) t.length n1
        have q5 := leastK_le (t := takeT t (up p) 1) (p := up p) t.length r2 q3
        have q6 := leastK_le (t := t) (p := up p) t.length r1 q1
        rw [up_getN] at q2 q4 q5 q6
        rw [hcell r1 q1] at q2
        rw [hcell r2 q3] at q5
        omega
      obtain ⟨k, hk⟩ : ∃ k : Nat, (most t p).toNat = k + 1 := ⟨(most t p).toNat - 1, by omega⟩
      have hk1 : (most (takeT t (up p) 1) p).toNat = k := by omega
      rw [hk, List.range_succ_eq_map, List.map_cons, List.sum_cons, List.map_map]
      have e0 : takeT t (up p) (((0 : Nat) : Int) + 1) = takeT t (up p) 1 := rfl
      have e1 : (((s + 1 : Nat) : Int) - ((0 : Nat) : Int) - 1) = (s : Int) := by omega
      rw [e0, e1]
      have hput : putL (p :: l) (takeT t (up p) 1) (s : Int) = putL l (takeT t (up p) 1) (s : Int) + ((List.range k).map ((fun (k : Nat) => putL l (takeT t (up p) ((k : Int) + 1)) (((s + 1 : Nat) : Int) - k - 1)) ∘ Nat.succ)).sum := by
        rw [putL, hk1]
        by_cases hs0 : s = 0
        · subst hs0
          rw [if_pos (c := ((0 : Nat) : Int) = 0) rfl, show (((0 : Nat)) : Int) = 0 from rfl, putL_zero]
          have hk0 : k = 0 := by
            have h1 := leastK_le (t := t) (p := up p) t.length 0 (by omega)
            rw [up_getN] at h1
            have h2 := rowS_ge hc t.length (p.getD 0 0) hp0
            omega
          subst hk0
          simp
        · rw [if_neg (by omega)]
          congr 2
          refine List.map_congr_left fun j hj => ?_
          simp only [Function.comp]
          rw [takeT_take (hpt.fit hc)]
          have a1 : (1 : Int) + ((j : Int) + 1) = ((j.succ : Nat) : Int) + 1 := by omega
          have a2 : (s : Int) - (j : Int) - 1 = ((s + 1 : Nat) : Int) - ((j.succ : Nat) : Int) - 1 := by omega
          rw [a1, a2]
      rw [hput]
      omega
    · have h0 : (most t p).toNat = 0 := by omega
      rw [if_neg hpos, h0, Nat.zero_add, ihl]
      simp
termination_by l s _ => (s, l.length)
/-- BOTH COUNT THE SAME SPLITS. -/
theorem splits_eq (t : Tb) : splitsE t = splitsR t := by
  unfold splitsE splitsR
  by_cases he : (evenE t).2 = 0
  · have hc : chkT t = 0 := by
      unfold evenE at he
      split at he
      · exact he
      · rename_i h; exact Decidable.not_not.1 h
    rw [if_neg (c := (evenE t).2 ≠ 0) (by simp [he]), if_neg (c := (evenE t).2 ≠ 0) (by simp [he])]
    by_cases h6 : 6 < (evenE t).1
    · rw [if_pos h6, if_pos h6]
    · rw [if_neg h6, if_neg h6]
      have hs : (evenE t).1 = rowS t 0 t.length := by
        have h1 := evenE_iff hc
        by_cases hx : ∀ k, k < t.length → rowS t k t.length = rowS t 0 t.length ∧ colS t k t.length = rowS t 0 t.length
        · rw [if_pos hx] at h1; rw [h1]
        · rw [if_neg hx] at h1; rw [h1] at he; cases he
      have hs0 := (rowS_bd hc 0 t.length).1
      congr 1
      have h1 := rS_put (plansS t.length) (evenE t).1.toNat t hc (fun p hp => plansS_mem hp) (by omega)
      rw [h1, putL_filter hc _ _ _ hc rfl (fun p hp => plansS_mem hp) (fun _ _ => Int.le_refl _)]
      have h2 : (wkAll t).map (fun v => v.1) = withinS t := by rw [wkAll_eq hc, List.map_map]; simp [Function.comp_def]
      rw [h2, show (((evenE t).1.toNat : Nat) : Int) = (evenE t).1 by omega]
      rfl
  · rw [if_pos he, if_pos he]
end Go.Proofs.YtbofkeoebnjjkaaDoor

namespace Go.Proofs.YtbofkeoebnjjkaaDoor
open Tab
set_option linter.unusedVariables false
set_option linter.unusedSimpArgs false
set_option maxRecDepth 20000

/- Even tables: there is a plan as long as there is anything. -/
structure EvT (n : Nat) (s : Int) (t : Tb) : Prop where
  chk : chkT t = 0
  len : t.length = n
  row : ∀ k, k < n → rowS t k n = s
  col : ∀ k, k < n → colS t k n = s
theorem EvT.bd {n : Nat} {s : Int} {t : Tb} (h : EvT n s t) : 1 ≤ n ∧ n ≤ 4 := by
  obtain ⟨h1, h2, _⟩ := chkT_ok h.chk
  rw [h.len] at h1 h2
  exact ⟨h1, h2⟩
theorem EvT.pos {n : Nat} {s : Int} {t : Tb} (h : EvT n s t) : 0 ≤ s := by
  rw [← h.row 0 h.bd.1]
  exact (rowS_bd h.chk 0 n).1
theorem EvT.take {n : Nat} {s x : Int} {t : Tb} (h : EvT n s t) {p : List Nat} (hp : p ∈ plansS n) (hx : 0 ≤ x ∧ x ≤ leastK t (up p) n) : EvT n (s - x) (takeT t (up p) x) := by
  have hpl : isPlan t.length p := by rw [h.len]; exact plansS_mem hp
  have hf := hpl.fit h.chk
  refine ⟨chk_takeP h.chk hpl (by rw [h.len]; exact hx), by rw [takeT_length]; exact h.len, fun k hk => ?_, fun k hk => ?_⟩
  · rw [rowS_takeR hf hpl.1 (by rw [h.len]; exact hk) n (by rw [h.len]; exact Nat.le_refl _), h.row k hk, if_pos]
    have := (plansS_mem hp).2 (p.getD k 0) (getD_mem (by rw [(plansS_mem hp).1]; exact hk))
    exact this
  · rw [colS_take hf hpl.1 k n (by rw [h.len]; exact Nat.le_refl _), h.col k hk]
    have hb := h.bd
    have := perm_count ⟨n, by omega⟩ p hp ⟨k, by omega⟩ hk
    simp only at this
    rw [this]; simp
theorem sum_swap {A B : List Nat} (f : Nat → Nat → Int) : (A.map fun r => (B.map fun c => f r c).sum).sum = (B.map fun c => (A.map fun r => f r c).sum).sum := by
  induction A with
  | nil =>
    induction B with
    | nil => rfl
    | cons b B ih => rw [List.map_cons, List.sum_cons, ← ih]; rfl
  | cons a A ih =>
    simp only [List.map_cons, List.sum_cons, ih]
    clear ih
    induction B with
    | nil => simp
    | cons b B ih => simp only [List.map_cons, List.sum_cons] at ih ⊢; omega
theorem sum_const {A : List Nat} {f : Nat → Int} {s : Int} (h : ∀ a ∈ A, f a = s) : (A.map f).sum = A.length * s := by
  induction A with
  | nil => simp
  | cons a A ih =>
    rw [List.map_cons, List.sum_cons, ih fun x hx => h x (by simp [hx]), h a (by simp), List.length_cons, Int.natCast_add, Int.add_mul]
    omega
theorem sum_gap {g : Nat → Int} {q : Nat → Bool} {s : Int} : ∀ l : List Nat, (∀ c ∈ l, q c = true → g c ≤ 0) → (∀ c ∈ l, g c ≤ s) → (l.map g).sum + (l.filter q).length * s ≤ l.length * s
  | [], _, _ => by simp
  | a :: l, h1, h2 => by
    have ih := sum_gap l (fun c hc => h1 c (by simp [hc])) fun c hc => h2 c (by simp [hc])
    rw [List.map_cons, List.sum_cons, List.length_cons, Int.natCast_add, Int.add_mul, List.filter_cons]
    have a2 := h2 a (by simp)
    by_cases hq : q a = true
    · have a1 := h1 a (by simp) hq
      rw [if_pos hq, List.length_cons, Int.natCast_add, Int.add_mul]; omega
    · rw [if_neg hq]; omega
theorem sum_sub {f : Nat → Int} {q : Nat → Bool} : ∀ l : List Nat, (∀ c ∈ l, 0 ≤ f c) → ((l.filter q).map f).sum ≤ (l.map f).sum
  | [], _ => by simp
  | a :: l, h => by
    have ih := sum_sub (q := q) l fun c hc => h c (by simp [hc])
    have a1 := h a (by simp)
    rw [List.filter_cons, List.map_cons, List.sum_cons]
    split
    · rw [List.map_cons, List.sum_cons]; omega
    · omega
theorem sum_four {f : Nat → Int} {n : Nat} (hn : n ≤ 4) (h : ∀ r, n ≤ r → f r = 0) : ((List.range 4).map f).sum = ((List.range n).map f).sum := by
  have h4 : n = 0 ∨ n = 1 ∨ n = 2 ∨ n = 3 ∨ n = 4 := by omega
  rcases h4 with rfl | rfl | rfl | rfl | rfl <;> simp [List.range_succ, h]
/-- Something, a plan. -/
theorem EvT.plan {n : Nat} {s : Int} {t : Tb} (h : EvT n s t) (hs : 0 < s) : withinS t ≠ [] := by
  intro hw
  obtain ⟨z, z1, z2, z3⟩ := no_plan h.chk hw
  have hb := h.bd
  have z4 : t.length < (zerosZ t (up (lst z))).length + (lst z).length := of_decide_eq_true z3
  rw [h.len] at z4 z2
  have e1 : ((lst z).map fun r => ((List.range n).map fun c => cell t r c).sum).sum = (lst z).length * s := sum_const fun r hr => h.row r (lst_mem z2 hr)
  rw [sum_swap] at e1
  have e2 := sum_gap (g := fun c => ((lst z).map fun r => cell t r c).sum) (q := fun c => (up (lst z)).all fun r => decide (cell t r.toNat c = 0)) (s := s) (List.range n) (fun c hc hq => by
    have : ((lst z).map fun r => cell t r c).sum = (lst z).length * 0 := sum_const fun r hr => by
      have := (List.all_eq_true.1 hq) (r : Int) (List.mem_map.2 ⟨r, hr, rfl⟩)
      have := of_decide_eq_true this
      rwa [Int.toNat_natCast] at this
    simp only [this, Int.mul_zero]; exact Int.le_refl _) (fun c hc => by
    have hcn : c < n := by simpa using hc
    have a1 : ((lst z).map fun r => cell t r c).sum ≤ ((List.range 4).map fun r => cell t r c).sum := sum_sub _ fun r _ => (cell_rng h.chk r c).1
    rw [sum_four hb.2 fun r hr => zero_cell (by rw [h.len]; exact hr)] at a1
    exact Int.le_trans a1 (Int.le_of_eq (h.col c hcn)))
  have e3 : (List.range n).filter (fun c => (up (lst z)).all fun r => decide (cell t r.toNat c = 0)) = zerosZ t (up (lst z)) := by unfold zerosZ; rw [h.len]
  rw [e3, List.length_range] at e2
  rw [e1, ← Int.add_mul] at e2
  have e4 : ((n : Int) + 1) * s ≤ (((lst z).length : Int) + ((zerosZ t (up (lst z))).length : Int)) * s := Int.mul_le_mul_of_nonneg_right (by omega) (by omega)
  rw [Int.add_mul (n : Int)] at e4
  omega
theorem sum_ge {f : Nat → Int} : ∀ {l : List Nat}, (∀ c ∈ l, 0 ≤ f c) → ∀ c ∈ l, f c ≤ (l.map f).sum
  | a :: l, h, c, hc => by
    rw [List.map_cons, List.sum_cons]
    have h0 : 0 ≤ (l.map f).sum := by
      clear hc
      have : ∀ l : List Nat, (∀ c ∈ l, 0 ≤ f c) → 0 ≤ (l.map f).sum := by
        intro l
        induction l with
        | nil => intro _; simp
        | cons a l ih => intro h; rw [List.map_cons, List.sum_cons]; have := ih fun c hc => h c (by simp [hc]); have := h a (by simp); omega
      exact this l fun c hc => h c (by simp [hc])
    rcases List.mem_cons.1 hc with rfl | hc
    · omega
    · have := sum_ge (fun c hc => h c (by simp [hc])) c hc
      have := h a (by simp)
      omega
theorem EvT.cell_le {n : Nat} {s : Int} {t : Tb} (h : EvT n s t) (r c : Nat) : cell t r c ≤ s := by
  by_cases hr : r < n
  · by_cases hc : c < n
    · rw [← h.row r hr]
      exact sum_ge (f := fun c => cell t r c) (fun c _ => (cell_rng h.chk r c).1) c (by simpa using hc)
    · have : cell t r c = 0 := by
        unfold cell
        rw [List.getD_eq_getElem?_getD, List.getElem?_eq_none (by rw [row_len h.chk (by rw [h.len]; exact hr), h.len]; omega)]; rfl
      rw [this]; exact h.pos
  · rw [zero_cell (by rw [h.len]; omega)]; exact h.pos
/-- One share more. -/
theorem split_step {n : Nat} {s : Int} {t : Tb} (h : EvT n s t) {f : Nat} (hf : tsum t ≤ f) :
    (splitF f t = [] ∧ s = 0) ∨ ∃ g p r x, f = g + 1 ∧ withinS t = p :: r ∧ x = leastK t (up p) n ∧ 0 < x ∧ splitF f t = (p, x) :: splitF g (takeT t (up p) x) ∧ tsum (takeT t (up p) x) ≤ g ∧ p ∈ plansS n ∧ EvT n (s - x) (takeT t (up p) x) := by
  have hwk := wkAll_eq h.chk
  have hb := h.bd
  cases hw : withinS t with
  | nil =>
    left
    refine ⟨?_, ?_⟩
    · cases f with
      | zero => rfl
      | succ f => rw [splitF, hwk, hw]; rfl
    · have h1 := h.pos
      by_cases h2 : 0 < s
      · exact absurd hw (h.plan h2)
      · omega
  | cons p r =>
    right
    have hpm : p ∈ withinS t := by rw [hw]; simp
    have hp : p ∈ plansS n := by have := (List.mem_filter.1 hpm).1; rwa [h.len] at this
    have hpl : isPlan t.length p := by rw [h.len]; exact plansS_mem hp
    have hpos : 0 < leastK t (up p) n := by have := of_decide_eq_true (List.mem_filter.1 hpm).2; rwa [h.len] at this
    have hsum := takeT_sum (x := leastK t (up p) n) (hpl.fit h.chk)
    rw [up_length, hpl.1, h.len] at hsum
    have hmul : (1 : Int) ≤ (n : Int) * leastK t (up p) n := by
      have : (1 : Int) * 1 ≤ (n : Int) * leastK t (up p) n := Int.mul_le_mul (by omega) hpos (by omega) (by omega)
      omega
    have hev := h.take hp ⟨Int.le_of_lt hpos, Int.le_refl _⟩
    have hts := (tsum_rng hev.chk).1
    obtain ⟨g, rfl⟩ : ∃ g, f = g + 1 := ⟨f - 1, by omega⟩
    refine ⟨g, p, r, _, rfl, rfl, rfl, hpos, ?_, by omega, hp, hev⟩
    rw [splitF, hwk, hw]
    simp only [List.map_cons, h.len]
/-- The plans of the shares are through what is left. -/
theorem split_pos {n : Nat} : ∀ (f : Nat) {s : Int} {t : Tb}, EvT n s t → tsum t ≤ f → ∀ q ∈ splitF f t, q.1 ∈ plansS n ∧ ∀ r, r < n → 0 < cell t r (q.1.getD r 0) := by
  intro f
  induction f with
  | zero => intro s t h hf q hq; cases hq
  | succ f ih =>
    intro s t h hf q hq
    rcases split_step h hf with ⟨h1, _⟩ | ⟨g, p, r, x, hg, hw, hx, hx0, hs, hts, hp, hev⟩
    · rw [h1] at hq; cases hq
    · obtain rfl : g = f := by omega
      rw [hs] at hq
      rcases List.mem_cons.1 hq with rfl | hq
      · refine ⟨hp, fun r' hr' => ?_⟩
        have hm : p ∈ withinS t := by rw [hw]; simp
        exact (within_pos hm).2 r' (by rw [h.len]; exact hr')
      · obtain ⟨q1, q2⟩ := ih hev hts q hq
        refine ⟨q1, fun r' hr' => ?_⟩
        have := q2 r' hr'
        have hpl : isPlan t.length p := by rw [h.len]; exact plansS_mem hp
        rw [takeT_cell (hpl.fit h.chk) (by rw [h.len]; exact hr')] at this
        split at this <;> omega
theorem split_tri {n : Nat} : ∀ (f : Nat) {s : Int} {t : Tb}, EvT n s t → tsum t ≤ f → ∃ L, L.map (·.2) = (splitF f t).map (·.1) ∧ Tri n L := by
  intro f
  induction f with
  | zero => intro s t h hf; exact ⟨[], rfl, trivial⟩
  | succ f ih =>
    intro s t h hf
    rcases split_step h hf with ⟨h1, _⟩ | ⟨g, p, r, x, hg, hw, hx, hx0, hs, hts, hp, hev⟩
    · rw [h1]; exact ⟨[], rfl, trivial⟩
    · obtain rfl : g = f := by omega
      obtain ⟨L, l1, l2⟩ := ih hev hts
      obtain ⟨r', hr', he⟩ := leastK_in (t := t) (p := up p) n h.bd.1
      rw [up_getN] at he
      have hpm := plansS_mem hp
      refine ⟨((r', p.getD r' 0), p) :: L, by rw [hs]; simp [l1], ⟨hp, hr', hpm.2 _ (getD_mem (by rw [hpm.1]; exact hr')), rfl, ?_⟩, l2⟩
      intro y hy hye
      have hy2 : y.2 ∈ (splitF g (takeT t (up p) x)).map (·.1) := by rw [← l1]; exact List.mem_map.2 ⟨y, hy, rfl⟩
      obtain ⟨q, hq, hqe⟩ := List.mem_map.1 hy2
      have h3 := (split_pos g hev hts q hq).2 r' hr'
      rw [hqe] at h3
      have hpl : isPlan t.length p := by rw [h.len]; exact plansS_mem hp
      simp only at hye
      rw [takeT_cell (hpl.fit h.chk) (by rw [h.len]; exact hr'), hye, if_pos ⟨by rw [up_length, hpm.1]; exact hr', by rw [up_getD, Int.toNat_natCast]⟩] at h3
      omega
theorem Tri.ne {n : Nat} : ∀ {L : List ((Nat × Nat) × List Nat)}, Tri n L → (L.map (·.2)).Pairwise (· ≠ ·)
  | [], _ => by simp
  | x :: L, h => by
    rw [List.map_cons, List.pairwise_cons]
    refine ⟨fun a ha he => ?_, h.2.ne⟩
    obtain ⟨y, hy, rfl⟩ := List.mem_map.1 ha
    exact h.1.2.2.2.2 y hy (by rw [← he]; exact h.1.2.2.2.1)
/-- At most (n - 1) (n - 1) + 1 shares, all different. -/
theorem split_len {n : Nat} {f : Nat} {s : Int} {t : Tb} (h : EvT n s t) (hf : tsum t ≤ f) : (splitF f t).length ≤ dimN n ∧ ((splitF f t).map (·.1)).Pairwise (· ≠ ·) := by
  obtain ⟨L, l1, l2⟩ := split_tri f h hf
  have h1 := l2.bound h.bd.2
  have h2 : L.length = (splitF f t).length := by have := congrArg List.length l1; simpa using this
  exact ⟨by omega, by rw [← l1]; exact l2.ne⟩
end Go.Proofs.YtbofkeoebnjjkaaDoor

namespace Go.Proofs.YtbofkeoebnjjkaaDoor
open Go.Av Tab
set_option linter.unusedVariables false
set_option linter.unusedSimpArgs false
set_option maxRecDepth 4000

/-- Two lists that are being built at once. -/
theorem grow_swap {H H1 H' : Heap} {A B : AV} {n m : Nat} {ca cb : List AV} (h1 : Grow 1 H H1 A n ca) (h2 : Grow 1 H1 H' B m cb) : ∃ H2, Grow 1 H H2 B m cb ∧ Grow 1 H2 H' A n ca := by
  rcases h2 with ⟨l2, ⟨rfl, rfl, rfl⟩ | ⟨rfl, rfl⟩ | ⟨b2, hb2, rfl, rfl⟩⟩
  · exact ⟨H, ⟨l2, .inl ⟨rfl, rfl, rfl⟩⟩, h1⟩
  · exact ⟨H, ⟨l2, .inr (.inl ⟨rfl, rfl⟩)⟩, h1⟩
  · rcases h1 with ⟨l1, ⟨rfl, rfl, rfl⟩ | ⟨rfl, rfl⟩ | ⟨b1, hb1, rfl, rfl⟩⟩
    · exact ⟨_, Grow.ref hb2 l2, l1, .inl ⟨rfl, rfl, rfl⟩⟩
    · exact ⟨_, Grow.ref hb2 l2, l1, .inr (.inl ⟨rfl, rfl⟩)⟩
    · have hne : b1 ≠ b2 := Heap.ne_of Heap.put_same hb2
      have hb2' : H b2 = none := by rwa [Heap.put_ne (Ne.symm hne)] at hb2
      refine ⟨H.put b2 cb, Grow.ref hb2' l2, l1, .inr (.inr ⟨b1, by rw [Heap.put_ne hne]; exact hb1, rfl, Heap.put_comm hne⟩)⟩
/-- One bit of a byte. -/
theorem shr_u8 {x k : Nat} (hx : x < 256) (hk : k < 4) : binF Tryd.prog .shr 5 (.int .u8 (x : Int)) (.int .i64 (k : Int)) = some (.int .u8 ((x / 2 ^ k : Nat) : Int)) := by
  have e : min (k : Int).toNat 8 = k := by omega
  show (if (k : Int) < 0 then none else some (AV.int .u8 ((x : Int).fdiv (2 ^ min (k : Int).toNat 8)))) = _
  rw [if_neg (by omega), e, Int.ofNat_fdiv]
  rfl
theorem and_one {y : Nat} (hy : y < 256) : binF Tryd.prog .and 5 (.int .u8 (y : Int)) (.int .u8 1) = some (.int .u8 ((y % 2 : Nat) : Int)) := by
  have key : ∀ y : Fin 256, IntKind.u8.wrap ((BitVec.ofInt 8 (y.val : Int) &&& BitVec.ofInt 8 1).toNat) = ((y.val % 2 : Nat) : Int) := by decide +kernel
  have := key ⟨y, hy⟩
  show (if IntKind.u8 = IntKind.u8 then some (AV.int .u8 (IntKind.u8.wrap ((BitVec.ofInt 8 (y : Int) &&& BitVec.ofInt 8 1).toNat))) else none) = _
  rw [if_pos rfl]
  congr 2
theorem bit_eq {x k : Nat} : (((x / 2 ^ k % 2 : Nat) : Int) == 1) = x.testBit k := by
  rw [Nat.testBit_eq_decide_div_mod_eq]
  by_cases h : x / 2 ^ k % 2 = 1
  · rw [h]; rfl
  · rw [decide_eq_false h, beq_eq_false_iff_ne]; omega
/-- The product of the numbers of a table at the first places of a plan. -/
def prodZ (t : Tb) (p : List Int) : Nat → Int
  | 0 => 1
  | i + 1 => prodZ t p i * cell t i (p.getD i 0).toNat
theorem prodZ_bd {t : Tb} {B : Int} (hb : ∀ r c, 0 ≤ cell t r c ∧ cell t r c ≤ B) (p : List Int) : ∀ i, 0 ≤ prodZ t p i ∧ prodZ t p i ≤ B ^ i
  | 0 => by simp [prodZ]
  | i + 1 => by
    obtain ⟨h1, h2⟩ := prodZ_bd hb p i
    obtain ⟨h3, h4⟩ := hb i (p.getD i 0).toNat
    rw [prodZ, Int.pow_succ]
    exact ⟨Int.mul_nonneg h1 h3, Int.mul_le_mul h2 h4 h3 (Int.pow_nonneg (by omega))⟩
/-- weight -/
theorem c48 {v u : AV} {t : Tbl} {p : List Int} {H : Heap} {K : AV → Heap → Prop} (hv : RT H v t) (hu : Reads H u p) (hpl : p.length ≤ t.length) (h4 : p.length ≤ 4) (hb : ∀ r c, 0 ≤ cell t r c ∧ cell t r c ≤ 1000)
    (hp : ∀ r, r < p.length → 0 ≤ p.getD r 0 ∧ (p.getD r 0).toNat < (row t r).length) (hk : K (.int .i64 (prodZ t p p.length)) H) : ACalls Tryd.prog 48 [v, u] H K := by
  apply W48_ok
  unfold W48
  simp only [letO_some, cellsOf?_agg, cellsOf?_int, cellsOf?_bool, cellsOf?_imm, cellsOf?_ref, cellsOf?_nils, faddr_iptr, faddr_ptr, List.drop_succ_cons, List.drop_zero, List.take_succ_cons, List.take_zero, load1_iptr, loadN_iptr, List.length_cons, List.length_nil, Nat.le_refl, if_true, List.getElem?_cons_zero, List.getElem?_cons_succ, List.getD_cons_zero, List.getD_cons_succ, extrF_tup, binF_add, binF_sub, binF_mul, binF_eql, binF_neq, binF_lss, binF_leq, binF_gtr, binF_geq, true_and, hu.len]
  refine ⟨fun L H' => ∃ i : Nat, eqt L [.int .i64 (prodZ t p i), .int .i64 i] ∧ i ≤ p.length ∧ eqt H' H, fun L _ => (p.length - iv L 1).toNat, ⟨0, rfl, by omega, rfl⟩, ?_⟩
  rintro L H' ⟨i, rfl, hi, rfl⟩
  try simp only [letO_some, cellsOf?_agg, cellsOf?_int, cellsOf?_bool, cellsOf?_imm, cellsOf?_ref, cellsOf?_nils, faddr_iptr, faddr_ptr, List.drop_succ_cons, List.drop_zero, List.take_succ_cons, List.take_zero, load1_iptr, loadN_iptr, List.length_cons, List.length_nil, Nat.le_refl, if_true, List.getElem?_cons_zero, List.getElem?_cons_succ, List.getD_cons_zero, List.getD_cons_succ, extrF_tup, binF_add, binF_sub, binF_mul, binF_eql, binF_neq, binF_lss, binF_leq, binF_gtr, binF_geq, true_and]
  refine condA_t (fun hlt => ?_) (fun hge => ?_)
  · have a1 : i < p.length := by omega
    have hpi := hp i a1
    refine hu.get (Heap.le_refl _) (by omega) (by omega) ?_
    rw [Int.toNat_natCast]
    refine hv.get (Heap.le_refl _) (by omega) (by omega) fun a ha => ?_
    rw [Int.toNat_natCast, show t.getD i [] = row t i from rfl] at ha
    refine ha.get (Heap.le_refl _) hpi.1 (by omega) ?_
    rw [show (row t i).getD (p.getD i 0).toNat 0 = cell t i (p.getD i 0).toNat from rfl]
    have b1 := prodZ_bd hb p i
    have b2 := prodZ_bd hb p (i + 1)
    have h9 : ∀ j, j ≤ 4 → (1000 : Int) ^ j ≤ 1000000000000 := by
      intro j hj
      have : j = 0 ∨ j = 1 ∨ j = 2 ∨ j = 3 ∨ j = 4 := by omega
      rcases this with h | h | h | h | h <;> rw [h] <;> decide
    have b3 := h9 (i + 1) (by omega)
    rw [prodZ] at b2
    try simp only [letO_some, cellsOf?_agg, cellsOf?_int, cellsOf?_bool, cellsOf?_imm, cellsOf?_ref, cellsOf?_nils, faddr_iptr, faddr_ptr, List.drop_succ_cons, List.drop_zero, List.take_succ_cons, List.take_zero, load1_iptr, loadN_iptr, List.length_cons, List.length_nil, Nat.le_refl, if_true, List.getElem?_cons_zero, List.getElem?_cons_succ, List.getD_cons_zero, List.getD_cons_succ, extrF_tup, binF_add, binF_sub, binF_mul, binF_eql, binF_neq, binF_lss, binF_leq, binF_gtr, binF_geq, true_and]
    rw [wrap_i64 (n := prodZ t p i * _) (by omega) (by omega), wrap_i64 (by omega) (by omega)]
    exact ⟨⟨i + 1, rfl, by omega, rfl⟩, by simp <;> omega⟩
  · have hie : i = p.length := by omega
    subst hie
    exact endK_ret hk
theorem prodZ_zero {t : Tb} {p : List Int} : ∀ n, prodZ t p n = 0 ↔ ∃ i, i < n ∧ cell t i (p.getD i 0).toNat = 0
  | 0 => by simp [prodZ]
  | n + 1 => by
    rw [prodZ, Int.mul_eq_zero, prodZ_zero n]
    constructor
    · rintro (⟨i, h1, h2⟩ | h)
      · exact ⟨i, by omega, h2⟩
      · exact ⟨n, by omega, h⟩
    · rintro ⟨i, h1, h2⟩
      by_cases hi : i = n
      · subst hi; exact .inr h2
      · exact .inl ⟨i, by omega, h2⟩
theorem planS_snoc {n : Nat} : ∀ (l seen : List Int) (c : Int), planS n seen (l ++ [c]) = if planS n seen l ≠ 0 then planS n seen l else if c < 0 ∨ (n : Int) ≤ c then 2 else if c ∈ seen ++ l then 6 else 0
  | [], seen, c => by simp [planS]
  | a :: l, seen, c => by
    rw [List.cons_append, planS, planS]
    by_cases h1 : a < 0 ∨ (n : Int) ≤ a
    · rw [if_pos h1, if_pos h1, if_pos (by decide)]
    · rw [if_neg h1, if_neg h1]
      by_cases h2 : a ∈ seen
      · rw [if_pos h2, if_pos h2, if_pos (by decide)]
      · rw [if_neg h2, if_neg h2, planS_snoc l (seen ++ [a]) c]
        simp [List.append_assoc]
/-- Rows or columns by the bits of a byte. -/
def bitL (x n : Nat) : List Nat := (List.range n).filter x.testBit
theorem bitL_succ (x n : Nat) : bitL x (n + 1) = bitL x n ++ if x.testBit n then [n] else [] := by
  rw [bitL, List.range_succ, List.filter_append, ← bitL]
  by_cases h : x.testBit n <;> simp [h]
theorem bitL_len (x n : Nat) : (bitL x n).length ≤ n := by
  refine Nat.le_trans (List.length_filter_le _ _) (by simp)
theorem bitL_lt {x n c : Nat} (h : c ∈ bitL x n) : c < n := by
  have := (List.mem_filter.1 h).1
  simpa using this
theorem rdE_snoc {n : Nat} : ∀ {l : List Int} {last x : Int}, rdE n last l = 0 → rdE n last (l ++ [x]) = if x < 0 ∨ (n : Int) ≤ x then 2 else if (∃ y ∈ last :: l, x ≤ y) then 7 else 0
  | [], last, x, _ => by simp [rdE]
  | a :: l, last, x, h => by
    unfold rdE at h
    split at h
    · cases h
    · rename_i h1
      split at h
      · cases h
      · rename_i h2
        rw [List.cons_append, rdE, if_neg h1, if_neg h2, rdE_snoc h]
        by_cases hx : x < 0 ∨ (n : Int) ≤ x
        · rw [if_pos hx, if_pos hx]
        · rw [if_neg hx, if_neg hx]
          by_cases hy : ∃ y ∈ a :: l, x ≤ y
          · rw [if_pos hy, if_pos (by obtain ⟨y, q1, q2⟩ := hy; exact ⟨y, by simp at q1 ⊢; exact .inr q1, q2⟩)]
          · rw [if_neg hy, if_neg (by
              rintro ⟨y, q1, q2⟩
              rcases List.mem_cons.1 q1 with rfl | q1
              · exact hy ⟨a, by simp, by omega⟩
              · exact hy ⟨y, q1, q2⟩)]
theorem rdE_bitL {x n : Nat} : ∀ m, m ≤ n → rdE n (-1) (up (bitL x m)) = 0
  | 0, _ => by simp [bitL, up, rdE]
  | m + 1, h => by
    have ih := rdE_bitL (x := x) (n := n) m (by omega)
    rw [bitL_succ]
    by_cases hb : x.testBit m
    · rw [if_pos hb]
      have : up (bitL x m ++ [m]) = up (bitL x m) ++ [(m : Int)] := by simp [up]
      rw [this, rdE_snoc ih, if_neg (by omega), if_neg]
      rintro ⟨y, q1, q2⟩
      rcases List.mem_cons.1 q1 with rfl | q1
      · omega
      · obtain ⟨z, hz, rfl⟩ := List.mem_map.1 q1
        have h9 : z < m := bitL_lt hz
        have q3 : (m : Int) ≤ (z : Int) := q2
        omega
    · rw [if_neg hb, List.append_nil]; exact ih
end Go.Proofs.YtbofkeoebnjjkaaDoor
namespace Go.Proofs.YtbofkeoebnjjkaaDoor
open Go.Av Tab
/-- slices.Clone: a list of one's own, or nothing. -/
theorem c59' {v : AV} {l : List Int} {H : Heap} {K : AV → Heap → Prop} (hv : Reads H v l) (hnil : l = [] → v = .nils) (hl : l.length < 1000000) (hk : ∀ v' H', Grow 1 H H' v' l.length (ints l) → K v' H') : ACalls Tryd.prog 59 [v] H K := by
  by_cases hne : l = []
  · obtain rfl := hnil hne
    subst hne
    apply W59_ok
    unfold W59
    simp only [letO_some, nil_nil]
    exact condA_tt.2 (endK_ret (hk _ _ (Grow.nils 1 H)))
  · exact c59 hv hne hl fun b hb => hk _ _ (Grow.ref hb (by simp))
end Go.Proofs.YtbofkeoebnjjkaaDoor

namespace Go.Proofs.YtbofkeoebnjjkaaDoor
open Tab
set_option linter.unusedVariables false
set_option linter.unusedSimpArgs false
set_option maxRecDepth 20000

/- The shares of a split, added up again. -/
def shU (ss : List (List Nat × Int)) : List (List Int × Int) := ss.map fun q => (up q.1, q.2)
structure Sq (n : Nat) (t : Tb) : Prop where
  len : t.length = n
  rowl : ∀ r, r < n → (row t r).length = n
theorem Sq.zero (n : Nat) : Sq n (zeroT n) := ⟨by simp [zeroT], fun r hr => by
  show ((zeroT n).getD r []).length = n
  simp [zeroT, List.getD_eq_getElem?_getD, hr]⟩
theorem zeroT_cell (n r c : Nat) : cell (zeroT n) r c = 0 := by
  unfold cell row zeroT
  rw [List.getD_eq_getElem?_getD (l := List.replicate n (List.replicate n 0))]
  by_cases hr : r < n
  · rw [List.getElem?_replicate, if_pos hr]
    simp only [Option.getD_some]
    rw [List.getD_eq_getElem?_getD, List.getElem?_replicate]
    split <;> rfl
  · rw [List.getElem?_replicate, if_neg hr]; rfl
theorem Sq.fit {n : Nat} {t : Tb} (h : Sq n t) {p : List Nat} (hp : isPlan n p) : fitP t (up p) := by
  refine ⟨by rw [up_length, hp.1, h.len]; exact Nat.le_refl _, fun r hr => ?_⟩
  rw [up_length, hp.1] at hr
  rw [up_getD, Int.toNat_natCast, h.rowl r hr]
  exact ⟨by omega, hp.2 _ (getD_mem (by rw [hp.1]; exact hr))⟩
theorem Sq.take {n : Nat} {t : Tb} (h : Sq n t) (p : List Int) (x : Int) : Sq n (takeT t p x) :=
  ⟨by rw [takeT_length]; exact h.len, fun r hr => by rw [takeT_rowlen (by rw [h.len]; exact hr)]; exact h.rowl r hr⟩
theorem EvT.sq {n : Nat} {s : Int} {t : Tb} (h : EvT n s t) : Sq n t := ⟨h.len, fun r hr => by rw [row_len h.chk (by rw [h.len]; exact hr), h.len]⟩
theorem Sq.ext {n : Nat} {t u : Tb} (ht : Sq n t) (hu : Sq n u) (h : ∀ r c, r < n → c < n → cell t r c = cell u r c) : t = u := by
  refine List.ext_getElem (by rw [ht.len, hu.len]) fun r h1 h2 => ?_
  have hr : r < n := by rw [← ht.len]; exact h1
  have e1 : row t r = t[r] := by rw [row, List.getD_eq_getElem?_getD, List.getElem?_eq_getElem h1]; rfl
  have e2 : row u r = u[r] := by rw [row, List.getD_eq_getElem?_getD, List.getElem?_eq_getElem h2]; rfl
  rw [← e1, ← e2]
  refine List.ext_getElem (by rw [ht.rowl r hr, hu.rowl r hr]) fun c g1 g2 => ?_
  have hc : c < n := by rw [← ht.rowl r hr]; exact g1
  have := h r c hr hc
  rw [cell, cell, List.getD_eq_getElem?_getD, List.getD_eq_getElem?_getD, List.getElem?_eq_getElem g1, List.getElem?_eq_getElem g2] at this
  exact this
/-- How often a cell is had. -/
def atC (ss : List (List Nat × Int)) (r c : Nat) : Int := (ss.map fun q => if q.1.getD r 0 = c then q.2 else 0).sum
theorem take_at {n : Nat} {t : Tb} (h : Sq n t) {p : List Nat} (hp : isPlan n p) {x : Int} {r c : Nat} (hr : r < n) : cell (takeT t (up p) x) r c = cell t r c - if p.getD r 0 = c then x else 0 := by
  rw [takeT_cell (h.fit hp) (by rw [h.len]; exact hr), up_length, hp.1, up_getD, Int.toNat_natCast]
  by_cases he : p.getD r 0 = c
  · rw [if_pos ⟨hr, he.symm⟩, if_pos he]
  · rw [if_neg fun hh => he hh.2.symm, if_neg he]; omega
theorem addAll_sq {n : Nat} : ∀ (ss : List (List Int × Int)) {t : Tb}, Sq n t → Sq n (addAll t ss)
  | [], t, h => h
  | s :: r, t, h => addAll_sq r (h.take _ _)
theorem addAll_at {n : Nat} : ∀ (ss : List (List Nat × Int)) {t : Tb}, Sq n t → (∀ q ∈ ss, isPlan n q.1) → ∀ r c, r < n → cell (addAll t (shU ss)) r c = cell t r c + atC ss r c
  | [], t, h, _, r, c, hr => by simp [addAll, shU, atC]
  | q :: ss, t, h, hp, r, c, hr => by
    have h1 := hp q (by simp)
    have := addAll_at ss (h.take (up q.1) (-q.2)) (fun q hq => hp q (by simp [hq])) r c hr
    rw [take_at h h1 hr] at this
    show cell (addAll (takeT t (up q.1) (-q.2)) (shU ss)) r c = _
    rw [this, atC, atC, List.map_cons, List.sum_cons]
    split <;> omega
theorem split_at {n : Nat} : ∀ (f : Nat) {s : Int} {t : Tb}, EvT n s t → tsum t ≤ f → (∀ r c, r < n → cell t r c = atC (splitF f t) r c) ∧ ((splitF f t).map (·.2)).sum = s := by
  have base : ∀ {f : Nat} {s : Int} {t : Tb}, EvT n s t → splitF f t = [] → s = 0 → (∀ r c, r < n → cell t r c = atC (splitF f t) r c) ∧ ((splitF f t).map (·.2)).sum = s := by
    intro f s t h h1 h2
    rw [h1, h2]
    refine ⟨fun r c _ => ?_, rfl⟩
    have q1 := h.cell_le r c
    have q2 := (cell_rng h.chk r c).1
    show cell t r c = 0
    omega
  intro f
  induction f with
  | zero =>
    intro s t h hf
    rcases split_step h hf with ⟨h1, h2⟩ | ⟨g, p, r, x, hg, _⟩
    · exact base h h1 h2
    · omega
  | succ f ih =>
    intro s t h hf
    rcases split_step h hf with ⟨h1, h2⟩ | ⟨g, p, r, x, hg, hw, hx, hx0, hs, hts, hp, hev⟩
    · exact base h h1 h2
    · obtain rfl : g = f := by omega
      obtain ⟨i1, i2⟩ := ih hev hts
      rw [hs]
      refine ⟨fun r' c hr' => ?_, by rw [List.map_cons, List.sum_cons, i2]; omega⟩
      have := i1 r' c hr'
      rw [take_at h.sq (plansS_mem hp) hr'] at this
      rw [atC, List.map_cons, List.sum_cons]
      unfold atC at this
      simp only
      omega
theorem planE_plan : ∀ n : Fin 5, ∀ p ∈ plansS n.val, planE n.val (up p) = 0 := by decide +kernel
theorem split_rng {n : Nat} : ∀ (f : Nat) {s : Int} {t : Tb}, EvT n s t → tsum t ≤ f → ∀ q ∈ splitF f t, q.1 ∈ plansS n ∧ 1 ≤ q.2 ∧ q.2 ≤ 9 := by
  intro f
  induction f with
  | zero => intro s t h hf q hq; cases hq
  | succ f ih =>
    intro s t h hf q hq
    rcases split_step h hf with ⟨h1, h2⟩ | ⟨g, p, r, x, hg, hw, hx, hx0, hs, hts, hp, hev⟩
    · rw [h1] at hq; cases hq
    · obtain rfl : g = f := by omega
      rw [hs] at hq
      rcases List.mem_cons.1 hq with rfl | hq
      · refine ⟨hp, by omega, ?_⟩
        have := leastK_le (t := t) (p := up p) n 0 h.bd.1
        have h9 := (cell_rng h.chk 0 ((up p).getD 0 0).toNat).2
        omega
      · exact ih hev hts q hq
theorem shErr_zero {n : Nat} : ∀ {ss : List (List Int × Int)}, (∀ q ∈ ss, planE n q.1 = 0 ∧ 1 ≤ q.2 ∧ q.2 ≤ 36) → shErr n ss = 0
  | [], _ => rfl
  | s :: r, h => by
    obtain ⟨h1, h2, h3⟩ := h s (by simp)
    rw [shErr, if_neg (by simp [h1]), if_neg (by omega), shErr_zero fun q hq => h q (by simp [hq])]
/-- The shares of a split add up to the table. -/
theorem split_back {n : Nat} {f : Nat} {s : Int} {t : Tb} (h : EvT n s t) (hf : tsum t ≤ f) : sumE n (shU (splitF f t)) = (t, 0) := by
  have hb := h.bd
  have hlen := (split_len h hf).1
  have hd : dimN n ≤ 10 := by
    have : n = 1 ∨ n = 2 ∨ n = 3 ∨ n = 4 := by omega
    rcases this with rfl | rfl | rfl | rfl <;> decide
  have hr := split_rng f h hf
  have hadd : addAll (zeroT n) (shU (splitF f t)) = t := by
    refine (addAll_sq _ (Sq.zero n)).ext h.sq fun r c hr' hc => ?_
    rw [addAll_at _ (Sq.zero n) (fun q hq => plansS_mem (hr q hq).1) r c hr', zeroT_cell, (split_at f h hf).1 r c hr']
    omega
  have hse : shErr n (shU (splitF f t)) = 0 := by
    refine shErr_zero fun q hq => ?_
    obtain ⟨q', hq', rfl⟩ := List.mem_map.1 hq
    obtain ⟨a1, a2, a3⟩ := hr q' hq'
    exact ⟨planE_plan ⟨n, by omega⟩ _ a1, a2, by simp only; omega⟩
  unfold sumE
  rw [if_neg (by omega), if_neg (by simp [shU]; omega), Int.toNat_natCast, sumL_eq, if_neg (by simp [hse]), if_neg (by rw [hadd]; simp [h.chk]), hadd]
/-- Through a number above 0 there is a plan. -/
theorem through {n : Nat} {s : Int} {t : Tb} (h : EvT n s t) {r c : Nat} (hr : r < n) (hc : c < n) : (∃ p ∈ plansS n, p.getD r 0 = c ∧ ∀ r', r' < n → 0 < cell t r' (p.getD r' 0)) ↔ 0 < cell t r c := by
  constructor
  · rintro ⟨p, _, rfl, h2⟩
    exact h2 r hr
  · intro h0
    have hf : tsum t ≤ (tsum t).toNat := by have := (tsum_rng h.chk).1; omega
    have h1 := (split_at _ h hf).1 r c hr
    have h2 := split_pos _ h hf
    generalize splitF (tsum t).toNat t = S at *
    have : ∃ q ∈ S, q.1.getD r 0 = c := by
      refine Classical.byContradiction fun hno => ?_
      have hz : ∀ S : List (List Nat × Int), (∀ q ∈ S, ¬ q.1.getD r 0 = c) → atC S r c = 0 := by
        intro S
        induction S with
        | nil => intro _; rfl
        | cons a S ih =>
          intro h
          have h3 := ih fun q hq => h q (by simp [hq])
          unfold atC at h3 ⊢
          rw [List.map_cons, List.sum_cons, h3, if_neg (h a (by simp))]; rfl
      rw [hz S fun q hq he => hno ⟨q, hq, he⟩] at h1
      omega
    obtain ⟨q, hq, he⟩ := this
    exact ⟨q.1, (h2 q hq).1, he, (h2 q hq).2⟩
theorem evenT_ev (g : List Nat) {i : Nat} (hi : i ≤ 9) : EvT (gsz g) i (evenK g i) :=
  ⟨evenK_chk g hi, evenK_len g i, fun k hk => (evenK_sums g i k hk).1, fun k hk => (evenK_sums g i k hk).2⟩
/-- No block just if there is anything. -/
theorem bar_even {n : Nat} {s : Int} {t : Tb} (h : EvT n s t) : ((barO t).2.2 = 13) ↔ 0 < s := by
  obtain ⟨bb1, bb2⟩ := barF_best h.chk (2 ^ t.length) (Nat.le_refl _)
  constructor
  · intro he
    refine Classical.byContradiction fun hs => ?_
    have hs0 : s = 0 := by have := h.pos; omega
    have hnil : withinS t = [] := by
      cases hw : withinS t with
      | nil => rfl
      | cons p r =>
        have h1 := (within_pos (t := t) (p := p) (by rw [hw]; simp)).2 0 (by rw [h.len]; exact h.bd.1)
        have h2 := h.cell_le 0 (p.getD 0 0)
        omega
    obtain ⟨z, z1, z2, z3⟩ := no_plan h.chk hnil
    rw [barO, if_neg (by simp [h.chk])] at he
    cases hb : barF t (2 ^ t.length) with
    | none => rw [bb1 hb z z2 z1] at z3; cases z3
    | some s' => rw [hb] at he; cases he
  · intro hs
    cases hw : withinS t with
    | nil => exact absurd hw (h.plan hs)
    | cons p r =>
      rw [barO, if_neg (by simp [h.chk])]
      cases hb : barF t (2 ^ t.length) with
      | none => rfl
      | some s' =>
        have hq := bb2 s' hb
        have := plan_no h.chk (p := p) (by rw [hw]; simp) hq.2.1
        rw [this] at hq
        exact absurd hq.2.2.1 (by simp)
end Go.Proofs.YtbofkeoebnjjkaaDoor

namespace Go.Proofs.YtbofkeoebnjjkaaDoor
open Tab
set_option linter.unusedVariables false
set_option linter.unusedSimpArgs false
set_option maxRecDepth 20000

/- Tables whose numbers are moved: counts, weights, sums and splits stay. -/
structure Iso (n : Nat) (τ : Nat → Nat → Nat × Nat) (f : List Nat → List Nat) : Prop where
  into : ∀ r c, r < n → c < n → (τ r c).1 < n ∧ (τ r c).2 < n
  maps : ∀ G ∈ plansS n, f G ∈ plansS n
  perm : ((plansS n).map f).Perm (plansS n)
  hit : ∀ G ∈ plansS n, ∀ r c, r < n → c < n → ((f G).getD (τ r c).1 0 = (τ r c).2 ↔ G.getD r 0 = c)
  cells : ∀ G ∈ plansS n, ((List.range n).map fun r => (r, (f G).getD r 0)).Perm ((List.range n).map fun r => τ r (G.getD r 0))
structure Mov (n : Nat) (τ : Nat → Nat → Nat × Nat) (x y : Tb) : Prop where
  sx : Sq n x
  sy : Sq n y
  eq : ∀ r c, r < n → c < n → cell y (τ r c).1 (τ r c).2 = cell x r c
def prodI (l : List Int) : Int := l.foldr (· * ·) 1
theorem prodI_perm {l m : List Int} (h : l.Perm m) : prodI l = prodI m := by
  induction h with
  | nil => rfl
  | cons a _ ih => simp only [prodI, List.foldr_cons] at ih ⊢; rw [ih]
  | swap a b l => simp only [prodI, List.foldr_cons]; rw [Int.mul_left_comm]
  | trans _ _ h1 h2 => rw [h1, h2]
theorem prodI_snoc : ∀ (l : List Int) (a : Int), prodI (l ++ [a]) = prodI l * a
  | [], a => by simp [prodI]
  | b :: l, a => by
    have := prodI_snoc l a
    simp only [prodI, List.foldr_cons, List.cons_append] at this ⊢
    rw [this, Int.mul_assoc]
theorem prodK_I (t : Tb) (p : List Nat) : ∀ i, prodK t p i = prodI ((List.range i).map fun r => cell t r (p.getD r 0))
  | 0 => rfl
  | i + 1 => by rw [prodK, prodK_I t p i, List.range_succ, List.map_append, List.map_singleton, prodI_snoc]
theorem Mov.list {n : Nat} {τ : Nat → Nat → Nat × Nat} {f : List Nat → List Nat} {x y : Tb} (hi : Iso n τ f) (h : Mov n τ x y) {G : List Nat} (hG : G ∈ plansS n) :
    ((List.range n).map fun r => cell y r ((f G).getD r 0)).Perm ((List.range n).map fun r => cell x r (G.getD r 0)) := by
  have h1 := (hi.cells G hG).map fun q => cell y q.1 q.2
  rw [List.map_map, List.map_map] at h1
  have e : (List.range n).map ((fun q : Nat × Nat => cell y q.1 q.2) ∘ fun r => τ r (G.getD r 0)) = (List.range n).map fun r => cell x r (G.getD r 0) := by
    refine List.map_congr_left fun r hr => ?_
    have hr' : r < n := by simpa using hr
    exact h.eq r _ hr' ((plansS_mem hG).2 _ (getD_mem (by rw [(plansS_mem hG).1]; exact hr')))
  rw [e] at h1
  exact h1
theorem Mov.prod {n : Nat} {τ : Nat → Nat → Nat × Nat} {f : List Nat → List Nat} {x y : Tb} (hi : Iso n τ f) (h : Mov n τ x y) {G : List Nat} (hG : G ∈ plansS n) : prodK y (f G) n = prodK x G n := by
  rw [prodK_I, prodK_I]; exact prodI_perm (h.list hi hG)
theorem least_pos {n : Nat} (hn : 1 ≤ n) (t : Tb) (p : List Nat) : 0 < leastK t (up p) n ↔ ∀ a ∈ (List.range n).map fun r => cell t r (p.getD r 0), 0 < a := by
  constructor
  · intro h a ha
    obtain ⟨r, hr, rfl⟩ := List.mem_map.1 ha
    have := leastK_le (t := t) (p := up p) n r (by simpa using hr)
    rw [up_getN] at this
    omega
  · intro h
    obtain ⟨r, hr, he⟩ := leastK_in (t := t) (p := up p) n hn
    rw [up_getN] at he
    rw [he]
    exact h _ (List.mem_map.2 ⟨r, by simpa using hr, rfl⟩)
theorem Mov.pos {n : Nat} (hn : 1 ≤ n) {τ : Nat → Nat → Nat × Nat} {f : List Nat → List Nat} {x y : Tb} (hi : Iso n τ f) (h : Mov n τ x y) {G : List Nat} (hG : G ∈ plansS n) : 0 < leastK y (up (f G)) n ↔ 0 < leastK x (up G) n := by
  rw [least_pos hn, least_pos hn]
  have := h.list hi hG
  exact ⟨fun h1 a ha => h1 a (this.mem_iff.2 ha), fun h1 a ha => h1 a (this.mem_iff.1 ha)⟩
theorem Mov.take {n : Nat} {τ : Nat → Nat → Nat × Nat} {f : List Nat → List Nat} {x y : Tb} (hi : Iso n τ f) (h : Mov n τ x y) {G : List Nat} (hG : G ∈ plansS n) (k : Int) : Mov n τ (takeT x (up G) k) (takeT y (up (f G)) k) := by
  refine ⟨h.sx.take _ _, h.sy.take _ _, fun r c hr hc => ?_⟩
  obtain ⟨i1, i2⟩ := hi.into r c hr hc
  rw [take_at h.sy (plansS_mem (hi.maps G hG)) i1, take_at h.sx (plansS_mem hG) hr, h.eq r c hr hc]
  by_cases he : G.getD r 0 = c
  · rw [if_pos he, if_pos ((hi.hit G hG r c hr hc).2 he)]
  · rw [if_neg he, if_neg fun h1 => he ((hi.hit G hG r c hr hc).1 h1)]
theorem filter_len {α : Type} {l m : List α} (h : l.Perm m) (q : α → Bool) : (l.filter q).length = (m.filter q).length := (h.filter q).length_eq
theorem filter_map_len {α β : Type} (f : α → β) (q : β → Bool) (q' : α → Bool) : ∀ l : List α, (∀ a ∈ l, q (f a) = q' a) → ((l.map f).filter q).length = (l.filter q').length
  | [], _ => rfl
  | a :: l, h => by
    have ih := filter_map_len f q q' l fun x hx => h x (by simp [hx])
    rw [List.map_cons, List.filter_cons, List.filter_cons, h a (by simp)]
    split
    · simp [ih]
    · exact ih
theorem Mov.count {n : Nat} {τ : Nat → Nat → Nat × Nat} {f : List Nat → List Nat} {x y : Tb} (hi : Iso n τ f) (h : Mov n τ x y) (hx : chkT x = 0) (hy : chkT y = 0) : countE x = countE y := by
  have e : (countE x).1 = (countE y).1 := by
    rw [countE_eq hx, countE_eq hy]
    have hn := (chkT_ok hx).1
    rw [h.sx.len] at hn
    unfold withinS
    have h1 := filter_len hi.perm fun p => decide (0 < leastK y (up p) n)
    rw [filter_map_len f _ (fun p => decide (0 < leastK x (up p) n)) (plansS n) fun G hG => decide_eq_decide.2 (h.pos hn hi hG)] at h1
    rw [h.sx.len, h.sy.len, h1]
  unfold countE at e ⊢
  rw [if_neg (by simp [hx]), if_neg (by simp [hy])] at e ⊢
  simp only at e
  rw [e]
theorem sum_perm {l m : List Int} (h : l.Perm m) : l.sum = m.sum := by
  induction h with
  | nil => rfl
  | cons a _ ih => rw [List.sum_cons, List.sum_cons, ih]
  | swap a b l => simp only [List.sum_cons]; omega
  | trans _ _ h1 h2 => rw [h1, h2]
theorem Mov.weight {n : Nat} {τ : Nat → Nat → Nat × Nat} {f : List Nat → List Nat} {x y : Tb} (hi : Iso n τ f) (h : Mov n τ x y) (hx : chkT x = 0) (hy : chkT y = 0) : weightE x = weightE y := by
  have e : (weightE x).1 = (weightE y).1 := by
    rw [weightE_eq hx, weightE_eq hy]
    unfold sumP
    rw [h.sx.len, h.sy.len, ← sum_perm (hi.perm.map fun p => prodK y p n), List.map_map]
    congr 1
    exact List.map_congr_left fun G hG => (h.prod hi hG).symm
  unfold weightE at e ⊢
  rw [if_neg (by simp [hx]), if_neg (by simp [hy])] at e ⊢
  simp only at e
  rw [e]
/- Splits do not depend on the order of the plans. -/
theorem takeT_swap {n : Nat} {t : Tb} (h : Sq n t) {a b : List Nat} (ha : a ∈ plansS n) (hb : b ∈ plansS n) : takeT (takeT t (up a) 1) (up b) 1 = takeT (takeT t (up b) 1) (up a) 1 := by
  refine ((h.take _ _).take _ _).ext ((h.take _ _).take _ _) fun r c hr hc => ?_
  rw [take_at (h.take _ _) (plansS_mem hb) hr, take_at (h.take _ _) (plansS_mem ha) hr, take_at h (plansS_mem ha) hr, take_at h (plansS_mem hb) hr]
  omega
theorem fit_swap {n : Nat} (hn : 1 ≤ n) {t : Tb} (h : Sq n t) {a b : List Nat} (ha : a ∈ plansS n) (hb : b ∈ plansS n) (h1 : 0 < leastK t (up a) n) (h2 : 0 < leastK (takeT t (up a) 1) (up b) n) : 0 < leastK t (up b) n ∧ 0 < leastK (takeT t (up b) 1) (up a) n := by
  rw [least_pos hn] at h1 h2 ⊢
  rw [least_pos hn]
  constructor
  · intro x hx
    obtain ⟨r, hr, rfl⟩ := List.mem_map.1 hx
    have h3 := h2 _ (List.mem_map.2 ⟨r, hr, rfl⟩)
    rw [take_at h (plansS_mem ha) (by simpa using hr)] at h3
    split at h3 <;> omega
  · intro x hx
    obtain ⟨r, hr, rfl⟩ := List.mem_map.1 hx
    have h3 := h2 _ (List.mem_map.2 ⟨r, hr, rfl⟩)
    have h4 := h1 _ (List.mem_map.2 ⟨r, hr, rfl⟩)
    rw [take_at h (plansS_mem ha) (by simpa using hr)] at h3
    rw [take_at h (plansS_mem hb) (by simpa using hr)]
    by_cases he : b.getD r 0 = a.getD r 0
    · rw [if_pos he.symm, he] at h3
      rw [if_pos he]; exact h3
    · rw [if_neg he]; omega
theorem rS_swap {n : Nat} (hn : 1 ≤ n) {a b : List Nat} (ha : a ∈ plansS n) (hb : b ∈ plansS n) (l : List (List Nat)) : ∀ (s : Nat) (t : Tb), Sq n t → rS s t (a :: b :: l) = rS s t (b :: a :: l)
  | 0, t, _ => by rw [rS, rS]
  | s + 1, t, h => by
    have i1 := rS_swap hn ha hb l s (takeT t (up a) 1) (h.take _ _)
    have i2 := rS_swap hn ha hb l s (takeT t (up b) 1) (h.take _ _)
    have e1 : rS (s + 1) t (a :: b :: l) = (if 0 < leastK t (up a) n then rS s (takeT t (up a) 1) (a :: b :: l) else 0) + ((if 0 < leastK t (up b) n then rS s (takeT t (up b) 1) (b :: l) else 0) + rS (s + 1) t l) := by rw [rS, rS, h.len]
    have e2 : rS (s + 1) t (b :: a :: l) = (if 0 < leastK t (up b) n then rS s (takeT t (up b) 1) (b :: a :: l) else 0) + ((if 0 < leastK t (up a) n then rS s (takeT t (up a) 1) (a :: l) else 0) + rS (s + 1) t l) := by rw [rS, rS, h.len]
    rw [e1, e2, i1]
    rw [← i2]
    cases s with
    | zero => simp only [rS]; omega
    | succ s =>
      have e3 : rS (s + 1) (takeT t (up a) 1) (b :: a :: l) = (if 0 < leastK (takeT t (up a) 1) (up b) n then rS s (takeT (takeT t (up a) 1) (up b) 1) (b :: a :: l) else 0) + rS (s + 1) (takeT t (up a) 1) (a :: l) := by rw [rS, (h.take (up a) 1).len]
      have e4 : rS (s + 1) (takeT t (up b) 1) (a :: b :: l) = (if 0 < leastK (takeT t (up b) 1) (up a) n then rS s (takeT (takeT t (up b) 1) (up a) 1) (a :: b :: l) else 0) + rS (s + 1) (takeT t (up b) 1) (b :: l) := by rw [rS, (h.take (up b) 1).len]
      rw [e3, e4, takeT_swap h ha hb, rS_swap hn ha hb l s _ ((h.take _ _).take _ _)]
      generalize rS s (takeT (takeT t (up b) 1) (up a) 1) (b :: a :: l) = X
      by_cases q1 : 0 < leastK t (up a) n ∧ 0 < leastK (takeT t (up a) 1) (up b) n
      · have q2 := fit_swap hn h ha hb q1.1 q1.2
        rw [if_pos q1.1, if_pos q1.2, if_pos q2.1, if_pos q2.2, if_pos q2.1, if_pos q1.1]; omega
      · have q2 : ¬ (0 < leastK t (up b) n ∧ 0 < leastK (takeT t (up b) 1) (up a) n) := fun q => q1 (fit_swap hn h hb ha q.1 q.2)
        by_cases w1 : 0 < leastK t (up a) n <;> by_cases w2 : 0 < leastK t (up b) n
        · rw [if_pos w1, if_pos w2, if_pos w2, if_pos w1, if_neg fun h => q1 ⟨w1, h⟩, if_neg fun h => q2 ⟨w2, h⟩]; omega
        · rw [if_pos w1, if_neg w2, if_neg w2, if_pos w1, if_neg fun h => q1 ⟨w1, h⟩]; omega
        · rw [if_neg w1, if_pos w2, if_pos w2, if_neg w1, if_neg fun h => q2 ⟨w2, h⟩]; omega
        · rw [if_neg w1, if_neg w2, if_neg w2, if_neg w1]
theorem rS_perm {n : Nat} (hn : 1 ≤ n) {l m : List (List Nat)} (h : l.Perm m) : (∀ p ∈ l, p ∈ plansS n) → ∀ (s : Nat) (t : Tb), Sq n t → rS s t l = rS s t m := by
  induction h with
  | nil => intro _ s t _; rfl
  | cons a h ih =>
    intro hp s
    have ih' := ih fun p hp' => hp p (by simp [hp'])
    induction s with
    | zero => intro t _; rw [rS, rS]
    | succ s ihs => intro t ht; rw [rS, rS, ihs _ (ht.take _ _), ih' (s + 1) t ht]
  | swap a b l => intro hp s t ht; exact rS_swap hn (hp b (by simp)) (hp a (by simp)) l s t ht
  | trans h1 h2 i1 i2 => intro hp s t ht; rw [i1 hp s t ht, i2 (fun p hp' => hp p (h1.mem_iff.2 hp')) s t ht]
theorem Mov.rS {n : Nat} (hn : 1 ≤ n) {τ : Nat → Nat → Nat × Nat} {f : List Nat → List Nat} (hi : Iso n τ f) : ∀ (s : Nat) (l : List (List Nat)) (x y : Tb), Mov n τ x y → (∀ p ∈ l, p ∈ plansS n) → rS s y (l.map f) = Proofs.YtbofkeoebnjjkaaDoor.rS s x l
  | 0, l, x, y, _, _ => by rw [Proofs.YtbofkeoebnjjkaaDoor.rS, Proofs.YtbofkeoebnjjkaaDoor.rS]
  | s + 1, [], x, y, _, _ => by rw [List.map_nil, Proofs.YtbofkeoebnjjkaaDoor.rS, Proofs.YtbofkeoebnjjkaaDoor.rS]
  | s + 1, G :: l, x, y, h, hl => by
    have hG := hl G (by simp)
    have i1 := Mov.rS hn hi s (G :: l) _ _ (h.take hi hG 1) hl
    have i2 := Mov.rS hn hi (s + 1) l x y h fun p hp => hl p (by simp [hp])
    rw [List.map_cons] at i1
    rw [List.map_cons, Proofs.YtbofkeoebnjjkaaDoor.rS, Proofs.YtbofkeoebnjjkaaDoor.rS, i1, i2, h.sx.len, h.sy.len]
    by_cases hp : 0 < leastK x (up G) n
    · rw [if_pos hp, if_pos ((h.pos hn hi hG).2 hp)]
    · rw [if_neg hp, if_neg fun h1 => hp ((h.pos hn hi hG).1 h1)]
termination_by s l => (s, l.length)
theorem even_iff {x y : Tb} {n : Nat} (hx : chkT x = 0) (hy : chkT y = 0) (hlx : x.length = n) (hly : y.length = n) (h : ∀ s : Int, (∀ k, k < n → rowS x k n = s ∧ colS x k n = s) ↔ (∀ k, k < n → rowS y k n = s ∧ colS y k n = s)) : evenE x = evenE y := by
  have hn := (chkT_ok hx).1
  rw [hlx] at hn
  rw [evenE_iff hx, evenE_iff hy, hlx, hly]
  by_cases q : ∀ k, k < n → rowS x k n = rowS x 0 n ∧ colS x k n = rowS x 0 n
  · have q2 := (h _).1 q
    have q3 := (q2 0 (by omega)).1
    rw [if_pos q, if_pos fun k hk => by rw [q3]; exact q2 k hk, q3]
  · have q2 : ¬ ∀ k, k < n → rowS y k n = rowS y 0 n ∧ colS y k n = rowS y 0 n := fun q' => by
      have q3 := (h _).2 q'
      have q4 := (q3 0 (by omega)).1
      exact q fun k hk => by rw [q4]; exact q3 k hk
    rw [if_neg q, if_neg q2]
/-- What stays. -/
structure Inv (n : Nat) (x y : Tb) : Prop where
  cx : chkT x = 0
  cy : chkT y = 0
  lx : x.length = n
  ly : y.length = n
  count : countE x = countE y
  weight : weightE x = weightE y
  even : evenE x = evenE y
  splits : splitsE x = splitsE y
theorem Inv.trans {n : Nat} {x y z : Tb} (h : Inv n x y) (g : Inv n y z) : Inv n x z :=
  ⟨h.cx, g.cy, h.lx, g.ly, h.count.trans g.count, h.weight.trans g.weight, h.even.trans g.even, h.splits.trans g.splits⟩
theorem Mov.inv {n : Nat} {τ : Nat → Nat → Nat × Nat} {f : List Nat → List Nat} {x y : Tb} (hi : Iso n τ f) (h : Mov n τ x y) (hx : chkT x = 0) (hy : chkT y = 0) (he : evenE x = evenE y) : Inv n x y := by
  have hn := (chkT_ok hx).1
  rw [h.sx.len] at hn
  refine ⟨hx, hy, h.sx.len, h.sy.len, h.count hi hx hy, h.weight hi hx hy, he, ?_⟩
  rw [splits_eq, splits_eq, splitsR, splitsR, he, h.sx.len, h.sy.len]
  have e := fun s => Mov.rS hn hi s (plansS n) x y h fun p hp => hp
  have e2 := fun s => rS_perm hn hi.perm (fun p hp => by obtain ⟨G, hG, rfl⟩ := List.mem_map.1 hp; exact hi.maps G hG) s y h.sy
  rw [← e2, e]
end Go.Proofs.YtbofkeoebnjjkaaDoor

namespace Go.Proofs.YtbofkeoebnjjkaaDoor
open Tab
set_option linter.unusedVariables false
set_option linter.unusedSimpArgs false

/- Greater numbers: no fewer plans, no smaller weight. -/
theorem leastK_mono {t u : Tb} {p : List Int} (h : ∀ r c, cell t r c ≤ cell u r c) : ∀ i, leastK t p i ≤ leastK u p i
  | 0 => h _ _
  | i + 1 => by
    have := leastK_mono (p := p) h i
    have := h i (p.getD i 0).toNat
    rw [leastK, leastK]
    split <;> split <;> omega
theorem prodK_mono {t u : Tb} (ht : chkT t = 0) (hu : chkT u = 0) {p : List Nat} (h : ∀ r c, cell t r c ≤ cell u r c) : ∀ i, prodK t p i ≤ prodK u p i
  | 0 => Int.le_refl _
  | i + 1 => by
    rw [prodK, prodK]
    exact Int.mul_le_mul (prodK_mono ht hu h i) (h _ _) (cell_rng ht _ _).1 (prodK_bd hu p i).1
theorem filter_mono {α : Type} {p q : α → Bool} (h : ∀ x, p x = true → q x = true) : ∀ l : List α, (l.filter p).length ≤ (l.filter q).length
  | [] => Nat.le_refl _
  | a :: l => by
    have := filter_mono h l
    rw [List.filter_cons, List.filter_cons]
    by_cases hp : p a = true
    · rw [if_pos hp, if_pos (h a hp)]; simp; exact this
    · rw [if_neg hp]
      split
      · simp; omega
      · exact this
theorem more_mono {t u : Tb} (ht : chkT t = 0) (hu : chkT u = 0) (hl : t.length = u.length) (h : ∀ r c, cell t r c ≤ cell u r c) : (countE t).1 ≤ (countE u).1 ∧ (weightE t).1 ≤ (weightE u).1 := by
  rw [countE_eq ht, countE_eq hu, weightE_eq ht, weightE_eq hu]
  constructor
  · have := filter_mono (p := fun p => decide (0 < leastK t (up p) u.length)) (q := fun p => decide (0 < leastK u (up p) u.length)) (fun p hp => by
      have := leastK_mono (p := up p) h u.length
      simp at hp ⊢; omega) (plansS u.length)
    unfold withinS
    rw [hl]
    omega
  · rw [hl]
    generalize plansS u.length = l
    induction l with
    | nil => exact Int.le_refl _
    | cons p l ih =>
      simp only [sumP, List.map_cons, List.sum_cons, hl] at ih ⊢
      have := prodK_mono ht hu (p := p) h u.length
      omega
theorem setc_cell {t : Tb} {r c : Nat} {y : Int} (hr : r < t.length) (hc : c < (row t r).length) (r' c' : Nat) : cell (t.set r ((row t r).set c y)) r' c' = if r' = r ∧ c' = c then y else cell t r' c' := by
  unfold cell row
  rw [getT_set hr]
  by_cases h : r' = r
  · subst h
    rw [if_pos rfl, List.getD_eq_getElem?_getD, List.getElem?_set]
    by_cases h2 : c = c'
    · subst h2
      have : c < (List.getD t r' []).length := hc
      rw [if_pos rfl, if_pos this, if_pos ⟨rfl, rfl⟩]; rfl
    · rw [if_neg h2, if_neg (fun h => h2 h.2.symm)]
      rw [List.getD_eq_getElem?_getD (l := List.getD t r' [])]
  · rw [if_neg h, if_neg (fun h' => h h'.1)]
theorem setc_chk {t : Tb} {r c : Nat} {y : Int} (ht : chkT t = 0) (hr : r < t.length) (hc : c < t.length) (hy : 0 ≤ y ∧ y ≤ 9) : chkT (t.set r ((row t r).set c y)) = 0 := by
  obtain ⟨n1, n2, hrows⟩ := chkT_ok ht
  refine chkT_mk2 (by simpa using n1) (by simpa using n2) fun l hl => ?_
  rw [List.length_set]
  rcases List.mem_or_eq_of_mem_set hl with h | rfl
  · exact hrows l h
  · have hrow := hrows _ (row_mem hr)
    refine ⟨by rw [List.length_set]; exact hrow.1, fun x hx => ?_⟩
    rcases List.mem_or_eq_of_mem_set hx with h | rfl
    · exact hrow.2 x h
    · exact hy
end Go.Proofs.YtbofkeoebnjjkaaDoor

namespace Go.Proofs.YtbofkeoebnjjkaaDoor
open Tab
set_option linter.unusedVariables false
set_option linter.unusedSimpArgs false
set_option maxRecDepth 20000

/- Rows in another order, turned tables. -/
def rowF (n : Nat) (p G : List Nat) : List Nat := (List.range n).map fun r => G.getD (p.idxOf r) 0
def turF (n : Nat) (G : List Nat) : List Nat := (List.range n).map fun c => G.idxOf c
theorem idx_facts : ∀ n : Fin 5, ∀ p ∈ plansS n.val, ((List.range n.val).map fun r => p.idxOf r).Perm (List.range n.val) ∧ ∀ r : Fin 4, r.val < n.val → p.idxOf r.val < n.val ∧ ∀ i : Fin 4, i.val < n.val → (p.idxOf r.val = i.val ↔ p.getD i.val 0 = r.val) := by decide +kernel
theorem row_facts1 : ∀ n : Fin 5, ∀ p ∈ plansS n.val, ((plansS n.val).map (rowF n.val p)).Perm (plansS n.val) := by decide +kernel
theorem row_facts2 : ∀ n : Fin 5, ∀ p ∈ plansS n.val, ∀ G ∈ plansS n.val, ∀ r : Fin 4, ∀ c : Fin 4, r.val < n.val → c.val < n.val → ((rowF n.val p G).getD (p.getD r.val 0) 0 = c.val ↔ G.getD r.val 0 = c.val) := by decide +kernel
theorem row_facts3 : ∀ n : Fin 5, ∀ p ∈ plansS n.val, ∀ G ∈ plansS n.val, ((List.range n.val).map fun r => (r, (rowF n.val p G).getD r 0)).Perm ((List.range n.val).map fun r => (p.getD r 0, G.getD r 0)) := by decide +kernel
theorem tur_facts1 : ∀ n : Fin 5, ((plansS n.val).map (turF n.val)).Perm (plansS n.val) := by decide +kernel
theorem tur_facts2 : ∀ n : Fin 5, ∀ G ∈ plansS n.val, (∀ r : Fin 4, ∀ c : Fin 4, r.val < n.val → c.val < n.val → ((turF n.val G).getD c.val 0 = r.val ↔ G.getD r.val 0 = c.val)) ∧ ((List.range n.val).map fun r => (r, (turF n.val G).getD r 0)).Perm ((List.range n.val).map fun r => (G.getD r 0, r)) := by decide +kernel
theorem isoR {n : Nat} (hn : n ≤ 4) {p : List Nat} (hp : p ∈ plansS n) : Iso n (fun r c => (p.getD r 0, c)) (rowF n p) := by
  have hm := plansS_mem hp
  refine ⟨fun r c hr hc => ⟨hm.2 _ (getD_mem (by rw [hm.1]; exact hr)), hc⟩, fun G hG => (row_facts1 ⟨n, by omega⟩ p hp).mem_iff.1 (List.mem_map.2 ⟨G, hG, rfl⟩), row_facts1 ⟨n, by omega⟩ p hp, fun G hG r c hr hc => row_facts2 ⟨n, by omega⟩ p hp G hG ⟨r, by omega⟩ ⟨c, by omega⟩ hr hc, fun G hG => row_facts3 ⟨n, by omega⟩ p hp G hG⟩
theorem isoT {n : Nat} (hn : n ≤ 4) : Iso n (fun r c => (c, r)) (turF n) := by
  refine ⟨fun r c hr hc => ⟨hc, hr⟩, fun G hG => (tur_facts1 ⟨n, by omega⟩).mem_iff.1 (List.mem_map.2 ⟨G, hG, rfl⟩), tur_facts1 ⟨n, by omega⟩, fun G hG r c hr hc => (tur_facts2 ⟨n, by omega⟩ G hG).1 ⟨r, by omega⟩ ⟨c, by omega⟩ hr hc, fun G hG => (tur_facts2 ⟨n, by omega⟩ G hG).2⟩
/-- A table by its numbers. -/
def tab (n : Nat) (f : Nat → Nat → Int) : Tb := (List.range n).map fun r => (List.range n).map fun c => f r c
theorem tab_sq (n : Nat) (f : Nat → Nat → Int) : Sq n (tab n f) := ⟨by simp [tab], fun r hr => by
  show ((tab n f).getD r []).length = n
  simp [tab, List.getD_eq_getElem?_getD, hr]⟩
theorem tab_cell {n : Nat} {f : Nat → Nat → Int} {r c : Nat} (hr : r < n) (hc : c < n) : cell (tab n f) r c = f r c := by
  show ((tab n f).getD r []).getD c 0 = _
  simp [tab, List.getD_eq_getElem?_getD, hr, hc]
theorem tab_zero {n : Nat} {f : Nat → Nat → Int} {r c : Nat} (h : ¬ (r < n ∧ c < n)) : cell (tab n f) r c = 0 := by
  show ((tab n f).getD r []).getD c 0 = _
  by_cases hr : r < n
  · have hc : ¬ c < n := fun hc => h ⟨hr, hc⟩
    simp [tab, List.getD_eq_getElem?_getD, hr, hc]
  · simp [tab, List.getD_eq_getElem?_getD, hr]
theorem tab_chk {n : Nat} (hn : 1 ≤ n ∧ n ≤ 4) {f : Nat → Nat → Int} (h : ∀ r c, r < n → c < n → 0 ≤ f r c ∧ f r c ≤ 9) : chkT (tab n f) = 0 := by
  have hs := tab_sq n f
  refine chkT_mk (by rw [hs.len]; exact hn.1) (by rw [hs.len]; exact hn.2) (fun r hr => by rw [hs.len] at hr ⊢; exact hs.rowl r hr) fun r c _ => ?_
  by_cases hh : r < n ∧ c < n
  · rw [tab_cell hh.1 hh.2]; exact h r c hh.1 hh.2
  · rw [tab_zero hh]; omega
theorem sq_of {n : Nat} {t : Tb} (hc : chkT t = 0) (hl : t.length = n) : Sq n t := ⟨hl, fun r hr => by rw [row_len hc (by rw [hl]; exact hr), hl]⟩
theorem inv_row {n : Nat} {x : Tb} (hx : chkT x = 0) (hl : x.length = n) {p : List Nat} (hp : p ∈ plansS n) : Inv n x (tab n fun r c => cell x (p.idxOf r) c) := by
  have hn : 1 ≤ n ∧ n ≤ 4 := by obtain ⟨h1, h2, _⟩ := chkT_ok hx; omega
  have hy : chkT (tab n fun r c => cell x (p.idxOf r) c) = 0 := tab_chk hn fun r c _ _ => cell_rng hx _ c
  obtain ⟨f1, f2⟩ := idx_facts ⟨n, by omega⟩ p hp
  simp only at f1 f2
  have hm := plansS_mem hp
  have hidx : ∀ r, r < n → p.idxOf (p.getD r 0) = r := fun r hr => by
    have hpr : p.getD r 0 < n := hm.2 _ (getD_mem (by rw [hm.1]; exact hr))
    exact ((f2 ⟨p.getD r 0, by omega⟩ hpr).2 ⟨r, by omega⟩ hr).2 rfl
  refine Mov.inv (isoR hn.2 hp) ⟨sq_of hx hl, tab_sq n _, fun r c hr hc => ?_⟩ hx hy ?_
  · rw [tab_cell (hm.2 _ (getD_mem (by rw [hm.1]; exact hr))) hc, hidx r hr]
  · have hrow : ∀ k, k < n → rowS (tab n fun r c => cell x (p.idxOf r) c) k n = rowS x (p.idxOf k) n := fun k hk => by
      unfold rowS
      congr 1
      exact List.map_congr_left fun c hc => tab_cell hk (by simpa using hc)
    have hcol : ∀ k, k < n → colS (tab n fun r c => cell x (p.idxOf r) c) k n = colS x k n := fun k hk => by
      unfold colS
      rw [show ((List.range n).map fun r => cell (tab n fun r c => cell x (p.idxOf r) c) r k) = ((List.range n).map fun r => p.idxOf r).map fun r => cell x r k from by
        rw [List.map_map]
        exact List.map_congr_left fun r hr => tab_cell (by simpa using hr) hk]
      exact sum_perm (f1.map _)
    refine even_iff hx hy hl (tab_sq n _).len fun s => ?_
    constructor
    · intro h k hk
      rw [hrow k hk, hcol k hk]
      exact ⟨(h _ (f2 ⟨k, by omega⟩ hk).1).1, (h k hk).2⟩
    · intro h k hk
      have hpk : p.getD k 0 < n := hm.2 _ (getD_mem (by rw [hm.1]; exact hk))
      have h1 := (h _ hpk).1
      rw [hrow _ hpk, hidx k hk] at h1
      have h2 := (h k hk).2
      rw [hcol k hk] at h2
      exact ⟨h1, h2⟩
theorem turnE_tab {x : Tb} {n : Nat} (hl : x.length = n) : turnE x = tab n fun r c => cell x c r := by unfold turnE tab; rw [hl]
theorem inv_turn {n : Nat} {x : Tb} (hx : chkT x = 0) (hl : x.length = n) : Inv n x (turnE x) := by
  have hn : 1 ≤ n ∧ n ≤ 4 := by obtain ⟨h1, h2, _⟩ := chkT_ok hx; omega
  rw [turnE_tab hl]
  have hy : chkT (tab n fun r c => cell x c r) = 0 := tab_chk hn fun r c _ _ => cell_rng hx _ _
  refine Mov.inv (isoT hn.2) ⟨sq_of hx hl, tab_sq n _, fun r c hr hc => tab_cell hc hr⟩ hx hy ?_
  have hrow : ∀ k, k < n → rowS (tab n fun r c => cell x c r) k n = colS x k n := fun k hk => by
    unfold rowS colS
    congr 1
    exact List.map_congr_left fun c hc => tab_cell hk (by simpa using hc)
  have hcol : ∀ k, k < n → colS (tab n fun r c => cell x c r) k n = rowS x k n := fun k hk => by
    unfold rowS colS
    congr 1
    exact List.map_congr_left fun r hr => tab_cell (by simpa using hr) hk
  refine even_iff hx hy hl (tab_sq n _).len fun s => ?_
  constructor
  · intro h k hk
    rw [hrow k hk, hcol k hk]
    exact ⟨(h k hk).2, (h k hk).1⟩
  · intro h k hk
    have := h k hk
    rw [hrow k hk, hcol k hk] at this
    exact ⟨this.2, this.1⟩
theorem turn_turn {n : Nat} {x : Tb} (hx : chkT x = 0) (hl : x.length = n) : turnE (turnE x) = x := by
  have hs := sq_of hx hl
  rw [turnE_tab hl, turnE_tab (tab_sq n _).len]
  exact (tab_sq n _).ext hs fun r c hr hc => by rw [tab_cell hr hc, tab_cell hc hr]
/-- Rows and columns in other orders. -/
def mvT (n : Nat) (p q : List Nat) (x : Tb) : Tb := tab n fun r c => cell x (p.idxOf r) (q.idxOf c)
theorem inv_mv {n : Nat} {x : Tb} (hx : chkT x = 0) (hl : x.length = n) {p q : List Nat} (hp : p ∈ plansS n) (hq : q ∈ plansS n) : Inv n x (mvT n p q x) := by
  have hn : 1 ≤ n ∧ n ≤ 4 := by obtain ⟨h1, h2, _⟩ := chkT_ok hx; omega
  have h1 := inv_row hx hl hp
  have h2 := inv_turn h1.cy h1.ly
  have h3 := inv_row h2.cy h2.ly hq
  have h4 := inv_turn h3.cy h3.ly
  have e : turnE (tab n fun r c => cell (turnE (tab n fun r c => cell x (p.idxOf r) c)) (q.idxOf r) c) = mvT n p q x := by
    rw [turnE_tab (tab_sq n _).len]
    refine (tab_sq n _).ext (tab_sq n _) fun r c hr hc => ?_
    have hqc := (idx_facts ⟨n, by omega⟩ q hq).2 ⟨c, by omega⟩ hc
    rw [tab_cell hr hc, tab_cell hc hr, turnE_tab (tab_sq n _).len, tab_cell hqc.1 hr, tab_cell hr hqc.1, mvT, tab_cell hr hc]
  rw [e] at h4
  exact ((h1.trans h2).trans h3).trans h4
/-- The first numbers are moved, the rest are 0. -/
def mvP (n : Nat) (p q : List Nat) (x : Tb) (i j : Nat) : Tb := tab n fun r c => if p.idxOf r < i ∨ (p.idxOf r = i ∧ q.idxOf c < j) then cell x (p.idxOf r) (q.idxOf c) else 0
theorem mvP_cell {n : Nat} {p q : List Nat} {x : Tb} {i j r c : Nat} (hr : r < n) (hc : c < n) : cell (mvP n p q x i j) r c = if p.idxOf r < i ∨ (p.idxOf r = i ∧ q.idxOf c < j) then cell x (p.idxOf r) (q.idxOf c) else 0 := tab_cell hr hc
theorem mvP_zero (n : Nat) (p q : List Nat) (x : Tb) : mvP n p q x 0 0 = zeroT n :=
  (tab_sq n _).ext (Sq.zero n) fun r c hr hc => by rw [tab_cell hr hc, zeroT_cell, if_neg (by omega)]
theorem mvP_next {n : Nat} (hn : n ≤ 4) {p q : List Nat} (hq : q ∈ plansS n) (x : Tb) (i : Nat) : mvP n p q x i n = mvP n p q x (i + 1) 0 :=
  (tab_sq n _).ext (tab_sq n _) fun r c hr hc => by
    have hqc := (idx_facts ⟨n, by omega⟩ q hq).2 ⟨c, by omega⟩ hc
    simp only at hqc
    show cell (mvP n p q x i n) r c = cell (mvP n p q x (i + 1) 0) r c
    rw [mvP_cell hr hc, mvP_cell hr hc]
    by_cases h : p.idxOf r < i ∨ (p.idxOf r = i ∧ q.idxOf c < n)
    · rw [if_pos h, if_pos (by omega)]
    · rw [if_neg h, if_neg (by omega)]
theorem mvP_end {n : Nat} (hn : n ≤ 4) {p : List Nat} (hp : p ∈ plansS n) (q : List Nat) (x : Tb) : mvP n p q x n 0 = mvT n p q x :=
  (tab_sq n _).ext (tab_sq n _) fun r c hr hc => by
    have hpr := (idx_facts ⟨n, by omega⟩ p hp).2 ⟨r, by omega⟩ hr
    simp only at hpr
    rw [mvT, tab_cell hr hc, tab_cell hr hc, if_pos (by omega)]
theorem mvP_step {n : Nat} (hn : n ≤ 4) {p q : List Nat} (hp : p ∈ plansS n) (hq : q ∈ plansS n) {x : Tb} {i j : Nat} (hi : i < n) (hj : j < n) :
    (mvP n p q x i j).set (p.getD i 0) (((mvP n p q x i j).getD (p.getD i 0) []).set (q.getD j 0) (cell x i j)) = mvP n p q x i (j + 1) := by
  have hpm := plansS_mem hp
  have hqm := plansS_mem hq
  have hpi : p.getD i 0 < n := hpm.2 _ (getD_mem (by rw [hpm.1]; exact hi))
  have hqj : q.getD j 0 < n := hqm.2 _ (getD_mem (by rw [hqm.1]; exact hj))
  have hs := tab_sq n (fun r c => if p.idxOf r < i ∨ (p.idxOf r = i ∧ q.idxOf c < j) then cell x (p.idxOf r) (q.idxOf c) else 0)
  have hrw : ((mvP n p q x i j).getD (p.getD i 0) []) = row (mvP n p q x i j) (p.getD i 0) := rfl
  rw [hrw]
  have hset : Sq n ((mvP n p q x i j).set (p.getD i 0) ((row (mvP n p q x i j) (p.getD i 0)).set (q.getD j 0) (cell x i j))) := by
    refine ⟨by rw [List.length_set]; exact hs.len, fun r hr => ?_⟩
    show (((mvP n p q x i j).set (p.getD i 0) ((row (mvP n p q x i j) (p.getD i 0)).set (q.getD j 0) (cell x i j))).getD r []).length = n
    rw [List.getD_eq_getElem?_getD, List.getElem?_set]
    split
    · rw [if_pos (by rw [show (mvP n p q x i j).length = n from hs.len]; exact hpi), Option.getD_some, List.length_set]
      exact hs.rowl _ hpi
    · rw [← List.getD_eq_getElem?_getD]; exact hs.rowl r hr
  refine hset.ext (tab_sq n _) fun r c hr hc => ?_
  rw [setc_cell (by rw [show (mvP n p q x i j).length = n from hs.len]; exact hpi) (by rw [show (row (mvP n p q x i j) (p.getD i 0)).length = n from hs.rowl _ hpi]; exact hqj)]
  show _ = cell (mvP n p q x i (j + 1)) r c
  rw [mvP_cell (j := j + 1) hr hc]
  have hpr := (idx_facts ⟨n, by omega⟩ p hp).2 ⟨r, by omega⟩ hr
  have hqc := (idx_facts ⟨n, by omega⟩ q hq).2 ⟨c, by omega⟩ hc
  have k1 := hpr.2 ⟨i, by omega⟩ hi
  have k2 := hqc.2 ⟨j, by omega⟩ hj
  simp only at k1 k2
  by_cases h : r = p.getD i 0 ∧ c = q.getD j 0
  · have g1 := k1.2 h.1.symm
    have g2 := k2.2 h.2.symm
    rw [if_pos h, if_pos (by omega), g1, g2]
  · rw [if_neg h, mvP_cell hr hc]
    by_cases h2 : p.idxOf r < i ∨ (p.idxOf r = i ∧ q.idxOf c < j)
    · rw [if_pos h2, if_pos (by omega)]
    · rw [if_neg h2, if_neg]
      rintro (h3 | ⟨h3, h4⟩)
      · exact h2 (.inl h3)
      · by_cases h5 : q.idxOf c = j
        · exact h ⟨(k1.1 h3).symm, (k2.1 h5).symm⟩
        · exact h2 (.inr ⟨h3, by omega⟩)
end Go.Proofs.YtbofkeoebnjjkaaDoor

/- The weight of a table of equal sums: small numbers, all tried. No conditions. -/
set_option linter.unusedVariables false
set_option maxRecDepth 20000
namespace Tab
/-- All numbers below one. -/
def allB (n : Nat) (f : Nat → Bool) : Bool := Nat.rec (motive := fun _ => Bool) true (fun i ih => cond (f i) ih false) n
theorem allB_at {f : Nat → Bool} : ∀ {n i : Nat}, allB n f = true → i < n → f i = true
  | n + 1, i, h, hi => by
    have h' : cond (f n) (allB n f) false = true := h
    cases hf : f n with
    | false => rw [hf] at h'; cases h'
    | true =>
      rw [hf] at h'
      by_cases he : i = n
      · subst he; exact hf
      · exact allB_at (n := n) h' (by omega)
theorem cond_ble {a b : Nat} {x : Bool} (h : cond (Nat.ble a b) x true = true) (hab : a ≤ b) : x = true := by
  rw [Nat.ble_eq_true_of_le hab] at h; exact h
def pm (a b c d : Nat) : Nat := Nat.add (Nat.mul a b) (Nat.mul c d)
def dot6 (k u v w x y z c1 d1 c2 d2 c3 d3 c4 d4 : Nat) : Bool :=
  Nat.ble (Nat.mul 3 (Nat.pow k 4)) (Nat.mul 32 (Nat.add (Nat.mul u (pm c3 d4 c4 d3)) (Nat.add (Nat.mul v (pm c2 d4 c4 d2)) (Nat.add (Nat.mul w (pm c2 d3 c3 d2)) (Nat.add (Nat.mul x (pm c1 d4 c4 d1)) (Nat.add (Nat.mul y (pm c1 d3 c3 d1)) (Nat.mul z (pm c1 d2 c2 d1))))))))
/-- The last two rows are tried, for the first two: u .. z are the ways of these in two columns. -/
def last4 (k e1 e2 e3 e4 u v w x y z : Nat) : Bool :=
  allB (Nat.succ e1) fun c1 => allB (Nat.succ e2) fun c2 => allB (Nat.succ e3) fun c3 =>
    cond (Nat.ble (Nat.add c1 (Nat.add c2 c3)) k) (cond (Nat.ble k (Nat.add (Nat.add c1 (Nat.add c2 c3)) e4))
      (dot6 k u v w x y z c1 (Nat.sub e1 c1) c2 (Nat.sub e2 c2) c3 (Nat.sub e3 c3) (Nat.sub k (Nat.add c1 (Nat.add c2 c3))) (Nat.sub e4 (Nat.sub k (Nat.add c1 (Nat.add c2 c3))))) true) true
def mid4 (k a1 b1 a2 b2 a3 b3 a4 b4 e1 e2 e3 e4 : Nat) : Bool :=
  last4 k e1 e2 e3 e4 (pm a1 b2 a2 b1) (pm a1 b3 a3 b1) (pm a1 b4 a4 b1) (pm a2 b3 a3 b2) (pm a2 b4 a4 b2) (pm a3 b4 a4 b3)
/-- The first two rows are tried, for their sums by columns. -/
def first4 (k s1 s2 s3 s4 : Nat) : Bool :=
  allB (Nat.succ s1) fun a1 => allB (Nat.succ s2) fun a2 => allB (Nat.succ s3) fun a3 =>
    cond (Nat.ble (Nat.add a1 (Nat.add a2 a3)) k) (cond (Nat.ble k (Nat.add (Nat.add a1 (Nat.add a2 a3)) s4))
      (mid4 k a1 (Nat.sub s1 a1) a2 (Nat.sub s2 a2) a3 (Nat.sub s3 a3) (Nat.sub k (Nat.add a1 (Nat.add a2 a3))) (Nat.sub s4 (Nat.sub k (Nat.add a1 (Nat.add a2 a3)))) (Nat.sub k s1) (Nat.sub k s2) (Nat.sub k s3) (Nat.sub k s4)) true) true
def chk4 (k : Nat) : Bool :=
  allB (Nat.succ k) fun s1 => allB (Nat.succ s1) fun s2 => allB (Nat.succ s2) fun s3 =>
    cond (Nat.ble (Nat.add s1 (Nat.add s2 s3)) (Nat.mul 2 k)) (cond (Nat.ble (Nat.mul 2 k) (Nat.add (Nat.add s1 (Nat.add s2 s3)) s3))
      (first4 k s1 s2 s3 (Nat.sub (Nat.mul 2 k) (Nat.add s1 (Nat.add s2 s3)))) true) true
theorem chk4_0 : chk4 0 = true := by decide +kernel
theorem chk4_1 : chk4 1 = true := by decide +kernel
theorem chk4_2 : chk4 2 = true := by decide +kernel
theorem chk4_3 : chk4 3 = true := by decide +kernel
theorem chk4_4 : chk4 4 = true := by decide +kernel
theorem chk4_5 : chk4 5 = true := by decide +kernel
theorem chk4_6 : chk4 6 = true := by decide +kernel
theorem chk4_7 : chk4 7 = true := by decide +kernel
theorem chk4_8 : chk4 8 = true := by decide +kernel
theorem chk4_all {k : Nat} (hk : k ≤ 8) : chk4 k = true := by
  have h : k = 0 ∨ k = 1 ∨ k = 2 ∨ k = 3 ∨ k = 4 ∨ k = 5 ∨ k = 6 ∨ k = 7 ∨ k = 8 := by omega
  rcases h with rfl | rfl | rfl | rfl | rfl | rfl | rfl | rfl | rfl
  · exact chk4_0
  · exact chk4_1
  · exact chk4_2
  · exact chk4_3
  · exact chk4_4
  · exact chk4_5
  · exact chk4_6
  · exact chk4_7
  · exact chk4_8
/-- A column of four numbers. -/
structure Col where
  a : Nat
  b : Nat
  c : Nat
  d : Nat
def Col.t (p : Col) : Nat := p.a + p.b
def p2 (p q : Col) : Nat := p.a * q.b + q.a * p.b
def q2 (p q : Col) : Nat := p.c * q.d + q.c * p.d
theorem p2_comm (p q : Col) : p2 p q = p2 q p := Nat.add_comm _ _
theorem q2_comm (p q : Col) : q2 p q = q2 q p := Nat.add_comm _ _
/-- The weight, by the first two rows and the last two. -/
def per4 (p q r s : Col) : Nat := p2 p q * q2 r s + p2 p r * q2 q s + p2 p s * q2 q r + p2 q r * q2 p s + p2 q s * q2 p r + p2 r s * q2 p q
structure Ev4 (k : Nat) (p q r s : Col) : Prop where
  ra : p.a + q.a + r.a + s.a = k
  rb : p.b + q.b + r.b + s.b = k
  rc : p.c + q.c + r.c + s.c = k
  rd : p.d + q.d + r.d + s.d = k
  cp : p.a + p.b + p.c + p.d = k
  cq : q.a + q.b + q.c + q.d = k
  cr : r.a + r.b + r.c + r.d = k
  cs : s.a + s.b + s.c + s.d = k
def WS (k : Nat) (p q r s : Col) : Prop := Ev4 k p q r s → 3 * k ^ 4 ≤ 32 * per4 p q r s
theorem ws_12 {k : Nat} {p q r s : Col} (h : WS k q p r s) : WS k p q r s := fun e => by
  obtain ⟨h1, h2, h3, h4, h5, h6, h7, h8⟩ := e
  have := h ⟨by omega, by omega, by omega, by omega, h6, h5, h7, h8⟩
  have e : per4 q p r s = per4 p q r s := by
    unfold per4
    rw [p2_comm q p, q2_comm q p]
    omega
  rw [← e]; exact this
theorem ws_23 {k : Nat} {p q r s : Col} (h : WS k p r q s) : WS k p q r s := fun e => by
  obtain ⟨h1, h2, h3, h4, h5, h6, h7, h8⟩ := e
  have := h ⟨by omega, by omega, by omega, by omega, h5, h7, h6, h8⟩
  have e : per4 p r q s = per4 p q r s := by
    unfold per4
    rw [p2_comm r q, q2_comm r q]
    omega
  rw [← e]; exact this
theorem ws_34 {k : Nat} {p q r s : Col} (h : WS k p q s r) : WS k p q r s := fun e => by
  obtain ⟨h1, h2, h3, h4, h5, h6, h7, h8⟩ := e
  have := h ⟨by omega, by omega, by omega, by omega, h5, h6, h8, h7⟩
  have e : per4 p q s r = per4 p q r s := by
    unfold per4
    rw [p2_comm s r, q2_comm s r]
    omega
  rw [← e]; exact this
theorem sub_l {a b c : Nat} (h : b + c = a) : Nat.sub a b = c := by show a - b = c; omega
theorem last4_at {k u v w x y z c1 d1 c2 d2 c3 d3 c4 d4 : Nat} (h : last4 k (c1 + d1) (c2 + d2) (c3 + d3) (c4 + d4) u v w x y z = true) (e3 : c1 + c2 + c3 + c4 = k) :
    3 * k ^ 4 ≤ 32 * (u * (c3 * d4 + c4 * d3) + (v * (c2 * d4 + c4 * d2) + (w * (c2 * d3 + c3 * d2) + (x * (c1 * d4 + c4 * d1) + (y * (c1 * d3 + c3 * d1) + z * (c1 * d2 + c2 * d1)))))) := by
  unfold last4 at h
  have g11 := allB_at h (Nat.lt_succ_of_le (Nat.le_add_right c1 d1))
  have g12 := allB_at g11 (Nat.lt_succ_of_le (Nat.le_add_right c2 d2))
  have g13 := allB_at g12 (Nat.lt_succ_of_le (Nat.le_add_right c3 d3))
  clear h g11 g12
  have g14 := cond_ble g13 (show c1 + (c2 + c3) ≤ k by clear g13; omega)
  have g15 := cond_ble g14 (show c1 + (c2 + c3) + (c4 + d4) ≥ k by clear g13 g14; omega)
  clear g13 g14
  rw [sub_l (show Nat.add c1 (Nat.add c2 c3) + c4 = k by show c1 + (c2 + c3) + c4 = k; clear g15; omega), sub_l (show c1 + d1 = c1 + d1 from rfl), sub_l (show c2 + d2 = c2 + d2 from rfl), sub_l (show c3 + d3 = c3 + d3 from rfl), sub_l (show c4 + d4 = c4 + d4 from rfl)] at g15
  exact Nat.le_of_ble_eq_true g15
theorem first4_at {k a1 b1 a2 b2 a3 b3 a4 b4 : Nat} (h : first4 k (a1 + b1) (a2 + b2) (a3 + b3) (a4 + b4) = true) (e1 : a1 + a2 + a3 + a4 = k) :
    mid4 k a1 b1 a2 b2 a3 b3 a4 b4 (Nat.sub k (a1 + b1)) (Nat.sub k (a2 + b2)) (Nat.sub k (a3 + b3)) (Nat.sub k (a4 + b4)) = true := by
  unfold first4 at h
  have g11 := allB_at h (Nat.lt_succ_of_le (Nat.le_add_right a1 b1))
  have g12 := allB_at g11 (Nat.lt_succ_of_le (Nat.le_add_right a2 b2))
  have g13 := allB_at g12 (Nat.lt_succ_of_le (Nat.le_add_right a3 b3))
  clear h g11 g12
  have g14 := cond_ble g13 (show a1 + (a2 + a3) ≤ k by clear g13; omega)
  have g15 := cond_ble g14 (show a1 + (a2 + a3) + (a4 + b4) ≥ k by clear g13 g14; omega)
  clear g13 g14
  rw [sub_l (show Nat.add a1 (Nat.add a2 a3) + a4 = k by show a1 + (a2 + a3) + a4 = k; clear g15; omega), sub_l (show a1 + b1 = a1 + b1 from rfl), sub_l (show a2 + b2 = a2 + b2 from rfl), sub_l (show a3 + b3 = a3 + b3 from rfl), sub_l (show a4 + b4 = a4 + b4 from rfl)] at g15
  exact g15
theorem chk4_at {k s1 s2 s3 s4 : Nat} (h : chk4 k = true) (h0 : s1 ≤ k) (h1 : s2 ≤ s1) (h2 : s3 ≤ s2) (h3 : s4 ≤ s3) (e : s1 + s2 + s3 + s4 = 2 * k) : first4 k s1 s2 s3 s4 = true := by
  unfold chk4 at h
  have g1 := allB_at h (Nat.lt_succ_of_le h0)
  have g2 := allB_at g1 (Nat.lt_succ_of_le h1)
  have g3 := allB_at g2 (Nat.lt_succ_of_le h2)
  clear h g1 g2
  have g4 := cond_ble g3 (show s1 + (s2 + s3) ≤ 2 * k by clear g3; omega)
  have g5 := cond_ble g4 (show 2 * k ≤ (s1 + (s2 + s3)) + s3 by clear g3 g4; omega)
  clear g3 g4
  rw [sub_l (show Nat.add s1 (Nat.add s2 s3) + s4 = Nat.mul 2 k by show s1 + (s2 + s3) + s4 = 2 * k; clear g5; omega)] at g5
  exact g5
theorem ws_0 {k : Nat} (hk : k ≤ 8) {p q r s : Col} (h1 : q.t ≤ p.t) (h2 : r.t ≤ q.t) (h3 : s.t ≤ r.t) : WS k p q r s := by
  rintro ⟨e1, e2, e3, e4, e5, e6, e7, e8⟩
  obtain ⟨a1, b1, c1, d1⟩ := p
  obtain ⟨a2, b2, c2, d2⟩ := q
  obtain ⟨a3, b3, c3, d3⟩ := r
  obtain ⟨a4, b4, c4, d4⟩ := s
  simp only [Col.t] at *
  have g5 := chk4_at (chk4_all hk) (s1 := a1 + b1) (s2 := a2 + b2) (s3 := a3 + b3) (s4 := a4 + b4) (by omega) h1 h2 h3 (by omega)
  have g10 := first4_at g5 e1
  clear g5
  rw [sub_l (show a1 + b1 + (c1 + d1) = k by clear g10; omega), sub_l (show a2 + b2 + (c2 + d2) = k by clear g10; omega), sub_l (show a3 + b3 + (c3 + d3) = k by clear g10; omega), sub_l (show a4 + b4 + (c4 + d4) = k by clear g10; omega)] at g10
  have g16 := last4_at g10 e3
  have g17 : 3 * k ^ 4 ≤ 32 * ((a1 * b2 + a2 * b1) * (c3 * d4 + c4 * d3) + ((a1 * b3 + a3 * b1) * (c2 * d4 + c4 * d2) + ((a1 * b4 + a4 * b1) * (c2 * d3 + c3 * d2) + ((a2 * b3 + a3 * b2) * (c1 * d4 + c4 * d1) + ((a2 * b4 + a4 * b2) * (c1 * d3 + c3 * d1) + (a3 * b4 + a4 * b3) * (c1 * d2 + c2 * d1)))))) := g16
  clear g16 g10
  show 3 * k ^ 4 ≤ 32 * ((a1 * b2 + a2 * b1) * (c3 * d4 + c4 * d3) + (a1 * b3 + a3 * b1) * (c2 * d4 + c4 * d2) + (a1 * b4 + a4 * b1) * (c2 * d3 + c3 * d2) + (a2 * b3 + a3 * b2) * (c1 * d4 + c4 * d1) + (a2 * b4 + a4 * b2) * (c1 * d3 + c3 * d1) + (a3 * b4 + a4 * b3) * (c1 * d2 + c2 * d1))
  rw [Nat.add_assoc, Nat.add_assoc, Nat.add_assoc, Nat.add_assoc]
  exact g17
theorem ws_1 {k : Nat} (hk : k ≤ 8) {p q r : Col} (s : Col) (h1 : q.t ≤ p.t) (h2 : r.t ≤ q.t) : WS k p q r s := by
  rcases Nat.le_total s.t r.t with h | h
  · exact ws_0 hk h1 h2 h
  refine ws_34 ?_
  rcases Nat.le_total s.t q.t with g | g
  · exact ws_0 hk h1 g h
  refine ws_23 ?_
  rcases Nat.le_total s.t p.t with f | f
  · exact ws_0 hk f g h2
  · exact ws_12 (ws_0 hk f h1 h2)
theorem ws_2 {k : Nat} (hk : k ≤ 8) {p q : Col} (r s : Col) (h1 : q.t ≤ p.t) : WS k p q r s := by
  rcases Nat.le_total r.t q.t with h | h
  · exact ws_1 hk s h1 h
  refine ws_23 ?_
  rcases Nat.le_total r.t p.t with g | g
  · exact ws_1 hk s g h
  · exact ws_12 (ws_1 hk s g h1)
/-- Four rows. -/
theorem ws_all {k : Nat} (hk : k ≤ 8) (p q r s : Col) : WS k p q r s := by
  rcases Nat.le_total q.t p.t with h | h
  · exact ws_2 hk r s h
  · exact ws_12 (ws_2 hk r s h)
/- Three rows. -/
def dot3 (k a1 a2 a3 b1 b2 b3 c1 c2 c3 : Nat) : Bool := Nat.ble (Nat.mul 2 (Nat.pow k 3)) (Nat.mul 9 (Nat.add (Nat.mul a1 (pm b2 c3 b3 c2)) (Nat.add (Nat.mul a2 (pm b1 c3 b3 c1)) (Nat.mul a3 (pm b1 c2 b2 c1)))))
def chk3 (k : Nat) : Bool :=
  allB (Nat.succ k) fun a1 => allB (Nat.succ (Nat.sub k a1)) fun a2 => allB (Nat.succ (Nat.sub k a1)) fun b1 => allB (Nat.succ (Nat.sub k a2)) fun b2 =>
    cond (Nat.ble (Nat.add b1 b2) k) (cond (Nat.ble k (Nat.add (Nat.add b1 b2) (Nat.add a1 a2)))
      (dot3 k a1 a2 (Nat.sub k (Nat.add a1 a2)) b1 b2 (Nat.sub k (Nat.add b1 b2)) (Nat.sub k (Nat.add a1 b1)) (Nat.sub k (Nat.add a2 b2)) (Nat.sub (Nat.add (Nat.add b1 b2) (Nat.add a1 a2)) k)) true) true
theorem chk3_all : allB 9 chk3 = true := by decide +kernel
theorem w3 {k a1 a2 a3 b1 b2 b3 c1 c2 c3 : Nat} (hk : k ≤ 8) (e1 : a1 + a2 + a3 = k) (e2 : b1 + b2 + b3 = k) (e3 : c1 + c2 + c3 = k) (e4 : a1 + b1 + c1 = k) (e5 : a2 + b2 + c2 = k) (e6 : a3 + b3 + c3 = k) :
    2 * k ^ 3 ≤ 9 * (a1 * (b2 * c3 + b3 * c2) + (a2 * (b1 * c3 + b3 * c1) + a3 * (b1 * c2 + b2 * c1))) := by
  have g0 := allB_at chk3_all (show k < 9 by omega)
  have g1 := allB_at g0 (show a1 < k.succ by omega)
  have g2 := allB_at g1 (show a2 < (Nat.sub k a1).succ by show a2 < (k - a1) + 1; omega)
  have g3 := allB_at g2 (show b1 < (Nat.sub k a1).succ by show b1 < (k - a1) + 1; omega)
  have g4 := allB_at g3 (show b2 < (Nat.sub k a2).succ by show b2 < (k - a2) + 1; omega)
  have g5 := cond_ble g4 (show b1 + b2 ≤ k by omega)
  have g6 := cond_ble g5 (show k ≤ b1 + b2 + (a1 + a2) by omega)
  have i1 : Nat.sub k (Nat.add a1 a2) = a3 := by show k - (a1 + a2) = a3; omega
  have i2 : Nat.sub k (Nat.add b1 b2) = b3 := by show k - (b1 + b2) = b3; omega
  have i3 : Nat.sub k (Nat.add a1 b1) = c1 := by show k - (a1 + b1) = c1; omega
  have i4 : Nat.sub k (Nat.add a2 b2) = c2 := by show k - (a2 + b2) = c2; omega
  have i5 : Nat.sub (Nat.add (Nat.add b1 b2) (Nat.add a1 a2)) k = c3 := by show b1 + b2 + (a1 + a2) - k = c3; omega
  rw [i1, i2, i3, i4, i5] at g6
  exact Nat.le_of_ble_eq_true g6
end Tab

namespace Go.Proofs.YtbofkeoebnjjkaaDoor
open Tab
set_option linter.unusedVariables false
set_option linter.unusedSimpArgs false
set_option maxRecDepth 20000

theorem plans4 : plansS 4 = [[0, 1, 2, 3], [0, 1, 3, 2], [0, 2, 1, 3], [0, 2, 3, 1], [0, 3, 1, 2], [0, 3, 2, 1], [1, 0, 2, 3], [1, 0, 3, 2], [1, 2, 0, 3], [1, 2, 3, 0], [1, 3, 0, 2], [1, 3, 2, 0], [2, 0, 1, 3], [2, 0, 3, 1], [2, 1, 0, 3], [2, 1, 3, 0], [2, 3, 0, 1], [2, 3, 1, 0], [3, 0, 1, 2], [3, 0, 2, 1], [3, 1, 0, 2], [3, 1, 2, 0], [3, 2, 0, 1], [3, 2, 1, 0]] := by decide
theorem plans3 : plansS 3 = [[0, 1, 2], [0, 2, 1], [1, 0, 2], [1, 2, 0], [2, 0, 1], [2, 1, 0]] := by decide
theorem plans2 : plansS 2 = [[0, 1], [1, 0]] := by decide
theorem plans1 : plansS 1 = [[0]] := by decide
def rgt (k : Nat) : Nat → Nat
  | 0 => 1
  | i + 1 => rgt k i * (k * (i + 1))
theorem sum4 {t : Tb} {x : Nat → Nat → Nat} (hl : t.length = 4) (hx : ∀ r c, cell t r c = (x r c : Int)) :
    sumP t (plansS 4) = (per4 ⟨x 0 0, x 1 0, x 2 0, x 3 0⟩ ⟨x 0 1, x 1 1, x 2 1, x 3 1⟩ ⟨x 0 2, x 1 2, x 2 2, x 3 2⟩ ⟨x 0 3, x 1 3, x 2 3, x 3 3⟩ : Nat) := by
  simp only [sumP, hl, plans4, List.map_cons, List.map_nil, List.sum_cons, List.sum_nil, prodK, List.getD_cons_zero, List.getD_cons_succ, hx, per4, p2, q2, Int.natCast_add, Int.natCast_mul]
  generalize (x 0 0 : Int) = a0
  generalize (x 0 1 : Int) = a1
  generalize (x 0 2 : Int) = a2
  generalize (x 0 3 : Int) = a3
  generalize (x 1 0 : Int) = b0
  generalize (x 1 1 : Int) = b1
  generalize (x 1 2 : Int) = b2
  generalize (x 1 3 : Int) = b3
  generalize (x 2 0 : Int) = c0
  generalize (x 2 1 : Int) = c1
  generalize (x 2 2 : Int) = c2
  generalize (x 2 3 : Int) = c3
  generalize (x 3 0 : Int) = d0
  generalize (x 3 1 : Int) = d1
  generalize (x 3 2 : Int) = d2
  generalize (x 3 3 : Int) = d3
  grind
theorem sum3 {t : Tb} {x : Nat → Nat → Nat} (hl : t.length = 3) (hx : ∀ r c, cell t r c = (x r c : Int)) :
    sumP t (plansS 3) = ((x 0 0 * (x 1 1 * x 2 2 + x 1 2 * x 2 1) + (x 0 1 * (x 1 0 * x 2 2 + x 1 2 * x 2 0) + x 0 2 * (x 1 0 * x 2 1 + x 1 1 * x 2 0)) : Nat) : Int) := by
  simp only [sumP, hl, plans3, List.map_cons, List.map_nil, List.sum_cons, List.sum_nil, prodK, List.getD_cons_zero, List.getD_cons_succ, hx, Int.natCast_add, Int.natCast_mul]
  grind
theorem sum2 {t : Tb} {x : Nat → Nat → Nat} (hl : t.length = 2) (hx : ∀ r c, cell t r c = (x r c : Int)) :
    sumP t (plansS 2) = ((x 0 0 * x 1 1 + x 0 1 * x 1 0 : Nat) : Int) := by
  simp only [sumP, hl, plans2, List.map_cons, List.map_nil, List.sum_cons, List.sum_nil, prodK, List.getD_cons_zero, List.getD_cons_succ, hx, Int.natCast_add, Int.natCast_mul]
  grind
theorem sum1 {t : Tb} {x : Nat → Nat → Nat} (hl : t.length = 1) (hx : ∀ r c, cell t r c = (x r c : Int)) : sumP t (plansS 1) = (x 0 0 : Int) := by
  simp only [sumP, hl, plans1, List.map_cons, List.map_nil, List.sum_cons, List.sum_nil, prodK, List.getD_cons_zero, List.getD_cons_succ, hx, Int.one_mul, Int.add_zero]
theorem two_sq : allB 9 (fun k => allB (Nat.succ k) fun a => Nat.ble (Nat.mul 2 (Nat.pow k 2)) (Nat.mul 4 (Nat.add (Nat.mul a a) (Nat.mul (Nat.sub k a) (Nat.sub k a))))) = true := by decide +kernel
theorem row4 (t : Tb) (r : Nat) : rowS t r 4 = cell t r 0 + cell t r 1 + cell t r 2 + cell t r 3 := by
  simp [rowS, List.range_succ]; omega
theorem col4 (t : Tb) (r : Nat) : colS t r 4 = cell t 0 r + cell t 1 r + cell t 2 r + cell t 3 r := by
  simp [colS, List.range_succ]; omega
theorem row3 (t : Tb) (r : Nat) : rowS t r 3 = cell t r 0 + cell t r 1 + cell t r 2 := by
  simp [rowS, List.range_succ]; omega
theorem col3 (t : Tb) (r : Nat) : colS t r 3 = cell t 0 r + cell t 1 r + cell t 2 r := by
  simp [colS, List.range_succ]; omega
theorem row2 (t : Tb) (r : Nat) : rowS t r 2 = cell t r 0 + cell t r 1 := by
  simp [rowS, List.range_succ]
theorem col2 (t : Tb) (r : Nat) : colS t r 2 = cell t 0 r + cell t 1 r := by
  simp [colS, List.range_succ]
theorem row1 (t : Tb) (r : Nat) : rowS t r 1 = cell t r 0 := by
  simp [rowS, List.range_succ]
/-- VAN DER WAERDEN, for at most four rows and small sums. -/
theorem waerden {t : Tb} {k : Nat} (hc : chkT t = 0) (hk : k ≤ 8) (hs : ∀ r, r < t.length → rowS t r t.length = k ∧ colS t r t.length = k) :
    (rgt k t.length : Int) ≤ (weightE t).1 * ((t.length ^ t.length : Nat) : Int) := by
  obtain ⟨n1, n2, hrows⟩ := chkT_ok hc
  rw [weightE_eq hc]
  obtain ⟨x, hx⟩ : ∃ x : Nat → Nat → Nat, ∀ r c, cell t r c = (x r c : Int) := ⟨fun r c => (cell t r c).toNat, fun r c => by have := (cell_rng hc r c).1; show cell t r c = ((cell t r c).toNat : Int); omega⟩
  have h : t.length = 1 ∨ t.length = 2 ∨ t.length = 3 ∨ t.length = 4 := by omega
  rcases h with hl | hl | hl | hl
  · have s0 := hs 0 (by omega)
    rw [hl] at s0 ⊢
    rw [row1, hx] at s0
    rw [sum1 hl hx]
    simp only [rgt]
    omega
  · have s0 := hs 0 (by omega)
    have s1 := hs 1 (by omega)
    rw [hl] at s0 s1 ⊢
    rw [row2, col2, hx, hx, hx] at s0
    rw [row2, col2, hx, hx, hx] at s1
    rw [sum2 hl hx]
    generalize x 0 0 = a at *
    generalize x 0 1 = b at *
    generalize x 1 0 = c at *
    generalize x 1 1 = d at *
    obtain rfl : d = a := by omega
    obtain rfl : c = b := by omega
    have g1 := allB_at two_sq (show k < 9 by omega)
    have g2 := allB_at g1 (show d < k.succ by omega)
    have g3 := Nat.le_of_ble_eq_true g2
    have e : Nat.sub k d = c := sub_l (by omega)
    rw [e] at g3
    have g4 : 2 * k ^ 2 ≤ 4 * (d * d + c * c) := g3
    simp only [rgt]
    have e2 : 1 * (k * (0 + 1)) * (k * (1 + 1)) = 2 * k ^ 2 := by grind
    rw [e2]
    omega
  · have s0 := hs 0 (by omega)
    have s1 := hs 1 (by omega)
    have s2 := hs 2 (by omega)
    rw [hl] at s0 s1 s2 ⊢
    rw [row3, col3] at s0 s1 s2
    simp only [hx] at s0 s1 s2
    rw [sum3 hl hx]
    have g := w3 hk (a1 := x 0 0) (a2 := x 0 1) (a3 := x 0 2) (b1 := x 1 0) (b2 := x 1 1) (b3 := x 1 2) (c1 := x 2 0) (c2 := x 2 1) (c3 := x 2 2) (by omega) (by omega) (by omega) (by omega) (by omega) (by omega)
    simp only [rgt]
    have e2 : 1 * (k * (0 + 1)) * (k * (1 + 1)) * (k * (2 + 1)) = 6 * k ^ 3 := by grind
    rw [e2]
    generalize k ^ 3 = y at *
    generalize x 0 0 * (x 1 1 * x 2 2 + x 1 2 * x 2 1) + (x 0 1 * (x 1 0 * x 2 2 + x 1 2 * x 2 0) + x 0 2 * (x 1 0 * x 2 1 + x 1 1 * x 2 0)) = z at *
    omega
  · have s0 := hs 0 (by omega)
    have s1 := hs 1 (by omega)
    have s2 := hs 2 (by omega)
    have s3 := hs 3 (by omega)
    rw [hl] at s0 s1 s2 s3 ⊢
    rw [row4, col4] at s0 s1 s2 s3
    simp only [hx] at s0 s1 s2 s3
    rw [sum4 hl hx]
    have g := ws_all hk ⟨x 0 0, x 1 0, x 2 0, x 3 0⟩ ⟨x 0 1, x 1 1, x 2 1, x 3 1⟩ ⟨x 0 2, x 1 2, x 2 2, x 3 2⟩ ⟨x 0 3, x 1 3, x 2 3, x 3 3⟩ ⟨by simp only; omega, by simp only; omega, by simp only; omega, by simp only; omega, by simp only; omega, by simp only; omega, by simp only; omega, by simp only; omega⟩
    generalize per4 ⟨x 0 0, x 1 0, x 2 0, x 3 0⟩ ⟨x 0 1, x 1 1, x 2 1, x 3 1⟩ ⟨x 0 2, x 1 2, x 2 2, x 3 2⟩ ⟨x 0 3, x 1 3, x 2 3, x 3 3⟩ = z at *
    simp only [rgt]
    have e2 : 1 * (k * (0 + 1)) * (k * (1 + 1)) * (k * (2 + 1)) * (k * (3 + 1)) = 24 * k ^ 4 := by grind
    rw [e2]
    generalize k ^ 4 = y at *
    omega
/-- The first numbers of a table are k, the rest 0. -/
def flatK (k : Int) (n i j : Nat) : Tb := (List.range n).map fun r => (List.range n).map fun c => if r < i ∨ (r = i ∧ c < j) then k else 0
@[simp] theorem flatK_length (k : Int) (n i j : Nat) : (flatK k n i j).length = n := by simp [flatK]
theorem flatK_get {k : Int} {n i j r : Nat} (hr : r < n) : (flatK k n i j).getD r [] = (List.range n).map fun c => if r < i ∨ (r = i ∧ c < j) then k else 0 := by
  simp [flatK, List.getD_eq_getElem?_getD, hr]
theorem flatK_step {k : Int} {n i j : Nat} (hi : i < n) (hj : j < n) : (flatK k n i j).set i (((flatK k n i j).getD i []).set j k) = flatK k n i (j + 1) := by
  refine ext_T (by simp) fun r hr => ?_
  simp only [List.length_set, flatK_length] at hr
  rw [getT_set (by simpa using hi), flatK_get hr, flatK_get hr, flatK_get hi]
  by_cases h : r = i
  · subst h
    rw [if_pos rfl]
    refine List.ext_getElem (by simp) fun c h1 h2 => ?_
    rw [List.getElem_set]
    by_cases hc : j = c
    · subst hc; simp
    · rw [if_neg hc]
      simp only [List.getElem_map, List.getElem_range]
      by_cases hcj : c < j
      · rw [if_pos (.inr ⟨by trivial, hcj⟩), if_pos (.inr ⟨by trivial, by omega⟩)]
      · rw [if_neg (by omega), if_neg (by omega)]
  · rw [if_neg h]
    refine List.map_congr_left fun c _ => ?_
    by_cases hki : r < i
    · rw [if_pos (.inl hki), if_pos (.inl hki)]
    · rw [if_neg (by omega), if_neg (by omega)]
theorem flatK_next (k : Int) (n i : Nat) : flatK k n i n = flatK k n (i + 1) 0 := by
  refine List.map_congr_left fun r _ => List.map_congr_left fun c hc => ?_
  have := List.mem_range.1 hc
  by_cases h : r < i ∨ (r = i ∧ c < n)
  · rw [if_pos h, if_pos (by omega)]
  · rw [if_neg h, if_neg (by omega)]
theorem flatK_zero (k : Int) (n : Nat) : flatK k n 0 0 = zeroT n := by
  refine ext_T (by simp [zeroT]) fun r hr => ?_
  rw [flatK_length] at hr
  rw [flatK_get hr]
  simp only [zeroT, List.getD_eq_getElem?_getD, List.getElem?_replicate, hr, if_true, Option.getD_some]
  refine List.ext_getElem (by simp) fun c h1 h2 => ?_
  simp
theorem flat_chk : ∀ n : Fin 5, ∀ k : Fin 9, n.val ≠ 0 → chkT (flatK (k.val : Int) n.val n.val 0) = 0 := by decide +kernel
theorem flat_weight : ∀ n : Fin 5, ∀ k : Fin 9, n.val ≠ 0 → (weightE (flatK (k.val : Int) n.val n.val 0)).1 = (rgt k.val n.val : Int) := by decide +kernel
theorem rgt_bd {k : Nat} (hk : k ≤ 8) : ∀ i, i ≤ 4 → rgt k i ≤ 32 ^ i
  | 0, _ => by simp [rgt]
  | i + 1, h => by
    have ih := rgt_bd hk i (by omega)
    rw [rgt, Nat.pow_succ]
    exact Nat.mul_le_mul ih (Nat.le_trans (Nat.mul_le_mul hk (show i + 1 ≤ 4 by omega)) (by decide))
end Go.Proofs.YtbofkeoebnjjkaaDoor

namespace Go.Proofs.YtbofkeoebnjjkaaDoor
open Go.Av Tab
set_option linter.unusedVariables false
set_option linter.unusedSimpArgs false
set_option maxRecDepth 4000

theorem first_eq (t : Tb) : (if chkT t ≠ 0 then [] else match withinS t with | [] => [] | p :: _ => up p) = (if chkT t ≠ 0 then [] else match wkAll t with | [] => [] | x :: _ => up x.1) := by
  by_cases hc : chkT t = 0
  · rw [if_neg (by simp [hc]), if_neg (by simp [hc]), wkAll_eq hc]
    cases withinS t <;> rfl
  · rw [if_pos hc, if_pos hc]
theorem firstE_eq (t : Tb) : (if chkT t ≠ 0 then chkT t else match withinS t with | [] => 12 | _ => 0) = (if chkT t ≠ 0 then chkT t else if wkAll t = [] then 12 else 0) := by
  by_cases hc : chkT t = 0
  · rw [if_neg (by simp [hc]), if_neg (by simp [hc]), wkAll_eq hc]
    cases withinS t <;> simp
  · rw [if_pos hc, if_pos hc]
theorem count_eq (t : Tb) : (if chkT t ≠ 0 then 0 else ((withinS t).length : Int)) = (countE t).1 := by
  by_cases hc : chkT t = 0
  · rw [if_neg (by simp [hc]), countE_eq hc]
  · rw [if_pos hc, countE, if_pos hc]
theorem weight_eq (t : Tb) : (if chkT t ≠ 0 then 0 else sumP t (plansS t.length)) = (weightE t).1 := by
  by_cases hc : chkT t = 0
  · rw [if_neg (by simp [hc]), weightE_eq hc]
  · rw [if_pos hc, weightE, if_pos hc]
theorem turn_len (t : Tb) : (if chkT t ≠ 0 then [] else turnE t).length < 2 ^ 63 ∧ ∀ l ∈ (if chkT t ≠ 0 then [] else turnE t), l.length < 2 ^ 63 := by
  by_cases hc : chkT t = 0
  · obtain ⟨n1, n2, hrows⟩ := chkT_ok hc
    rw [if_neg (by simp [hc])]
    refine ⟨by rw [turnE_length]; omega, fun l hl => ?_⟩
    obtain ⟨k, hk, rfl⟩ := List.mem_map.1 hl
    simp; omega
  · rw [if_pos hc]; simp
theorem first_len {t : Tb} : (if chkT t ≠ 0 then [] else match wkAll t with | [] => [] | x :: _ => up x.1).length < 2 ^ 63 := by
  by_cases hc : chkT t = 0
  · obtain ⟨n1, n2, hrows⟩ := chkT_ok hc
    rw [if_neg (by simp [hc])]
    cases hw : wkAll t with
    | nil => simp
    | cons x r =>
      have := (wk_mem hc _ _ _ _ x (by rw [show wk t t.length [] 1 9 = wkAll t from rfl, hw]; simp)).1
      simp only [up_length]
      simp at this; omega
  · rw [if_pos hc]; simp
def firstW (t : Tb) : List Int := if chkT t ≠ 0 then [] else match wkAll t with | [] => [] | x :: _ => up x.1
def firstX (t : Tb) : Int := if chkT t ≠ 0 then chkT t else if wkAll t = [] then 12 else 0
theorem c20w {v : AV} {t : Tbl} {H : Heap} {K : AV → Heap → Prop} (hv : RT H v t) (hl : t.length < 2 ^ 63) (hl2 : ∀ l ∈ t, l.length < 2 ^ 63)
    (hk : K (.tup [sl (firstW t), .int .i64 (firstX t)]) H) : ACalls Tryd.prog 20 [v] H K := c20 hv hl hl2 hk
theorem c21w {v : AV} {t : Tbl} {H : Heap} {K : AV → Heap → Prop} (hv : RT H v t) (hl : t.length < 2 ^ 63) (hl2 : ∀ l ∈ t, l.length < 2 ^ 63)
    (hk : ∀ a, Reads H a (firstW t) → K (.tup [a, .int .i64 (firstX t)]) H) : ACalls Tryd.prog 21 [v] H K := by
  refine c21 hv hl hl2 fun a ha => ?_
  have h1 := hk a (by
    have e := first_eq t
    unfold firstW
    refine Eq.mp (congrArg (Reads H a) e) ?_
    exact ha)
  have e := firstE_eq t
  unfold firstX at h1
  refine Eq.mp (congrArg (fun z => K (.tup [a, .int .i64 z]) H) e.symm) ?_
  exact h1
/-- TablePlans -/
theorem c3 {v u : AV} {t : Tbl} {p : List Int} {H : Heap} {K : AV → Heap → Prop} (hv : RT H v t) (hu : Reads H u p) (hl : t.length < 2 ^ 63) (hl2 : ∀ l ∈ t, l.length < 2 ^ 63) (hl3 : p.length < 2 ^ 63) (hk : K (.bool true) H) : ACalls Tryd.prog 3 [v, u] H K := by
  apply W3_ok
  unfold W3
  try simp only [letO_some, cellsOf?_agg, cellsOf?_int, cellsOf?_bool, cellsOf?_imm, cellsOf?_ref, cellsOf?_nils, faddr_iptr, faddr_ptr, List.drop_succ_cons, List.drop_zero, List.take_succ_cons, List.take_zero, load1_iptr, loadN_iptr, List.length_cons, List.length_nil, Nat.le_refl, if_true, List.getElem?_cons_zero, List.getElem?_cons_succ, List.getD_cons_zero, List.getD_cons_succ, extrF_tup, binF_add, binF_sub, binF_mul, binF_eql, binF_neq, binF_lss, binF_leq, binF_gtr, binF_geq, true_and]
  refine c16 hv hl fun b _ => ?_
  have go : ∀ b : Bool, pickF (.bool b) (.bool true) (if b then .tup [] else .bool (decide ((20 : Int) < p.length))) = some (.bool (b || decide ((20 : Int) < p.length))) := by
    intro b; cases b <;> rfl
  have fin : ACalls Tryd.prog 17 [] H fun t26 H2 => letO (some (t26 : AV)) fun t4 => endK t4 H2 K := by
    refine c17 ?_
    try simp only [letO_some, cellsOf?_agg, cellsOf?_int, cellsOf?_bool, cellsOf?_imm, cellsOf?_ref, cellsOf?_nils, faddr_iptr, faddr_ptr, List.drop_succ_cons, List.drop_zero, List.take_succ_cons, List.take_zero, load1_iptr, loadN_iptr, List.length_cons, List.length_nil, Nat.le_refl, if_true, List.getElem?_cons_zero, List.getElem?_cons_succ, List.getD_cons_zero, List.getD_cons_succ, extrF_tup, binF_add, binF_sub, binF_mul, binF_eql, binF_neq, binF_lss, binF_leq, binF_gtr, binF_geq, true_and]
    exact endK_ret hk
  try simp only [letO_some, cellsOf?_agg, cellsOf?_int, cellsOf?_bool, cellsOf?_imm, cellsOf?_ref, cellsOf?_nils, faddr_iptr, faddr_ptr, List.drop_succ_cons, List.drop_zero, List.take_succ_cons, List.take_zero, load1_iptr, loadN_iptr, List.length_cons, List.length_nil, Nat.le_refl, if_true, List.getElem?_cons_zero, List.getElem?_cons_succ, List.getD_cons_zero, List.getD_cons_succ, extrF_tup, binF_add, binF_sub, binF_mul, binF_eql, binF_neq, binF_lss, binF_leq, binF_gtr, binF_geq, true_and] at fin
  cases b with
  | true =>
    simp only [letO_some, cellsOf?_agg, cellsOf?_int, cellsOf?_bool, cellsOf?_imm, cellsOf?_ref, cellsOf?_nils, faddr_iptr, faddr_ptr, List.drop_succ_cons, List.drop_zero, List.take_succ_cons, List.take_zero, load1_iptr, loadN_iptr, List.length_cons, List.length_nil, Nat.le_refl, if_true, List.getElem?_cons_zero, List.getElem?_cons_succ, List.getD_cons_zero, List.getD_cons_succ, extrF_tup, binF_add, binF_sub, binF_mul, binF_eql, binF_neq, binF_lss, binF_leq, binF_gtr, binF_geq, true_and, gval_bool, Int.reduceBNe, Int.reduceBEq, pickF_true, pickF_false, reduceIte, Bool.true_eq_false, Bool.false_eq_true, if_false, condA_tt, condA_ff, condG_tt, condG_ff, condG_tt', condG_ff', condG_undef, gval_undef]
    exact fin
  | false =>
    simp only [letO_some, cellsOf?_agg, cellsOf?_int, cellsOf?_bool, cellsOf?_imm, cellsOf?_ref, cellsOf?_nils, faddr_iptr, faddr_ptr, List.drop_succ_cons, List.drop_zero, List.take_succ_cons, List.take_zero, load1_iptr, loadN_iptr, List.length_cons, List.length_nil, Nat.le_refl, if_true, List.getElem?_cons_zero, List.getElem?_cons_succ, List.getD_cons_zero, List.getD_cons_succ, extrF_tup, binF_add, binF_sub, binF_mul, binF_eql, binF_neq, binF_lss, binF_leq, binF_gtr, binF_geq, true_and, gval_bool, Int.reduceBNe, Int.reduceBEq, pickF_true, pickF_false, reduceIte, Bool.true_eq_false, Bool.false_eq_true, if_false, condA_tt, condA_ff, condG_tt, condG_ff, condG_tt', condG_ff', condG_undef, gval_undef, hu.len]
    refine condA_t (fun _ => fin) (fun _ => ?_)
    refine c18 hv hl hl2 ?_
    try simp only [letO_some, cellsOf?_agg, cellsOf?_int, cellsOf?_bool, cellsOf?_imm, cellsOf?_ref, cellsOf?_nils, faddr_iptr, faddr_ptr, List.drop_succ_cons, List.drop_zero, List.take_succ_cons, List.take_zero, load1_iptr, loadN_iptr, List.length_cons, List.length_nil, Nat.le_refl, if_true, List.getElem?_cons_zero, List.getElem?_cons_succ, List.getD_cons_zero, List.getD_cons_succ, extrF_tup, binF_add, binF_sub, binF_mul, binF_eql, binF_neq, binF_lss, binF_leq, binF_gtr, binF_geq, true_and]
    refine c19 hv hl hl2 ?_
    try simp only [letO_some, cellsOf?_agg, cellsOf?_int, cellsOf?_bool, cellsOf?_imm, cellsOf?_ref, cellsOf?_nils, faddr_iptr, faddr_ptr, List.drop_succ_cons, List.drop_zero, List.take_succ_cons, List.take_zero, load1_iptr, loadN_iptr, List.length_cons, List.length_nil, Nat.le_refl, if_true, List.getElem?_cons_zero, List.getElem?_cons_succ, List.getD_cons_zero, List.getD_cons_succ, extrF_tup, binF_add, binF_sub, binF_mul, binF_eql, binF_neq, binF_lss, binF_leq, binF_gtr, binF_geq, true_and]
    refine c20w hv hl hl2 ?_
    try simp only [letO_some, cellsOf?_agg, cellsOf?_int, cellsOf?_bool, cellsOf?_imm, cellsOf?_ref, cellsOf?_nils, faddr_iptr, faddr_ptr, List.drop_succ_cons, List.drop_zero, List.take_succ_cons, List.take_zero, load1_iptr, loadN_iptr, List.length_cons, List.length_nil, Nat.le_refl, if_true, List.getElem?_cons_zero, List.getElem?_cons_succ, List.getD_cons_zero, List.getD_cons_succ, extrF_tup, binF_add, binF_sub, binF_mul, binF_eql, binF_neq, binF_lss, binF_leq, binF_gtr, binF_geq, true_and]
    refine c21w hv hl hl2 fun a ha => ?_
    try simp only [letO_some, cellsOf?_agg, cellsOf?_int, cellsOf?_bool, cellsOf?_imm, cellsOf?_ref, cellsOf?_nils, faddr_iptr, faddr_ptr, List.drop_succ_cons, List.drop_zero, List.take_succ_cons, List.take_zero, load1_iptr, loadN_iptr, List.length_cons, List.length_nil, Nat.le_refl, if_true, List.getElem?_cons_zero, List.getElem?_cons_succ, List.getD_cons_zero, List.getD_cons_succ, extrF_tup, binF_add, binF_sub, binF_mul, binF_eql, binF_neq, binF_lss, binF_leq, binF_gtr, binF_geq, true_and]
    refine c22 hv hl hl2 ?_
    try simp only [letO_some, cellsOf?_agg, cellsOf?_int, cellsOf?_bool, cellsOf?_imm, cellsOf?_ref, cellsOf?_nils, faddr_iptr, faddr_ptr, List.drop_succ_cons, List.drop_zero, List.take_succ_cons, List.take_zero, load1_iptr, loadN_iptr, List.length_cons, List.length_nil, Nat.le_refl, if_true, List.getElem?_cons_zero, List.getElem?_cons_succ, List.getD_cons_zero, List.getD_cons_succ, extrF_tup, binF_add, binF_sub, binF_mul, binF_eql, binF_neq, binF_lss, binF_leq, binF_gtr, binF_geq, true_and]
    refine c23 hv hl hl2 ?_
    rw [count_eq]
    simp only [letO_some, cellsOf?_agg, cellsOf?_int, cellsOf?_bool, cellsOf?_imm, cellsOf?_ref, cellsOf?_nils, faddr_iptr, faddr_ptr, List.drop_succ_cons, List.drop_zero, List.take_succ_cons, List.take_zero, load1_iptr, loadN_iptr, List.length_cons, List.length_nil, Nat.le_refl, if_true, List.getElem?_cons_zero, List.getElem?_cons_succ, List.getD_cons_zero, List.getD_cons_succ, extrF_tup, binF_add, binF_sub, binF_mul, binF_eql, binF_neq, binF_lss, binF_leq, binF_gtr, binF_geq, true_and, gval_bool, Int.reduceBNe, Int.reduceBEq, pickF_true, pickF_false, reduceIte, Bool.true_eq_false, Bool.false_eq_true, if_false, condA_tt, condA_ff, condG_tt, condG_ff, condG_tt', condG_ff', condG_undef, gval_undef, bne_self_eq_false]
    refine exJ ?_
    refine c24 (Reads.sl _ _) ha (first_len (t := t)) ?_
    simp only [decide_true, not_v, Bool.not_true, letO_some, cellsOf?_agg, cellsOf?_int, cellsOf?_bool, cellsOf?_imm, cellsOf?_ref, cellsOf?_nils, faddr_iptr, faddr_ptr, List.drop_succ_cons, List.drop_zero, List.take_succ_cons, List.take_zero, load1_iptr, loadN_iptr, List.length_cons, List.length_nil, Nat.le_refl, if_true, List.getElem?_cons_zero, List.getElem?_cons_succ, List.getD_cons_zero, List.getD_cons_succ, extrF_tup, binF_add, binF_sub, binF_mul, binF_eql, binF_neq, binF_lss, binF_leq, binF_gtr, binF_geq, true_and, gval_bool, Int.reduceBNe, Int.reduceBEq, pickF_true, pickF_false, reduceIte, Bool.true_eq_false, Bool.false_eq_true, if_false, condA_tt, condA_ff, condG_tt, condG_ff, condG_tt', condG_ff', condG_undef, gval_undef, bne_self_eq_false]
    refine c25 hv hl hl2 ?_
    try simp only [letO_some, cellsOf?_agg, cellsOf?_int, cellsOf?_bool, cellsOf?_imm, cellsOf?_ref, cellsOf?_nils, faddr_iptr, faddr_ptr, List.drop_succ_cons, List.drop_zero, List.take_succ_cons, List.take_zero, load1_iptr, loadN_iptr, List.length_cons, List.length_nil, Nat.le_refl, if_true, List.getElem?_cons_zero, List.getElem?_cons_succ, List.getD_cons_zero, List.getD_cons_succ, extrF_tup, binF_add, binF_sub, binF_mul, binF_eql, binF_neq, binF_lss, binF_leq, binF_gtr, binF_geq, true_and]
    refine c26 hv hl hl2 ?_
    rw [weight_eq]
    try simp only [letO_some, cellsOf?_agg, cellsOf?_int, cellsOf?_bool, cellsOf?_imm, cellsOf?_ref, cellsOf?_nils, faddr_iptr, faddr_ptr, List.drop_succ_cons, List.drop_zero, List.take_succ_cons, List.take_zero, load1_iptr, loadN_iptr, List.length_cons, List.length_nil, Nat.le_refl, if_true, List.getElem?_cons_zero, List.getElem?_cons_succ, List.getD_cons_zero, List.getD_cons_succ, extrF_tup, binF_add, binF_sub, binF_mul, binF_eql, binF_neq, binF_lss, binF_leq, binF_gtr, binF_geq, true_and]
    refine c27 hv hl hl2 ?_
    try simp only [letO_some, cellsOf?_agg, cellsOf?_int, cellsOf?_bool, cellsOf?_imm, cellsOf?_ref, cellsOf?_nils, faddr_iptr, faddr_ptr, List.drop_succ_cons, List.drop_zero, List.take_succ_cons, List.take_zero, load1_iptr, loadN_iptr, List.length_cons, List.length_nil, Nat.le_refl, if_true, List.getElem?_cons_zero, List.getElem?_cons_succ, List.getD_cons_zero, List.getD_cons_succ, extrF_tup, binF_add, binF_sub, binF_mul, binF_eql, binF_neq, binF_lss, binF_leq, binF_gtr, binF_geq, true_and]
    refine c28 hv hl hl2 ?_
    simp only [letO_some, cellsOf?_agg, cellsOf?_int, cellsOf?_bool, cellsOf?_imm, cellsOf?_ref, cellsOf?_nils, faddr_iptr, faddr_ptr, List.drop_succ_cons, List.drop_zero, List.take_succ_cons, List.take_zero, load1_iptr, loadN_iptr, List.length_cons, List.length_nil, Nat.le_refl, if_true, List.getElem?_cons_zero, List.getElem?_cons_succ, List.getD_cons_zero, List.getD_cons_succ, extrF_tup, binF_add, binF_sub, binF_mul, binF_eql, binF_neq, binF_lss, binF_leq, binF_gtr, binF_geq, true_and, gval_bool, Int.reduceBNe, Int.reduceBEq, pickF_true, pickF_false, reduceIte, Bool.true_eq_false, Bool.false_eq_true, if_false, condA_tt, condA_ff, condG_tt, condG_ff, condG_tt', condG_ff', condG_undef, gval_undef, beq_self_eq_true]
    refine exJ ?_
    refine c29 (RT.tl _ _) (RT.tl _ _) (turn_len t).1 (turn_len t).2 ?_
    simp only [decide_true, letO_some, cellsOf?_agg, cellsOf?_int, cellsOf?_bool, cellsOf?_imm, cellsOf?_ref, cellsOf?_nils, faddr_iptr, faddr_ptr, List.drop_succ_cons, List.drop_zero, List.take_succ_cons, List.take_zero, load1_iptr, loadN_iptr, List.length_cons, List.length_nil, Nat.le_refl, if_true, List.getElem?_cons_zero, List.getElem?_cons_succ, List.getD_cons_zero, List.getD_cons_succ, extrF_tup, binF_add, binF_sub, binF_mul, binF_eql, binF_neq, binF_lss, binF_leq, binF_gtr, binF_geq, true_and, gval_bool, Int.reduceBNe, Int.reduceBEq, pickF_true, pickF_false, reduceIte, Bool.true_eq_false, Bool.false_eq_true, if_false, condA_tt, condA_ff, condG_tt, condG_ff, condG_tt', condG_ff', condG_undef, gval_undef, beq_self_eq_true]
    refine exJ ?_
    refine c30 hv hl hl2 ?_
    try simp only [letO_some, cellsOf?_agg, cellsOf?_int, cellsOf?_bool, cellsOf?_imm, cellsOf?_ref, cellsOf?_nils, faddr_iptr, faddr_ptr, List.drop_succ_cons, List.drop_zero, List.take_succ_cons, List.take_zero, load1_iptr, loadN_iptr, List.length_cons, List.length_nil, Nat.le_refl, if_true, List.getElem?_cons_zero, List.getElem?_cons_succ, List.getD_cons_zero, List.getD_cons_succ, extrF_tup, binF_add, binF_sub, binF_mul, binF_eql, binF_neq, binF_lss, binF_leq, binF_gtr, binF_geq, true_and, gval_bool, Int.reduceBNe, Int.reduceBEq, pickF_true, pickF_false, reduceIte, Bool.true_eq_false, Bool.false_eq_true, if_false, condA_tt, condA_ff, condG_tt, condG_ff, condG_tt', condG_ff', condG_undef, gval_undef]
    refine exJ ?_
    refine c31 hv hl hl2 ?_
    simp only [letO_some, cellsOf?_agg, cellsOf?_int, cellsOf?_bool, cellsOf?_imm, cellsOf?_ref, cellsOf?_nils, faddr_iptr, faddr_ptr, List.drop_succ_cons, List.drop_zero, List.take_succ_cons, List.take_zero, load1_iptr, loadN_iptr, List.length_cons, List.length_nil, Nat.le_refl, if_true, List.getElem?_cons_zero, List.getElem?_cons_succ, List.getD_cons_zero, List.getD_cons_succ, extrF_tup, binF_add, binF_sub, binF_mul, binF_eql, binF_neq, binF_lss, binF_leq, binF_gtr, binF_geq, true_and, gval_bool, Int.reduceBNe, Int.reduceBEq, pickF_true, pickF_false, reduceIte, Bool.true_eq_false, Bool.false_eq_true, if_false, condA_tt, condA_ff, condG_tt, condG_ff, condG_tt', condG_ff', condG_undef, gval_undef, beq_self_eq_true]
    refine exJ ?_
    refine c32 hv hu hl hl2 hl3 ?_
    try simp only [letO_some, cellsOf?_agg, cellsOf?_int, cellsOf?_bool, cellsOf?_imm, cellsOf?_ref, cellsOf?_nils, faddr_iptr, faddr_ptr, List.drop_succ_cons, List.drop_zero, List.take_succ_cons, List.take_zero, load1_iptr, loadN_iptr, List.length_cons, List.length_nil, Nat.le_refl, if_true, List.getElem?_cons_zero, List.getElem?_cons_succ, List.getD_cons_zero, List.getD_cons_succ, extrF_tup, binF_add, binF_sub, binF_mul, binF_eql, binF_neq, binF_lss, binF_leq, binF_gtr, binF_geq, true_and, gval_bool, Int.reduceBNe, Int.reduceBEq, pickF_true, pickF_false, reduceIte, Bool.true_eq_false, Bool.false_eq_true, if_false, condA_tt, condA_ff, condG_tt, condG_ff, condG_tt', condG_ff', condG_undef, gval_undef]
    refine exJ ?_
    refine c33 hv hu hl hl2 hl3 ?_
    simp only [letO_some, cellsOf?_agg, cellsOf?_int, cellsOf?_bool, cellsOf?_imm, cellsOf?_ref, cellsOf?_nils, faddr_iptr, faddr_ptr, List.drop_succ_cons, List.drop_zero, List.take_succ_cons, List.take_zero, load1_iptr, loadN_iptr, List.length_cons, List.length_nil, Nat.le_refl, if_true, List.getElem?_cons_zero, List.getElem?_cons_succ, List.getD_cons_zero, List.getD_cons_succ, extrF_tup, binF_add, binF_sub, binF_mul, binF_eql, binF_neq, binF_lss, binF_leq, binF_gtr, binF_geq, true_and, gval_bool, Int.reduceBNe, Int.reduceBEq, pickF_true, pickF_false, reduceIte, Bool.true_eq_false, Bool.false_eq_true, if_false, condA_tt, condA_ff, condG_tt, condG_ff, condG_tt', condG_ff', condG_undef, gval_undef, beq_self_eq_true]
    refine exJ ?_
    refine c17 ?_
    try simp only [letO_some, cellsOf?_agg, cellsOf?_int, cellsOf?_bool, cellsOf?_imm, cellsOf?_ref, cellsOf?_nils, faddr_iptr, faddr_ptr, List.drop_succ_cons, List.drop_zero, List.take_succ_cons, List.take_zero, load1_iptr, loadN_iptr, List.length_cons, List.length_nil, Nat.le_refl, if_true, List.getElem?_cons_zero, List.getElem?_cons_succ, List.getD_cons_zero, List.getD_cons_succ, extrF_tup, binF_add, binF_sub, binF_mul, binF_eql, binF_neq, binF_lss, binF_leq, binF_gtr, binF_geq, true_and, gval_bool, Int.reduceBNe, Int.reduceBEq, pickF_true, pickF_false, reduceIte, Bool.true_eq_false, Bool.false_eq_true, if_false, condA_tt, condA_ff, condG_tt, condG_ff, condG_tt', condG_ff', condG_undef, gval_undef]
    exact endK_ret hk
end Go.Proofs.YtbofkeoebnjjkaaDoor
namespace Go.Proofs.YtbofkeoebnjjkaaDoor.tablePlans
open Go.Av Tab
theorem law {t : List (List Int)} {p : List Int} (h0 : t.length ≤ maxLen) (h1 : ∀ m ∈ t, okL m) (h2 : okL p) : ACalls Tryd.prog 3 [tl t, sl p] Heap.none fun r _ => r = .bool true :=
  c3 (RT.tl _ _) (Reads.sl _ _) (Nat.lt_of_le_of_lt h0 (by decide)) (fun l hl => Nat.lt_of_le_of_lt (h1 l hl).1 (by decide)) (Nat.lt_of_le_of_lt h2.1 (by decide)) rfl
end Go.Proofs.YtbofkeoebnjjkaaDoor.tablePlans

namespace Go.Proofs.YtbofkeoebnjjkaaDoor
open Go.Av Tab
set_option linter.unusedVariables false
set_option linter.unusedSimpArgs false
set_option maxRecDepth 4000

theorem prodZ_K (t : Tb) (p : List Nat) : ∀ i, prodZ t (up p) i = prodK t p i
  | 0 => rfl
  | i + 1 => by rw [prodZ, prodK, prodZ_K t p i, up_getN]
theorem l72 {x y : AV} (hx : cellsOf? x = some [x]) (hy : cellsOf? y = some [y]) : literalF Tryd.prog 72 2 [(0, x), (1, y)] = some [x, y] := by
  rw [literalF_of (show literalPlan Tryd.prog 72 = some ([.nils], 1) by kernel_rfl) (by decide) (by simp)]
  simp [fillA, hx, hy, splice, rowOf, List.range_succ]
theorem sumP_snoc (t : Tb) (l : List (List Nat)) (p : List Nat) : sumP t (l ++ [p]) = sumP t l + prodK t p t.length := by simp [sumP]
/-- TableWaerden -/
theorem c9 {g : List Nat} {H : Heap} {K : AV → Heap → Prop} (hg : Led g) (hk : K (.bool true) H) : ACalls Tryd.prog 9 [.agg (u8s g)] H K := by
  apply W9_ok
  unfold W9
  have hb := gsz_bd g
  simp only [letO_some, cellsOf?_agg, cellsOf?_int, cellsOf?_bool, cellsOf?_imm, cellsOf?_ref, cellsOf?_nils, faddr_iptr, faddr_ptr, List.drop_succ_cons, List.drop_zero, List.take_succ_cons, List.take_zero, load1_iptr, loadN_iptr, List.length_cons, List.length_nil, Nat.le_refl, if_true, List.getElem?_cons_zero, List.getElem?_cons_succ, List.getD_cons_zero, List.getD_cons_succ, extrF_tup, binF_add, binF_sub, binF_mul, binF_eql, binF_neq, binF_lss, binF_leq, binF_gtr, binF_geq, true_and, hg.all]
  refine c44 (most := 8) hg ⟨by omega, by omega⟩ ?_
  have hk8 : evenN g 8 ≤ 8 := by have := Nat.mod_lt (gv g 1) (show 8 + 1 > 0 by omega); unfold evenN; omega
  have hchk : chkT (evenT g 8) = 0 := evenK_chk g (by omega)
  have hlen : (evenT g 8).length = gsz g := evenK_len g _
  have hsum : ∀ r, r < (evenT g 8).length → rowS (evenT g 8) r (evenT g 8).length = (evenN g 8 : Nat) ∧ colS (evenT g 8) r (evenT g 8).length = (evenN g 8 : Nat) := fun r hr => by
    rw [hlen] at hr ⊢
    exact evenK_sums g _ r hr
  have hvl := (RT.tl H (evenT g 8)).len
  simp only [letO_some, cellsOf?_agg, cellsOf?_int, cellsOf?_bool, cellsOf?_imm, cellsOf?_ref, cellsOf?_nils, faddr_iptr, faddr_ptr, List.drop_succ_cons, List.drop_zero, List.take_succ_cons, List.take_zero, load1_iptr, loadN_iptr, List.length_cons, List.length_nil, Nat.le_refl, if_true, List.getElem?_cons_zero, List.getElem?_cons_succ, List.getD_cons_zero, List.getD_cons_succ, extrF_tup, binF_add, binF_sub, binF_mul, binF_eql, binF_neq, binF_lss, binF_leq, binF_gtr, binF_geq, true_and, hvl, hg.all]
  refine c54 hg ?_
  have hchk2 := freeT_chk g
  have hlen2 := freeT_length g
  generalize evenT g 8 = t at *
  generalize evenN g 8 = k at *
  generalize freeT g = u at *
  generalize gsz g = n at *
  have hsl : ∀ {t : Tb}, chkT t = 0 → ∀ l ∈ t, l.length < 2 ^ 63 := fun {t} hchk l hl => Nat.lt_of_le_of_lt (Nat.le_trans (Nat.le_of_eq ((chkT_ok hchk).2.2 l hl).1) (chkT_ok hchk).2.1) (by decide)
  have h2l : lenA (.imm 2 true [tl t, tl u]) = some (.int .i64 2) := rfl
  simp only [l72 (show cellsOf? (tl t) = some [tl t] from rfl) (show cellsOf? (tl u) = some [tl u] from rfl), letO_some, h2l, hlen]
  refine ⟨fun L H' => ∃ i : Nat, eqt L [.int .i64 i] ∧ i ≤ 2 ∧ eqt H' H, fun L _ => (2 - iv L 0).toNat, ⟨0, rfl, by omega, rfl⟩, ?_⟩
  rintro L H' ⟨i, rfl, hi, rfl⟩
  try simp only [letO_some, cellsOf?_agg, cellsOf?_int, cellsOf?_bool, cellsOf?_imm, cellsOf?_ref, cellsOf?_nils, faddr_iptr, faddr_ptr, List.drop_succ_cons, List.drop_zero, List.take_succ_cons, List.take_zero, load1_iptr, loadN_iptr, List.length_cons, List.length_nil, Nat.le_refl, if_true, List.getElem?_cons_zero, List.getElem?_cons_succ, List.getD_cons_zero, List.getD_cons_succ, extrF_tup, binF_add, binF_sub, binF_mul, binF_eql, binF_neq, binF_lss, binF_leq, binF_gtr, binF_geq, true_and]
  refine condA_t (fun hlt => ?_) (fun hge => ?_)
  · have a1 : i < 2 := by omega
    obtain ⟨x, hx1, hx2, hxe⟩ : ∃ x : Tb, chkT x = 0 ∧ x.length = n ∧ ([tl t, tl u] : List AV)[i]? = some (tl x) := by
      have : i = 0 ∨ i = 1 := by omega
      rcases this with rfl | rfl
      · exact ⟨t, hchk, hlen, rfl⟩
      · exact ⟨u, hchk2, hlen2, rfl⟩
    have hget : ∀ k : AV → Prop, k (tl x) → letO (idx 1 (.imm 2 true [tl t, tl u]) (.int .i64 (i : Int))) fun q => letO (load1 q H') k := by
      intro k hk
      refine ReadsC.get (v := .imm 2 true [tl t, tl u]) (Heap.le_refl H') (n := 2) (cells := [tl t, tl u]) ⟨rfl, rfl, rfl⟩ (x := tl x) (by omega) (by omega) (by rw [Int.toNat_natCast]; exact hxe) hk
    refine hget _ ?_
    try simp only [letO_some, cellsOf?_agg, cellsOf?_int, cellsOf?_bool, cellsOf?_imm, cellsOf?_ref, cellsOf?_nils, faddr_iptr, faddr_ptr, List.drop_succ_cons, List.drop_zero, List.take_succ_cons, List.take_zero, load1_iptr, loadN_iptr, List.length_cons, List.length_nil, Nat.le_refl, if_true, List.getElem?_cons_zero, List.getElem?_cons_succ, List.getD_cons_zero, List.getD_cons_succ, extrF_tup, binF_add, binF_sub, binF_mul, binF_eql, binF_neq, binF_lss, binF_leq, binF_gtr, binF_geq, true_and]
    refine c45 hb ?_
    have hPl := plansS_len hb.2
    have hPm : ∀ p ∈ plansS n, p.length = n ∧ ∀ c ∈ p, c < n := fun p hp => plansS_mem hp
    have hPL := (RT.tl H' ((plansS n).map up)).len
    have hw : (weightE x).1 = sumP x (plansS n) := by rw [weightE_eq hx1, hx2]
    have hxr : ∀ r, r < n → (row x r).length = n := fun r hr => by rw [← hx2]; exact row_len hx1 (by rw [hx2]; exact hr)
    generalize hPP : plansS n = P at *
    rw [List.length_map] at hPL
    simp only [letO_some, cellsOf?_agg, cellsOf?_int, cellsOf?_bool, cellsOf?_imm, cellsOf?_ref, cellsOf?_nils, faddr_iptr, faddr_ptr, List.drop_succ_cons, List.drop_zero, List.take_succ_cons, List.take_zero, load1_iptr, loadN_iptr, List.length_cons, List.length_nil, Nat.le_refl, if_true, List.getElem?_cons_zero, List.getElem?_cons_succ, List.getD_cons_zero, List.getD_cons_succ, extrF_tup, binF_add, binF_sub, binF_mul, binF_eql, binF_neq, binF_lss, binF_leq, binF_gtr, binF_geq, true_and, hPL]
    refine ⟨fun L H'' => ∃ j : Nat, eqt L [.int .i64 (sumP x (P.take j)), .int .i64 j] ∧ j ≤ P.length ∧ eqt H'' H', fun L _ => (P.length - iv L 1).toNat, ⟨0, rfl, by omega, rfl⟩, ?_⟩
    rintro L H'' ⟨j, rfl, hj, rfl⟩
    try simp only [letO_some, cellsOf?_agg, cellsOf?_int, cellsOf?_bool, cellsOf?_imm, cellsOf?_ref, cellsOf?_nils, faddr_iptr, faddr_ptr, List.drop_succ_cons, List.drop_zero, List.take_succ_cons, List.take_zero, load1_iptr, loadN_iptr, List.length_cons, List.length_nil, Nat.le_refl, if_true, List.getElem?_cons_zero, List.getElem?_cons_succ, List.getD_cons_zero, List.getD_cons_succ, extrF_tup, binF_add, binF_sub, binF_mul, binF_eql, binF_neq, binF_lss, binF_leq, binF_gtr, binF_geq, true_and]
    refine condA_t (fun hlt2 => ?_) (fun hge2 => ?_)
    · have b1 : j < P.length := by omega
      have hgp : ∀ k : AV → Prop, k (sl (up P[j])) → letO (idx 1 (tl (P.map up)) (.int .i64 (j : Int))) fun q => letO (load1 q H'') k := by
        intro k hk
        refine ReadsC.get (Heap.le_refl H'') (n := P.length) (cells := (P.map up).map sl) ⟨by simp, by simp [tl]⟩ (x := sl (up P[j])) (by omega) (by omega) ?_ hk
        simp [b1]
      refine hgp _ ?_
      obtain ⟨p1, p2⟩ := hPm P[j] (List.getElem_mem b1)
      try simp only [letO_some, cellsOf?_agg, cellsOf?_int, cellsOf?_bool, cellsOf?_imm, cellsOf?_ref, cellsOf?_nils, faddr_iptr, faddr_ptr, List.drop_succ_cons, List.drop_zero, List.take_succ_cons, List.take_zero, load1_iptr, loadN_iptr, List.length_cons, List.length_nil, Nat.le_refl, if_true, List.getElem?_cons_zero, List.getElem?_cons_succ, List.getD_cons_zero, List.getD_cons_succ, extrF_tup, binF_add, binF_sub, binF_mul, binF_eql, binF_neq, binF_lss, binF_leq, binF_gtr, binF_geq, true_and]
      refine c48 (RT.tl _ _) (Reads.sl _ _) (by rw [up_length]; omega) (by rw [up_length]; omega) (fun r c => by have := cell_rng hx1 r c; omega) (fun r hr => by
        rw [up_length, p1] at hr
        have hm := p2 _ (getD_mem (l := P[j]) (i := r) (d := 0) (by omega))
        rw [up_getD, hxr r hr]
        omega) ?_
      rw [up_length, p1, prodZ_K]
      have s1 := sumP_bd hx1 (P.take j)
      have s2 := sumP_bd hx1 (P.take (j + 1))
      have hst : sumP x (P.take j) + prodK x P[j] n = sumP x (P.take (j + 1)) := by
        rw [take_snoc b1, sumP_snoc, hx2]
      have l1 : (P.take j).length ≤ 256 := by rw [List.length_take]; omega
      have l2 : (P.take (j + 1)).length ≤ 256 := by rw [List.length_take]; omega
      simp only [letO_some, cellsOf?_agg, cellsOf?_int, cellsOf?_bool, cellsOf?_imm, cellsOf?_ref, cellsOf?_nils, faddr_iptr, faddr_ptr, List.drop_succ_cons, List.drop_zero, List.take_succ_cons, List.take_zero, load1_iptr, loadN_iptr, List.length_cons, List.length_nil, Nat.le_refl, if_true, List.getElem?_cons_zero, List.getElem?_cons_succ, List.getD_cons_zero, List.getD_cons_succ, extrF_tup, binF_add, binF_sub, binF_mul, binF_eql, binF_neq, binF_lss, binF_leq, binF_gtr, binF_geq, true_and, hst]
      rw [wrap_i64 (n := sumP x (P.take (j + 1))) (by omega) (by omega), wrap_i64 (by omega) (by omega)]
      exact ⟨⟨j + 1, rfl, by omega, rfl⟩, by simp <;> omega⟩
    have hje : j = P.length := by omega
    subst hje
    rw [List.take_length]
    try simp only [letO_some, cellsOf?_agg, cellsOf?_int, cellsOf?_bool, cellsOf?_imm, cellsOf?_ref, cellsOf?_nils, faddr_iptr, faddr_ptr, List.drop_succ_cons, List.drop_zero, List.take_succ_cons, List.take_zero, load1_iptr, loadN_iptr, List.length_cons, List.length_nil, Nat.le_refl, if_true, List.getElem?_cons_zero, List.getElem?_cons_succ, List.getD_cons_zero, List.getD_cons_succ, extrF_tup, binF_add, binF_sub, binF_mul, binF_eql, binF_neq, binF_lss, binF_leq, binF_gtr, binF_geq, true_and]
    refine c25 (RT.tl _ _) (by omega) (hsl hx1) ?_
    rw [hw, hx1]
    simp only [letO_some, cellsOf?_agg, cellsOf?_int, cellsOf?_bool, cellsOf?_imm, cellsOf?_ref, cellsOf?_nils, faddr_iptr, faddr_ptr, List.drop_succ_cons, List.drop_zero, List.take_succ_cons, List.take_zero, load1_iptr, loadN_iptr, List.length_cons, List.length_nil, Nat.le_refl, if_true, List.getElem?_cons_zero, List.getElem?_cons_succ, List.getD_cons_zero, List.getD_cons_succ, extrF_tup, binF_add, binF_sub, binF_mul, binF_eql, binF_neq, binF_lss, binF_leq, binF_gtr, binF_geq, true_and, gval_bool, Int.reduceBNe, Int.reduceBEq, pickF_true, pickF_false, reduceIte, Bool.true_eq_false, Bool.false_eq_true, if_false, condA_tt, condA_ff, condG_tt, condG_ff, condG_tt', condG_ff', condG_undef, gval_undef, bne_self_eq_false]
    rw [wrap_i64 (by omega) (by omega)]
    exact ⟨⟨i + 1, rfl, by omega, rfl⟩, by simp <;> omega⟩
  try simp only [letO_some, cellsOf?_agg, cellsOf?_int, cellsOf?_bool, cellsOf?_imm, cellsOf?_ref, cellsOf?_nils, faddr_iptr, faddr_ptr, List.drop_succ_cons, List.drop_zero, List.take_succ_cons, List.take_zero, load1_iptr, loadN_iptr, List.length_cons, List.length_nil, Nat.le_refl, if_true, List.getElem?_cons_zero, List.getElem?_cons_succ, List.getD_cons_zero, List.getD_cons_succ, extrF_tup, binF_add, binF_sub, binF_mul, binF_eql, binF_neq, binF_lss, binF_leq, binF_gtr, binF_geq, true_and]
  refine c25 (RT.tl _ _) (by omega) (hsl hchk) ?_
  have hwd := waerden hchk hk8 hsum
  have hwb := sumP_bd hchk (plansS t.length)
  rw [← weightE_eq hchk] at hwb
  have hpl := plansS_len (show t.length ≤ 4 by omega)
  rw [hchk]
  simp only [letO_some, cellsOf?_agg, cellsOf?_int, cellsOf?_bool, cellsOf?_imm, cellsOf?_ref, cellsOf?_nils, faddr_iptr, faddr_ptr, List.drop_succ_cons, List.drop_zero, List.take_succ_cons, List.take_zero, load1_iptr, loadN_iptr, List.length_cons, List.length_nil, Nat.le_refl, if_true, List.getElem?_cons_zero, List.getElem?_cons_succ, List.getD_cons_zero, List.getD_cons_succ, extrF_tup, binF_add, binF_sub, binF_mul, binF_eql, binF_neq, binF_lss, binF_leq, binF_gtr, binF_geq, true_and]
  rw [hlen] at hwd
  have hw0 : 0 ≤ (weightE t).1 := hwb.1
  have hw1 : (weightE t).1 ≤ 1679616 := by omega
  generalize (weightE t).1 = w at *
  have hleft : ∀ i, i ≤ 4 → 0 ≤ w * ((n ^ i : Nat) : Int) ∧ w * ((n ^ i : Nat) : Int) ≤ 1679616 * 256 := fun i hi => by
    have h1 : n ^ i ≤ 4 ^ i := Nat.pow_le_pow_left hb.2 i
    have h2 : 4 ^ i ≤ 4 ^ 4 := Nat.pow_le_pow_right (by decide) hi
    have h3 : ((n ^ i : Nat) : Int) ≤ 256 := by have : n ^ i ≤ 256 := Nat.le_trans h1 h2; omega
    exact ⟨Int.mul_nonneg hw0 (by omega), Int.mul_le_mul hw1 h3 (by omega) (by decide)⟩
  refine ⟨fun L H'' => ∃ i : Nat, eqt L [.int .i64 (w * ((n ^ i : Nat) : Int)), .int .i64 (rgt k i : Nat), .int .i64 i] ∧ i ≤ n ∧ eqt H'' H', fun L _ => (n - iv L 2).toNat, ⟨0, by simp [eqt, rgt], by omega, rfl⟩, ?_⟩
  rintro L H'' ⟨i, rfl, hi, rfl⟩
  try simp only [letO_some, cellsOf?_agg, cellsOf?_int, cellsOf?_bool, cellsOf?_imm, cellsOf?_ref, cellsOf?_nils, faddr_iptr, faddr_ptr, List.drop_succ_cons, List.drop_zero, List.take_succ_cons, List.take_zero, load1_iptr, loadN_iptr, List.length_cons, List.length_nil, Nat.le_refl, if_true, List.getElem?_cons_zero, List.getElem?_cons_succ, List.getD_cons_zero, List.getD_cons_succ, extrF_tup, binF_add, binF_sub, binF_mul, binF_eql, binF_neq, binF_lss, binF_leq, binF_gtr, binF_geq, true_and]
  refine condA_t (fun hlt2 => ?_) (fun hge2 => ?_)
  · have b1 : i < n := by omega
    have q1 := hleft (i + 1) (by omega)
    have q2 := rgt_bd hk8 (i + 1) (by omega)
    have q3 : 32 ^ (i + 1) ≤ 32 ^ 4 := Nat.pow_le_pow_right (by decide) (by omega)
    have e1 : w * ((n ^ i : Nat) : Int) * (n : Int) = w * ((n ^ (i + 1) : Nat) : Int) := by rw [Int.mul_assoc, ← Int.natCast_mul, Nat.pow_succ]
    have e2 : ((rgt k i : Nat) : Int) * ((k : Int) * ((i : Int) + 1)) = ((rgt k (i + 1) : Nat) : Int) := by rw [rgt, Int.natCast_mul, Int.natCast_mul, Int.natCast_add]; rfl
    have q4 : k * (i + 1) ≤ 8 * 4 := Nat.mul_le_mul hk8 (by omega)
    have e3 : (k : Int) * ((i : Int) + 1) = ((k * (i + 1) : Nat) : Int) := by rw [Int.natCast_mul, Int.natCast_add]; rfl
    rw [wrap_i64 (n := (i : Int) + 1) (by omega) (by omega), wrap_i64 (n := (k : Int) * ((i : Int) + 1)) (by omega) (by omega), e1, e2, wrap_i64 (by omega) (by omega), wrap_i64 (by omega) (by omega)]
    exact ⟨⟨i + 1, rfl, by omega, rfl⟩, by simp <;> omega⟩
  have hie : i = n := by omega
  subst hie
  refine c49 ⟨hb.1, by omega⟩ fun bo cells H1 hP => ?_
  rw [← flatK_zero (k : Int)] at hP
  try simp only [letO_some, cellsOf?_agg, cellsOf?_int, cellsOf?_bool, cellsOf?_imm, cellsOf?_ref, cellsOf?_nils, faddr_iptr, faddr_ptr, List.drop_succ_cons, List.drop_zero, List.take_succ_cons, List.take_zero, load1_iptr, loadN_iptr, List.length_cons, List.length_nil, Nat.le_refl, if_true, List.getElem?_cons_zero, List.getElem?_cons_succ, List.getD_cons_zero, List.getD_cons_succ, extrF_tup, binF_add, binF_sub, binF_mul, binF_eql, binF_neq, binF_lss, binF_leq, binF_gtr, binF_geq, true_and]
  refine ⟨fun L H' => ∃ r : Nat, eqt L [.int .i64 r] ∧ r ≤ i ∧ PT H'' H' bo cells (flatK k i r 0), fun L _ => (i - iv L 0).toNat, ⟨0, rfl, by omega, hP⟩, ?_⟩
  rintro L H2 ⟨r, rfl, hr, hQ⟩
  try simp only [letO_some, cellsOf?_agg, cellsOf?_int, cellsOf?_bool, cellsOf?_imm, cellsOf?_ref, cellsOf?_nils, faddr_iptr, faddr_ptr, List.drop_succ_cons, List.drop_zero, List.take_succ_cons, List.take_zero, load1_iptr, loadN_iptr, List.length_cons, List.length_nil, Nat.le_refl, if_true, List.getElem?_cons_zero, List.getElem?_cons_succ, List.getD_cons_zero, List.getD_cons_succ, extrF_tup, binF_add, binF_sub, binF_mul, binF_eql, binF_neq, binF_lss, binF_leq, binF_gtr, binF_geq, true_and]
  refine condA_t (fun hlt3 => ?_) (fun hge3 => ?_)
  · have b1 : r < i := by omega
    refine ⟨fun L H' => ∃ c : Nat, eqt L [.int .i64 c] ∧ c ≤ i ∧ PT H'' H' bo cells (flatK k i r c), fun L _ => (i - iv L 0).toNat, ⟨0, rfl, by omega, hQ⟩, ?_⟩
    rintro L H3 ⟨c, rfl, hc, hQ⟩
    try simp only [letO_some, cellsOf?_agg, cellsOf?_int, cellsOf?_bool, cellsOf?_imm, cellsOf?_ref, cellsOf?_nils, faddr_iptr, faddr_ptr, List.drop_succ_cons, List.drop_zero, List.take_succ_cons, List.take_zero, load1_iptr, loadN_iptr, List.length_cons, List.length_nil, Nat.le_refl, if_true, List.getElem?_cons_zero, List.getElem?_cons_succ, List.getD_cons_zero, List.getD_cons_succ, extrF_tup, binF_add, binF_sub, binF_mul, binF_eql, binF_neq, binF_lss, binF_leq, binF_gtr, binF_geq, true_and]
    refine condA_t (fun hlt4 => ?_) (fun hge4 => ?_)
    · have c1 : c < i := by omega
      obtain ⟨w', q, q1, q2, q3, q4, q5⟩ := PT.cell none hQ (r := r) (c := c) (by simpa using b1) (by rw [flatK_get b1]; simpa using c1)
      rw [flatK_length] at q1
      simp only [q1, q2, q3, letO_some]
      refine q5 (k : Int) _ fun H4 hQ4 => ?_
      rw [flatK_step b1 c1] at hQ4
      rw [wrap_i64 (by omega) (by omega)]
      exact ⟨⟨c + 1, rfl, by omega, hQ4⟩, by simp <;> omega⟩
    · have hce : c = i := by omega
      subst hce
      rw [flatK_next] at hQ
      rw [wrap_i64 (by omega) (by omega)]
      exact ⟨⟨r + 1, rfl, by omega, hQ⟩, by simp <;> omega⟩
  have hre : r = i := by omega
  subst hre
  have hRQ := hQ.rt none
  rw [flatK_length] at hRQ
  have hf1 := flat_chk ⟨r, by omega⟩ ⟨k, by omega⟩ (by simp only; omega)
  have hf2 := flat_weight ⟨r, by omega⟩ ⟨k, by omega⟩ (by simp only; omega)
  simp only at hf1 hf2
  refine c25 hRQ (by rw [flatK_length]; omega) (hsl hf1) ?_
  rw [hf1, hf2]
  have hge5 : decide (w * ((r ^ r : Nat) : Int) < (rgt k r : Int)) = false := decide_eq_false (by omega)
  have hge6 : decide ((rgt k r : Int) ≤ w * ((r ^ r : Nat) : Int)) = true := decide_eq_true hwd
  simp only [letO_some, cellsOf?_agg, cellsOf?_int, cellsOf?_bool, cellsOf?_imm, cellsOf?_ref, cellsOf?_nils, faddr_iptr, faddr_ptr, List.drop_succ_cons, List.drop_zero, List.take_succ_cons, List.take_zero, load1_iptr, loadN_iptr, List.length_cons, List.length_nil, Nat.le_refl, if_true, List.getElem?_cons_zero, List.getElem?_cons_succ, List.getD_cons_zero, List.getD_cons_succ, extrF_tup, binF_add, binF_sub, binF_mul, binF_eql, binF_neq, binF_lss, binF_leq, binF_gtr, binF_geq, true_and, gval_bool, Int.reduceBNe, Int.reduceBEq, pickF_true, pickF_false, reduceIte, Bool.true_eq_false, Bool.false_eq_true, if_false, condA_tt, condA_ff, condG_tt, condG_ff, condG_tt', condG_ff', condG_undef, gval_undef, beq_self_eq_true, hge6]
  refine exJ ?_
  refine c17 ?_
  try simp only [letO_some, cellsOf?_agg, cellsOf?_int, cellsOf?_bool, cellsOf?_imm, cellsOf?_ref, cellsOf?_nils, faddr_iptr, faddr_ptr, List.drop_succ_cons, List.drop_zero, List.take_succ_cons, List.take_zero, load1_iptr, loadN_iptr, List.length_cons, List.length_nil, Nat.le_refl, if_true, List.getElem?_cons_zero, List.getElem?_cons_succ, List.getD_cons_zero, List.getD_cons_succ, extrF_tup, binF_add, binF_sub, binF_mul, binF_eql, binF_neq, binF_lss, binF_leq, binF_gtr, binF_geq, true_and, gval_bool, Int.reduceBNe, Int.reduceBEq, pickF_true, pickF_false, reduceIte, Bool.true_eq_false, Bool.false_eq_true, if_false, condA_tt, condA_ff, condG_tt, condG_ff, condG_tt', condG_ff', condG_undef, gval_undef]
  exact endK_le hQ.le hk
end Go.Proofs.YtbofkeoebnjjkaaDoor
namespace Go.Proofs.YtbofkeoebnjjkaaDoor.tableWaerden
open Go.Av Tab
theorem law {g : List Nat} (h0 : g.length = 27) (h1 : ∀ x ∈ g, x < 256) : ACalls Tryd.prog 9 [.agg (g.map fun (x : Nat) => .int .u8 (x : Int))] Heap.none fun r _ => r = .bool true :=
  c9 ⟨h0, h1⟩ rfl
end Go.Proofs.YtbofkeoebnjjkaaDoor.tableWaerden
