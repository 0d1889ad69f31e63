import Derived.Test.YtbofkeoebnjjkaaDoorLAddedP1
import Derived.Test.YtbofkeoebnjjkaaDoorConA
import Derived.Test.YtbofkeoebnjjkaaDoorConB
import Derived.Test.YtbofkeoebnjjkaaDoorBase
import Derived.Test.YtbofkeoebnjjkaaDoorAvB
import Derived.Test.YtbofkeoebnjjkaaDoorRows
import Derived.MakeChecks
import Derived.LaidLaws
import Derived.Deep.DeepLaidRun
import Derived.LaidHandle
import Derived.Test.YtbofkeoebnjjkaaDoorTie
import Derived.Test.YtbofkeoebnjjkaaDoorCards
import Derived.SevenTiedAt
/- TableAdded: for every input the law returns true, and the input reads as before. No conditions. -/
namespace Go.Proofs.YtbofkeoebnjjkaaDoor
open Go.Av Tab
set_option linter.unusedVariables false
set_option linter.unusedSimpArgs false
set_option maxRecDepth 4000

/-- All ways to go on with an ascending list. -/
def exL (n : Nat) : Nat → Nat → List (List Nat)
  | 0, _ => [[]]
  | f + 1, fr => (List.range (n - fr)).flatMap fun m => (exL n f (fr + m + 1)).map ((fr + m) :: ·)
def exLTo (n f fr k : Nat) : List (List Nat) := (List.range k).flatMap fun m => (exL n f (fr + m + 1)).map ((fr + m) :: ·)
theorem exLTo_succ (n f fr k : Nat) : exLTo n f fr (k + 1) = exLTo n f fr k ++ (exL n f (fr + k + 1)).map ((fr + k) :: ·) := by
  simp [exLTo, List.range_succ]
theorem exLTo_len {n f fr B : Nat} (h : ∀ c, (exL n f c).length ≤ B) (m : Nat) : (exLTo n f fr m).length ≤ m * B := by
  induction m with
  | zero => simp [exLTo]
  | succ m ih =>
    rw [exLTo_succ, List.length_append, Nat.add_mul, Nat.one_mul, List.length_map]
    have := h (fr + m + 1)
    omega
theorem exL_len {n : Nat} : ∀ (f fr : Nat), (exL n f fr).length ≤ n ^ f
  | 0, fr => by simp [exL]
  | f + 1, fr => by
    have h1 := exLTo_len (n := n) (f := f) (fr := fr) (fun c => exL_len f c) (n - fr)
    have h2 : (n - fr) * n ^ f ≤ n * n ^ f := Nat.mul_le_mul_right _ (by omega)
    rw [Nat.pow_succ, Nat.mul_comm]
    exact Nat.le_trans h1 h2
def plVL (n f fr : Nat) (E : List Nat) (x : AV) : AV :=
  if f = 0 then .imm 1 false [x] else .imm (exL n f fr).length false ((exL n f fr).map fun G => sl (up (E ++ G)))
def lastF (E : List Nat) : Nat := if E.length = 0 then 0 else E.getD (E.length - 1) 0 + 1
theorem lastF_snoc (E : List Nat) (c : Nat) : lastF (E ++ [c]) = c + 1 := by
  rw [lastF, if_neg (by simp)]
  simp [List.getD_eq_getElem?_getD]
/-- ref.lists -/
theorem c85 {n many : Nat} (hn : n ≤ 4) : ∀ (f fr : Nat) (E : List Nat) (x : AV) (H : Heap) (K : AV → Heap → Prop), Reads H x (up E) → E.length + f = many → lastF E = fr → fr ≤ n → many ≤ 4 →
    K (plVL n f fr E x) H → ACalls Tryd.prog 85 [.int .i64 n, .int .i64 many, x] H K := by
  intro f
  induction f with
  | zero =>
    intro fr E x H K hx he hfr hfn hm4 hk
    apply W85_ok
    unfold W85
    have hxl := hx.len
    rw [up_length] at hxl
    have e1 : ((E.length : Int) == (many : Int)) = true := by rw [← he]; exact beq_self_eq_true _
    simp only [letO_some, cellsOf?_agg, cellsOf?_int, cellsOf?_bool, cellsOf?_imm, cellsOf?_ref, cellsOf?_nils, faddr_iptr, faddr_ptr, List.drop_succ_cons, List.drop_zero, List.take_succ_cons, List.take_zero, load1_iptr, loadN_iptr, List.length_cons, List.length_nil, Nat.le_refl, if_true, List.getElem?_cons_zero, List.getElem?_cons_succ, List.getD_cons_zero, List.getD_cons_succ, extrF_tup, binF_add, binF_sub, binF_mul, binF_eql, binF_neq, binF_lss, binF_leq, binF_gtr, binF_geq, true_and, hxl, e1, condA_tt, l22 hx.cells]
    rw [plVL, if_pos rfl] at hk
    exact endK_weak (endK_ret hk)
  | succ f ih =>
    intro fr E x H K hx he hfr hfn hm4 hk
    apply W85_ok
    unfold W85
    have hxl := hx.len
    rw [up_length] at hxl
    have e1 : ((E.length : Int) == (many : Int)) = false := by rw [beq_eq_false_iff_ne]; omega
    simp only [letO_some, cellsOf?_agg, cellsOf?_int, cellsOf?_bool, cellsOf?_imm, cellsOf?_ref, cellsOf?_nils, faddr_iptr, faddr_ptr, List.drop_succ_cons, List.drop_zero, List.take_succ_cons, List.take_zero, load1_iptr, loadN_iptr, List.length_cons, List.length_nil, Nat.le_refl, if_true, List.getElem?_cons_zero, List.getElem?_cons_succ, List.getD_cons_zero, List.getD_cons_succ, extrF_tup, binF_add, binF_sub, binF_mul, binF_eql, binF_neq, binF_lss, binF_leq, binF_gtr, binF_geq, true_and, hxl, e1, condA_ff]
    rw [plVL, if_neg (by omega)] at hk
    have hB : ∀ c, (exL n f c).length ≤ 4 ^ 4 := fun c => by
      have h1 := exL_len (n := n) f c
      have h2 : n ^ f ≤ 4 ^ f := Nat.pow_le_pow_left hn f
      have h3 : 4 ^ f ≤ 4 ^ 4 := Nat.pow_le_pow_right (by decide) (by omega)
      omega
    refine ⟨fun L H' => eqt L [.int .i64 fr] ∧ eqt H' H, ?_, ?_⟩
    · refine condA_t (fun hpos => ?_) (fun hz => ?_)
      · have h0 : 0 < E.length := by omega
        rw [wrap_i64 (by omega) (by omega)]
        have e2 : ((E.length : Int) - 1) = ((E.length - 1 : Nat) : Int) := by omega
        rw [e2]
        refine hx.get (Heap.le_refl _) (by omega) (by rw [up_length]; omega) ?_
        rw [Int.toNat_natCast, up_getD]
        rw [lastF, if_neg (by omega)] at hfr
        try simp only [letO_some, cellsOf?_agg, cellsOf?_int, cellsOf?_bool, cellsOf?_imm, cellsOf?_ref, cellsOf?_nils, faddr_iptr, faddr_ptr, List.drop_succ_cons, List.drop_zero, List.take_succ_cons, List.take_zero, load1_iptr, loadN_iptr, List.length_cons, List.length_nil, Nat.le_refl, if_true, List.getElem?_cons_zero, List.getElem?_cons_succ, List.getD_cons_zero, List.getD_cons_succ, extrF_tup, binF_add, binF_sub, binF_mul, binF_eql, binF_neq, binF_lss, binF_leq, binF_gtr, binF_geq, true_and]
        rw [wrap_i64 (by omega) (by omega)]
        refine ⟨?_, rfl⟩
        unfold eqt
        congr 2
        omega
      · rw [lastF, if_pos (by omega)] at hfr
        subst hfr
        exact ⟨rfl, rfl⟩
    rintro L Hq ⟨rfl, rfl⟩
    try simp only [letO_some, cellsOf?_agg, cellsOf?_int, cellsOf?_bool, cellsOf?_imm, cellsOf?_ref, cellsOf?_nils, faddr_iptr, faddr_ptr, List.drop_succ_cons, List.drop_zero, List.take_succ_cons, List.take_zero, load1_iptr, loadN_iptr, List.length_cons, List.length_nil, Nat.le_refl, if_true, List.getElem?_cons_zero, List.getElem?_cons_succ, List.getD_cons_zero, List.getD_cons_succ, extrF_tup, binF_add, binF_sub, binF_mul, binF_eql, binF_neq, binF_lss, binF_leq, binF_gtr, binF_geq, true_and]
    refine ⟨fun L H' => ∃ (m : Nat) (X : AV) (xs : List AV) (H1 : Heap), eqt L [X, .int .i64 ((fr + m : Nat) : Int)] ∧ fr + m ≤ n ∧ Hq.le H1 ∧ Grow 1 H1 H' X xs.length xs ∧ ∀ H2, H1.le H2 → xs.map (conv Hq H2 1) = (exLTo n f fr m).map fun G => sl (up (E ++ G)), fun L _ => (n - iv L 1).toNat,
      ⟨0, .nils, [], Hq, rfl, by omega, Heap.le_refl _, Grow.nils 1 Hq, fun _ _ => by simp [exLTo]⟩, ?_⟩
    intro L H' hI
    obtain ⟨m, X, xs, H1, rfl, hm, hle1, hg, hxs⟩ := hI
    have hleH : Hq.le H' := Heap.le_trans hle1 hg.le
    have hxslen : xs.length = (exLTo n f fr m).length := by
      have := congrArg List.length (hxs H1 (Heap.le_refl _)); simpa using this
    have hxb := exLTo_len (n := n) (f := f) (fr := fr) hB m
    have hxb2 : m * 4 ^ 4 ≤ 4 * 4 ^ 4 := Nat.mul_le_mul_right _ (by omega)
    try simp only [letO_some, cellsOf?_agg, cellsOf?_int, cellsOf?_bool, cellsOf?_imm, cellsOf?_ref, cellsOf?_nils, faddr_iptr, faddr_ptr, List.drop_succ_cons, List.drop_zero, List.take_succ_cons, List.take_zero, load1_iptr, loadN_iptr, List.length_cons, List.length_nil, Nat.le_refl, if_true, List.getElem?_cons_zero, List.getElem?_cons_succ, List.getD_cons_zero, List.getD_cons_succ, extrF_tup, binF_add, binF_sub, binF_mul, binF_eql, binF_neq, binF_lss, binF_leq, binF_gtr, binF_geq, true_and]
    refine condA_t (fun hlt => ?_) (fun hgt => ?_)
    · have hmn : fr + m < n := by omega
      simp only [l23n, l23 cellsOf?_int, letO_some]
      refine appendA_grow (Grow.imm (H := H') (sz := 1) (n := 0) (cells := []) rfl) (reads_src (hx.le hleH)) (by simp [ints, isScalar]) (by simp) (by rw [up_length]; omega) (by rw [up_length]; omega) fun t36 H12 g36 => ?_
      rw [List.nil_append, Nat.zero_add, up_length] at g36
      refine appendA_oneR g36 (by omega) fun t39 H13 g39 o39 => ?_
      have hup : up E ++ [((fr + m : Nat) : Int)] = up (E ++ [fr + m]) := by simp [up]
      rw [hup] at g39
      have hr39 := g39.reads
      obtain ⟨b13, hb13, rfl, rfl⟩ := g39.own o39
      have hle13 : H'.le (H'.put b13 (ints (up (E ++ [fr + m])))) := Heap.le_put_self hb13
      refine ih (fr + m + 1) (E ++ [fr + m]) _ _ _ hr39 (by simp; omega) (lastF_snoc _ _) (by omega) hm4 ?_
      have hb1 := fresh_of hg.le hb13
      have hbH := fresh_of hle1 hb1
      have hgX := alloc_grow (cs := ints (up (E ++ [fr + m]))) hg hb13
      have hx2 := exLTo_succ n f fr m
      have hle1' : Hq.le (H1.put b13 (ints (up (E ++ [fr + m])))) := Heap.le_trans hle1 (Heap.le_put_self hb1)
      by_cases hf0 : f = 0
      · subst hf0
        have hallv : plVL n 0 (fr + m + 1) (E ++ [fr + m]) (.ref 1 b13 0 (E.length + 1) none) = .imm 1 false [.ref 1 b13 0 (E.length + 1) none] := by rw [plVL, if_pos rfl]
        rw [hallv]
        refine appendA_grow hgX (m := 1) (new := [.ref 1 b13 0 (E.length + 1) none]) (by simp [srcOf]) rfl rfl (by omega) (by omega) fun v' H14 g14 => ?_
        rw [wrap_i64 (by omega) (by omega)]
        refine ⟨⟨m + 1, v', xs ++ [.ref 1 b13 0 (E.length + 1) none], _, by unfold eqt; congr 3, by omega, hle1', by simpa using g14, fun H2 hle2 => ?_⟩, by simp <;> omega⟩
        rw [List.map_append, hxs H2 (Heap.le_trans (Heap.le_put_self hb1) hle2), hx2, List.map_append]
        have := conv_own (l := up (E ++ [fr + m])) hbH (hle2 _ _ Heap.put_same) 0 (n := E.length + 1) (by simp [up])
        simp only [exL, List.map_cons, List.map_nil]
        rw [this]
      · have hallv : plVL n f (fr + m + 1) (E ++ [fr + m]) (.ref 1 b13 0 (E.length + 1) none) = .imm (exL n f (fr + m + 1)).length false ((exL n f (fr + m + 1)).map fun G => sl (up (E ++ [fr + m] ++ G))) := by rw [plVL, if_neg hf0]
        rw [hallv]
        have hBj := hB (fr + m + 1)
        refine appendA_grow hgX (m := (exL n f (fr + m + 1)).length) (new := (exL n f (fr + m + 1)).map fun G => sl (up (E ++ [fr + m] ++ G))) (by simp [srcOf]) (by simp [isScalar, sl]) (by simp) (by omega) (by omega) fun v' H14 g14 => ?_
        rw [wrap_i64 (by omega) (by omega)]
        refine ⟨⟨m + 1, v', xs ++ (exL n f (fr + m + 1)).map fun G => sl (up (E ++ [fr + m] ++ G)), _, by unfold eqt; congr 3, by omega, hle1', by simpa using g14, fun H2 hle2 => ?_⟩, by simp <;> omega⟩
        rw [List.map_append, hxs H2 (Heap.le_trans (Heap.le_put_self hb1) hle2), hx2, List.map_append, List.map_map, List.map_map]
        congr 1
        refine List.map_congr_left fun G _ => ?_
        simp only [Function.comp, conv_sl]
        rw [List.append_assoc, List.singleton_append]
    · have hm' : m = n - fr := by omega
      subst hm'
      refine endK_all hleH 2 ?_
      rw [conv_grow hg hle1, hxs H' hg.le, hxslen]
      exact hk
def listsS (n many : Nat) : List (List Nat) := exL n many 0
theorem c85n {n many : Nat} {H : Heap} {K : AV → Heap → Prop} (hn : n ≤ 4) (hm : 1 ≤ many ∧ many ≤ 4) (hk : K (tl ((listsS n many).map up)) H) : ACalls Tryd.prog 85 [.int .i64 n, .int .i64 many, .nils] H K := by
  refine c85 hn many 0 [] .nils H K rfl (by simp) rfl (by omega) hm.2 ?_
  rw [plVL, if_neg (by omega)]
  have e : (.imm (exL n many 0).length false ((exL n many 0).map fun G => sl (up ([] ++ G))) : AV) = tl ((listsS n many).map up) := by
    simp [tl, listsS, Function.comp_def]
  rw [e]; exact hk
theorem exL_mem {n : Nat} : ∀ (f fr : Nat) (G : List Nat), G ∈ exL n f fr → G.length = f ∧ ∀ c ∈ G, c < n
  | 0, fr, G, h => by simp [exL] at h; subst h; simp
  | f + 1, fr, G, h => by
    simp only [exL, List.mem_flatMap, List.mem_range] at h
    obtain ⟨m, hm, h⟩ := h
    obtain ⟨G', h1, rfl⟩ := List.mem_map.1 h
    obtain ⟨h2, h3⟩ := exL_mem f _ _ h1
    refine ⟨by simp [h2], fun x hx => ?_⟩
    rcases List.mem_cons.1 hx with rfl | hx
    · omega
    · exact h3 x hx
/-- Columns that have 0 in all of some rows. -/
def zerosZ (t : Tb) (p : List Int) : List Nat := (List.range t.length).filter fun c => p.all fun r => decide (cell t r.toNat c = 0)
/-- ref.zeros -/
theorem c86 {v u : AV} {t : Tbl} {p : List Int} {H : Heap} {K : AV → Heap → Prop} (hc : chkT t = 0) (hv : RT H v t) (hu : Reads H u p) (hp : ∀ r ∈ p, 0 ≤ r ∧ r < t.length) (hl : p.length < 2 ^ 63) (hk : K (sl (up (zerosZ t p))) H) : ACalls Tryd.prog 86 [v, u] H K := by
  apply W86_ok
  unfold W86
  obtain ⟨n1, n2, hrows⟩ := chkT_ok hc
  simp only [letO_some, cellsOf?_agg, cellsOf?_int, cellsOf?_bool, cellsOf?_imm, cellsOf?_ref, cellsOf?_nils, faddr_iptr, faddr_ptr, List.drop_succ_cons, List.drop_zero, List.take_succ_cons, List.take_zero, load1_iptr, loadN_iptr, List.length_cons, List.length_nil, Nat.le_refl, if_true, List.getElem?_cons_zero, List.getElem?_cons_succ, List.getD_cons_zero, List.getD_cons_succ, extrF_tup, binF_add, binF_sub, binF_mul, binF_eql, binF_neq, binF_lss, binF_leq, binF_gtr, binF_geq, true_and, hv.len, hu.len]
  refine ⟨fun L H' => ∃ (i : Nat) (X : AV), eqt L [X, .int .i64 i] ∧ i ≤ t.length ∧ ∃ l : List Nat, Grow 1 H H' X l.length (ints (up l)) ∧ l = (List.range i).filter fun c => p.all fun r => decide (cell t r.toNat c = 0), fun L _ => (t.length - iv L 1).toNat, ⟨0, .nils, rfl, by omega, [], Grow.nils 1 H, rfl⟩, ?_⟩
  rintro L H' ⟨i, X, rfl, hi, l, hg, hll⟩
  have hle := hg.le
  try simp only [letO_some, cellsOf?_agg, cellsOf?_int, cellsOf?_bool, cellsOf?_imm, cellsOf?_ref, cellsOf?_nils, faddr_iptr, faddr_ptr, List.drop_succ_cons, List.drop_zero, List.take_succ_cons, List.take_zero, load1_iptr, loadN_iptr, List.length_cons, List.length_nil, Nat.le_refl, if_true, List.getElem?_cons_zero, List.getElem?_cons_succ, List.getD_cons_zero, List.getD_cons_succ, extrF_tup, binF_add, binF_sub, binF_mul, binF_eql, binF_neq, binF_lss, binF_leq, binF_gtr, binF_geq, true_and]
  refine condA_t (fun hlt => ?_) (fun hge => ?_)
  · have a1 : i < t.length := by omega
    refine ⟨fun L H'' => ∃ X' : AV, eqt L [X'] ∧ ∃ l : List Nat, Grow 1 H H'' X' l.length (ints (up l)) ∧ l = (List.range (i + 1)).filter fun c => p.all fun r => decide (cell t r.toNat c = 0), ?_, ?_⟩
    · refine ⟨fun L H'' => ∃ j : Nat, eqt L [.bool ((p.take j).all fun r => decide (cell t r.toNat i = 0)), .int .i64 j] ∧ j ≤ p.length ∧ eqt H'' H', fun L _ => (p.length - iv L 1).toNat, ⟨0, rfl, by omega, rfl⟩, ?_⟩
      rintro L H'' ⟨j, rfl, hj, rfl⟩
      try simp only [letO_some, cellsOf?_agg, cellsOf?_int, cellsOf?_bool, cellsOf?_imm, cellsOf?_ref, cellsOf?_nils, faddr_iptr, faddr_ptr, List.drop_succ_cons, List.drop_zero, List.take_succ_cons, List.take_zero, load1_iptr, loadN_iptr, List.length_cons, List.length_nil, Nat.le_refl, if_true, List.getElem?_cons_zero, List.getElem?_cons_succ, List.getD_cons_zero, List.getD_cons_succ, extrF_tup, binF_add, binF_sub, binF_mul, binF_eql, binF_neq, binF_lss, binF_leq, binF_gtr, binF_geq, true_and]
      refine condA_t (fun hlt2 => ?_) (fun hge2 => ?_)
      · have b1 : j < p.length := by omega
        have g1 : p.getD j 0 = p[j] := by simp [List.getD_eq_getElem?_getD, b1]
        have hpj := hp p[j] (List.getElem_mem b1)
        have hstep : ((p.take (j + 1)).all fun r => decide (cell t r.toNat i = 0)) = (((p.take j).all fun r => decide (cell t r.toNat i = 0)) && decide (cell t p[j].toNat i = 0)) := by
          rw [take_snoc b1, List.all_append]; simp
        have hrl : (t.getD p[j].toNat []).length = t.length := row_len hc (by omega)
        cases hb : ((p.take j).all fun r => decide (cell t r.toNat i = 0)) with
        | true =>
          simp only [gval_bool, Int.reduceBNe, Int.reduceBEq, pickF_true, pickF_false, reduceIte, Bool.true_eq_false, Bool.false_eq_true, if_false, condA_tt, condA_ff, condG_tt, condG_ff, condG_tt', condG_ff', condG_undef, gval_undef, letO_some, cellsOf?_agg, cellsOf?_int, cellsOf?_bool, cellsOf?_imm, cellsOf?_ref, cellsOf?_nils, faddr_iptr, faddr_ptr, List.drop_succ_cons, List.drop_zero, List.take_succ_cons, List.take_zero, load1_iptr, loadN_iptr, List.length_cons, List.length_nil, Nat.le_refl, if_true, List.getElem?_cons_zero, List.getElem?_cons_succ, List.getD_cons_zero, List.getD_cons_succ, extrF_tup, binF_add, binF_sub, binF_mul, binF_eql, binF_neq, binF_lss, binF_leq, binF_gtr, binF_geq, true_and]
          refine hu.get hle (by omega) (by omega) ?_
          rw [Int.toNat_natCast, g1]
          try simp only [letO_some, cellsOf?_agg, cellsOf?_int, cellsOf?_bool, cellsOf?_imm, cellsOf?_ref, cellsOf?_nils, faddr_iptr, faddr_ptr, List.drop_succ_cons, List.drop_zero, List.take_succ_cons, List.take_zero, load1_iptr, loadN_iptr, List.length_cons, List.length_nil, Nat.le_refl, if_true, List.getElem?_cons_zero, List.getElem?_cons_succ, List.getD_cons_zero, List.getD_cons_succ, extrF_tup, binF_add, binF_sub, binF_mul, binF_eql, binF_neq, binF_lss, binF_leq, binF_gtr, binF_geq, true_and]
          refine hv.get hle hpj.1 (by omega) fun a ha => ?_
          try simp only [letO_some, cellsOf?_agg, cellsOf?_int, cellsOf?_bool, cellsOf?_imm, cellsOf?_ref, cellsOf?_nils, faddr_iptr, faddr_ptr, List.drop_succ_cons, List.drop_zero, List.take_succ_cons, List.take_zero, load1_iptr, loadN_iptr, List.length_cons, List.length_nil, Nat.le_refl, if_true, List.getElem?_cons_zero, List.getElem?_cons_succ, List.getD_cons_zero, List.getD_cons_succ, extrF_tup, binF_add, binF_sub, binF_mul, binF_eql, binF_neq, binF_lss, binF_leq, binF_gtr, binF_geq, true_and]
          refine ha.get hle (by omega) (by omega) ?_
          rw [Int.toNat_natCast, show (t.getD p[j].toNat []).getD i 0 = cell t p[j].toNat i from rfl]
          simp only [gval_bool, Int.reduceBNe, Int.reduceBEq, pickF_true, pickF_false, reduceIte, Bool.true_eq_false, Bool.false_eq_true, if_false, condA_tt, condA_ff, condG_tt, condG_ff, condG_tt', condG_ff', condG_undef, gval_undef, letO_some, cellsOf?_agg, cellsOf?_int, cellsOf?_bool, cellsOf?_imm, cellsOf?_ref, cellsOf?_nils, faddr_iptr, faddr_ptr, List.drop_succ_cons, List.drop_zero, List.take_succ_cons, List.take_zero, load1_iptr, loadN_iptr, List.length_cons, List.length_nil, Nat.le_refl, if_true, List.getElem?_cons_zero, List.getElem?_cons_succ, List.getD_cons_zero, List.getD_cons_succ, extrF_tup, binF_add, binF_sub, binF_mul, binF_eql, binF_neq, binF_lss, binF_leq, binF_gtr, binF_geq, true_and]
          rw [wrap_i64 (by omega) (by omega)]
          refine ⟨⟨j + 1, ?_, by omega, rfl⟩, by simp <;> omega⟩
          rw [hstep, hb, Bool.true_and]
          have : (cell t p[j].toNat i == 0) = decide (cell t p[j].toNat i = 0) := rfl
          rw [this]; rfl
        | false =>
          simp only [gval_bool, Int.reduceBNe, Int.reduceBEq, pickF_true, pickF_false, reduceIte, Bool.true_eq_false, Bool.false_eq_true, if_false, condA_tt, condA_ff, condG_tt, condG_ff, condG_tt', condG_ff', condG_undef, gval_undef, letO_some, cellsOf?_agg, cellsOf?_int, cellsOf?_bool, cellsOf?_imm, cellsOf?_ref, cellsOf?_nils, faddr_iptr, faddr_ptr, List.drop_succ_cons, List.drop_zero, List.take_succ_cons, List.take_zero, load1_iptr, loadN_iptr, List.length_cons, List.length_nil, Nat.le_refl, if_true, List.getElem?_cons_zero, List.getElem?_cons_succ, List.getD_cons_zero, List.getD_cons_succ, extrF_tup, binF_add, binF_sub, binF_mul, binF_eql, binF_neq, binF_lss, binF_leq, binF_gtr, binF_geq, true_and]
          rw [wrap_i64 (by omega) (by omega)]
          refine ⟨⟨j + 1, ?_, by omega, rfl⟩, by simp <;> omega⟩
          rw [hstep, hb, Bool.false_and]; rfl
      · have hje : j = p.length := by omega
        subst hje
        rw [List.take_length]
        have hstep : ((List.range (i + 1)).filter fun c => p.all fun r => decide (cell t r.toNat c = 0)) = l ++ if (p.all fun r => decide (cell t r.toNat i = 0)) = true then [i] else [] := by
          rw [List.range_succ, List.filter_append, ← hll]
          cases h : (p.all fun r => decide (cell t r.toNat i = 0)) <;> simp [h]
        have hl4 : l.length ≤ 4 := by
          rw [hll]
          refine Nat.le_trans (List.length_filter_le _ _) ?_
          simp; omega
        cases hb : (p.all fun r => decide (cell t r.toNat i = 0)) with
        | true =>
          simp only [condA_tt, l23 cellsOf?_int, letO_some]
          refine appendA_oneR hg (by omega) fun v' H7 hg7 _ => ?_
          refine ⟨v', rfl, l ++ [i], ?_, by rw [hstep, hb]; rfl⟩
          have e : up (l ++ [i]) = up l ++ [(i : Int)] := by simp [up]
          rw [e, List.length_append]
          exact hg7
        | false =>
          simp only [condA_ff]
          exact ⟨X, rfl, l, hg, by rw [hstep, hb]; simp⟩
    · rintro L H'' ⟨X', rfl, l', hg', hl'⟩
      try simp only [letO_some, cellsOf?_agg, cellsOf?_int, cellsOf?_bool, cellsOf?_imm, cellsOf?_ref, cellsOf?_nils, faddr_iptr, faddr_ptr, List.drop_succ_cons, List.drop_zero, List.take_succ_cons, List.take_zero, load1_iptr, loadN_iptr, List.length_cons, List.length_nil, Nat.le_refl, if_true, List.getElem?_cons_zero, List.getElem?_cons_succ, List.getD_cons_zero, List.getD_cons_succ, extrF_tup, binF_add, binF_sub, binF_mul, binF_eql, binF_neq, binF_lss, binF_leq, binF_gtr, binF_geq, true_and]
      rw [wrap_i64 (by omega) (by omega)]
      exact ⟨⟨i + 1, X', rfl, by omega, l', hg', hl'⟩, by simp <;> omega⟩
  · have hie : i = t.length := by omega
    subst hie
    refine hg.end1 ?_
    have e : (.imm l.length false (ints (up l)) : AV) = sl (up (zerosZ t p)) := by
      rw [show zerosZ t p = l from hll.symm]
      simp [sl]
    rw [e]; exact hk
/-- ref.listed -/
theorem c88 {v : AV} {l : List Int} {n : Nat} {H : Heap} {K : AV → Heap → Prop} (hv : Reads H v l) (hn : n ≤ 4) (hl : l.length < 2 ^ 63) (hk : K (.int .i64 (rdE n (-1) l)) H) : ACalls Tryd.prog 88 [.int .i64 n, v] H K := by
  apply W88_ok
  unfold W88
  simp only [letO_some, cellsOf?_agg, cellsOf?_int, cellsOf?_bool, cellsOf?_imm, cellsOf?_ref, cellsOf?_nils, faddr_iptr, faddr_ptr, List.drop_succ_cons, List.drop_zero, List.take_succ_cons, List.take_zero, load1_iptr, loadN_iptr, List.length_cons, List.length_nil, Nat.le_refl, if_true, List.getElem?_cons_zero, List.getElem?_cons_succ, List.getD_cons_zero, List.getD_cons_succ, extrF_tup, binF_add, binF_sub, binF_mul, binF_eql, binF_neq, binF_lss, binF_leq, binF_gtr, binF_geq, true_and, hv.len]
  refine ⟨fun L H' => ∃ i : Nat, eqt L [.int .i64 i] ∧ i ≤ l.length ∧ eqt H' H ∧ rdE n (-1) l = rdE n (if i = 0 then -1 else l.getD (i - 1) 0) (l.drop i), fun L _ => (l.length - iv L 0).toNat, ⟨0, rfl, by omega, rfl, by simp⟩, ?_⟩
  rintro L H' ⟨i, rfl, hi, rfl, he⟩
  try simp only [letO_some, cellsOf?_agg, cellsOf?_int, cellsOf?_bool, cellsOf?_imm, cellsOf?_ref, cellsOf?_nils, faddr_iptr, faddr_ptr, List.drop_succ_cons, List.drop_zero, List.take_succ_cons, List.take_zero, load1_iptr, loadN_iptr, List.length_cons, List.length_nil, Nat.le_refl, if_true, List.getElem?_cons_zero, List.getElem?_cons_succ, List.getD_cons_zero, List.getD_cons_succ, extrF_tup, binF_add, binF_sub, binF_mul, binF_eql, binF_neq, binF_lss, binF_leq, binF_gtr, binF_geq, true_and]
  refine condA_t (fun hlt => ?_) (fun hge => ?_)
  · have a1 : i < l.length := by omega
    have g1 : l.getD i 0 = l[i] := by simp [List.getD_eq_getElem?_getD, a1]
    rw [List.drop_eq_getElem_cons a1, rdE] at he
    refine hv.get (Heap.le_refl _) (by omega) (by omega) ?_
    rw [Int.toNat_natCast, g1]
    try simp only [letO_some, cellsOf?_agg, cellsOf?_int, cellsOf?_bool, cellsOf?_imm, cellsOf?_ref, cellsOf?_nils, faddr_iptr, faddr_ptr, List.drop_succ_cons, List.drop_zero, List.take_succ_cons, List.take_zero, load1_iptr, loadN_iptr, List.length_cons, List.length_nil, Nat.le_refl, if_true, List.getElem?_cons_zero, List.getElem?_cons_succ, List.getD_cons_zero, List.getD_cons_succ, extrF_tup, binF_add, binF_sub, binF_mul, binF_eql, binF_neq, binF_lss, binF_leq, binF_gtr, binF_geq, true_and]
    rw [wrap_i64 (by omega) (by omega)]
    refine c78 ?_
    try simp only [not_v, letO_some, cellsOf?_agg, cellsOf?_int, cellsOf?_bool, cellsOf?_imm, cellsOf?_ref, cellsOf?_nils, faddr_iptr, faddr_ptr, List.drop_succ_cons, List.drop_zero, List.take_succ_cons, List.take_zero, load1_iptr, loadN_iptr, List.length_cons, List.length_nil, Nat.le_refl, if_true, List.getElem?_cons_zero, List.getElem?_cons_succ, List.getD_cons_zero, List.getD_cons_succ, extrF_tup, binF_add, binF_sub, binF_mul, binF_eql, binF_neq, binF_lss, binF_leq, binF_gtr, binF_geq, true_and]
    by_cases hbad : l[i] < 0 ∨ (n : Int) ≤ l[i]
    · rw [if_pos hbad] at he
      have e : decide (0 ≤ l[i] ∧ l[i] ≤ (n : Int) - 1) = false := decide_eq_false (by omega)
      simp only [e, Bool.not_false, condA_tt]
      rw [he] at hk
      exact endK_ret hk
    · rw [if_neg hbad] at he
      have e : decide (0 ≤ l[i] ∧ l[i] ≤ (n : Int) - 1) = true := decide_eq_true (by omega)
      simp only [e, Bool.not_true, condA_ff, letO_some, cellsOf?_agg, cellsOf?_int, cellsOf?_bool, cellsOf?_imm, cellsOf?_ref, cellsOf?_nils, faddr_iptr, faddr_ptr, List.drop_succ_cons, List.drop_zero, List.take_succ_cons, List.take_zero, load1_iptr, loadN_iptr, List.length_cons, List.length_nil, Nat.le_refl, if_true, List.getElem?_cons_zero, List.getElem?_cons_succ, List.getD_cons_zero, List.getD_cons_succ, extrF_tup, binF_add, binF_sub, binF_mul, binF_eql, binF_neq, binF_lss, binF_leq, binF_gtr, binF_geq, true_and]
      have next : ∀ (h : ¬ l[i] ≤ (if i = 0 then -1 else l.getD (i - 1) 0)), rdE n (-1) l = rdE n (if i + 1 = 0 then -1 else l.getD (i + 1 - 1) 0) (l.drop (i + 1)) := by
        intro h
        rw [he, if_neg h, if_neg (by omega), Nat.add_sub_cancel, g1]
      by_cases h0 : i = 0
      · subst h0
        have e2 : decide ((0 : Int) < ((0 : Nat) : Int)) = false := rfl
        simp only [e2, gval_bool, Int.reduceBNe, Int.reduceBEq, pickF_true, pickF_false, reduceIte, Bool.true_eq_false, Bool.false_eq_true, if_false, condA_tt, condA_ff, condG_tt, condG_ff, condG_tt', condG_ff', condG_undef, gval_undef, letO_some, cellsOf?_agg, cellsOf?_int, cellsOf?_bool, cellsOf?_imm, cellsOf?_ref, cellsOf?_nils, faddr_iptr, faddr_ptr, List.drop_succ_cons, List.drop_zero, List.take_succ_cons, List.take_zero, load1_iptr, loadN_iptr, List.length_cons, List.length_nil, Nat.le_refl, if_true, List.getElem?_cons_zero, List.getElem?_cons_succ, List.getD_cons_zero, List.getD_cons_succ, extrF_tup, binF_add, binF_sub, binF_mul, binF_eql, binF_neq, binF_lss, binF_leq, binF_gtr, binF_geq, true_and]
        rw [wrap_i64 (by omega) (by omega)]
        refine ⟨⟨1, rfl, by omega, rfl, next ?_⟩, by simp <;> omega⟩
        rw [if_pos rfl]; omega
      · have e2 : decide ((0 : Int) < (i : Int)) = true := decide_eq_true (by omega)
        rw [if_neg h0] at he
        simp only [e2, gval_bool, Int.reduceBNe, Int.reduceBEq, pickF_true, pickF_false, reduceIte, Bool.true_eq_false, Bool.false_eq_true, if_false, condA_tt, condA_ff, condG_tt, condG_ff, condG_tt', condG_ff', condG_undef, gval_undef, letO_some, cellsOf?_agg, cellsOf?_int, cellsOf?_bool, cellsOf?_imm, cellsOf?_ref, cellsOf?_nils, faddr_iptr, faddr_ptr, List.drop_succ_cons, List.drop_zero, List.take_succ_cons, List.take_zero, load1_iptr, loadN_iptr, List.length_cons, List.length_nil, Nat.le_refl, if_true, List.getElem?_cons_zero, List.getElem?_cons_succ, List.getD_cons_zero, List.getD_cons_succ, extrF_tup, binF_add, binF_sub, binF_mul, binF_eql, binF_neq, binF_lss, binF_leq, binF_gtr, binF_geq, true_and]
        refine hv.get (Heap.le_refl _) (by omega) (by omega) ?_
        rw [Int.toNat_natCast, g1]
        rw [wrap_i64 (n := (i : Int) - 1) (by omega) (by omega)]
        try simp only [letO_some, cellsOf?_agg, cellsOf?_int, cellsOf?_bool, cellsOf?_imm, cellsOf?_ref, cellsOf?_nils, faddr_iptr, faddr_ptr, List.drop_succ_cons, List.drop_zero, List.take_succ_cons, List.take_zero, load1_iptr, loadN_iptr, List.length_cons, List.length_nil, Nat.le_refl, if_true, List.getElem?_cons_zero, List.getElem?_cons_succ, List.getD_cons_zero, List.getD_cons_succ, extrF_tup, binF_add, binF_sub, binF_mul, binF_eql, binF_neq, binF_lss, binF_leq, binF_gtr, binF_geq, true_and]
        refine hv.get (Heap.le_refl _) (by omega) (by omega) ?_
        rw [show ((i : Int) - 1).toNat = i - 1 by omega]
        simp only [gval_bool, Int.reduceBNe, Int.reduceBEq, pickF_true, pickF_false, reduceIte, Bool.true_eq_false, Bool.false_eq_true, if_false, condA_tt, condA_ff, condG_tt, condG_ff, condG_tt', condG_ff', condG_undef, gval_undef, letO_some, cellsOf?_agg, cellsOf?_int, cellsOf?_bool, cellsOf?_imm, cellsOf?_ref, cellsOf?_nils, faddr_iptr, faddr_ptr, List.drop_succ_cons, List.drop_zero, List.take_succ_cons, List.take_zero, load1_iptr, loadN_iptr, List.length_cons, List.length_nil, Nat.le_refl, if_true, List.getElem?_cons_zero, List.getElem?_cons_succ, List.getD_cons_zero, List.getD_cons_succ, extrF_tup, binF_add, binF_sub, binF_mul, binF_eql, binF_neq, binF_lss, binF_leq, binF_gtr, binF_geq, true_and]
        refine condA_t (fun hh => ?_) (fun hh => ?_)
        · rw [if_pos hh] at he
          rw [he] at hk
          exact endK_ret hk
        · rw [wrap_i64 (by omega) (by omega)]
          refine ⟨⟨i + 1, rfl, by omega, rfl, next ?_⟩, by simp <;> omega⟩
          rw [if_neg h0]; exact hh
  · have hie : i = l.length := by omega
    subst hie
    rw [List.drop_length, rdE] at he
    rw [he] at hk
    exact endK_ret hk
theorem zerosZ_mem {t : Tb} {p : List Int} {c : Nat} (hc : c < t.length) : c ∈ zerosZ t p ↔ ∀ r ∈ p, cell t r.toNat c = 0 := by
  simp [zerosZ, hc]
theorem hitB_iff {t : Tb} {rows cols : List Int} : hitB t rows cols = true ↔ ∃ r ∈ rows, ∃ c ∈ cols, 0 < cell t r.toNat c.toNat := by
  simp [hitB]
/-- ref.Proves -/
theorem c37 {v u w : AV} {t : Tbl} {rows cols : List Int} {H : Heap} {K : AV → Heap → Prop} (hv : RT H v t) (hu : Reads H u rows) (hw : Reads H w cols) (hl : t.length < 2 ^ 63) (hl2 : ∀ l ∈ t, l.length < 2 ^ 63) (hl3 : rows.length < 2 ^ 60) (hl4 : cols.length < 2 ^ 60)
    (hk : K (.int .i64 (provesE t rows cols)) H) : ACalls Tryd.prog 37 [v, u, w] H K := by
  apply W37_ok
  unfold W37
  try simp only [letO_some, cellsOf?_agg, cellsOf?_int, cellsOf?_bool, cellsOf?_imm, cellsOf?_ref, cellsOf?_nils, faddr_iptr, faddr_ptr, List.drop_succ_cons, List.drop_zero, List.take_succ_cons, List.take_zero, load1_iptr, loadN_iptr, List.length_cons, List.length_nil, Nat.le_refl, if_true, List.getElem?_cons_zero, List.getElem?_cons_succ, List.getD_cons_zero, List.getD_cons_succ, extrF_tup, binF_add, binF_sub, binF_mul, binF_eql, binF_neq, binF_lss, binF_leq, binF_gtr, binF_geq, true_and]
  refine c31 hv hl hl2 ?_
  try simp only [letO_some, cellsOf?_agg, cellsOf?_int, cellsOf?_bool, cellsOf?_imm, cellsOf?_ref, cellsOf?_nils, faddr_iptr, faddr_ptr, List.drop_succ_cons, List.drop_zero, List.take_succ_cons, List.take_zero, load1_iptr, loadN_iptr, List.length_cons, List.length_nil, Nat.le_refl, if_true, List.getElem?_cons_zero, List.getElem?_cons_succ, List.getD_cons_zero, List.getD_cons_succ, extrF_tup, binF_add, binF_sub, binF_mul, binF_eql, binF_neq, binF_lss, binF_leq, binF_gtr, binF_geq, true_and]
  by_cases hc : chkT t = 0
  · obtain ⟨n1, n2, hrows⟩ := chkT_ok hc
    rw [proves_eq hc] at hk
    rw [hc]
    refine ⟨fun L H' => eqt L [.int .i64 (rdE t.length (-1) rows)] ∧ eqt H' H, ?_, ?_⟩
    · simp only [beq_self_eq_true, condA_tt, hv.len, letO_some]
      refine c88 hu n2 (by omega) ?_
      try simp only [letO_some, cellsOf?_agg, cellsOf?_int, cellsOf?_bool, cellsOf?_imm, cellsOf?_ref, cellsOf?_nils, faddr_iptr, faddr_ptr, List.drop_succ_cons, List.drop_zero, List.take_succ_cons, List.take_zero, load1_iptr, loadN_iptr, List.length_cons, List.length_nil, Nat.le_refl, if_true, List.getElem?_cons_zero, List.getElem?_cons_succ, List.getD_cons_zero, List.getD_cons_succ, extrF_tup, binF_add, binF_sub, binF_mul, binF_eql, binF_neq, binF_lss, binF_leq, binF_gtr, binF_geq, true_and]
      exact ⟨rfl, rfl⟩
    rintro L H' ⟨rfl, rfl⟩
    try simp only [letO_some, cellsOf?_agg, cellsOf?_int, cellsOf?_bool, cellsOf?_imm, cellsOf?_ref, cellsOf?_nils, faddr_iptr, faddr_ptr, List.drop_succ_cons, List.drop_zero, List.take_succ_cons, List.take_zero, load1_iptr, loadN_iptr, List.length_cons, List.length_nil, Nat.le_refl, if_true, List.getElem?_cons_zero, List.getElem?_cons_succ, List.getD_cons_zero, List.getD_cons_succ, extrF_tup, binF_add, binF_sub, binF_mul, binF_eql, binF_neq, binF_lss, binF_leq, binF_gtr, binF_geq, true_and]
    refine ⟨fun L H'' => eqt L [.int .i64 (if rdE t.length (-1) rows ≠ 0 then rdE t.length (-1) rows else rdE t.length (-1) cols)] ∧ eqt H'' H', ?_, ?_⟩
    · by_cases h1 : rdE t.length (-1) rows = 0
      · have e : (rdE t.length (-1) rows == 0) = true := by rw [h1]; rfl
        simp only [e, condA_tt, hv.len, letO_some]
        refine c88 hw n2 (by omega) ?_
        try simp only [letO_some, cellsOf?_agg, cellsOf?_int, cellsOf?_bool, cellsOf?_imm, cellsOf?_ref, cellsOf?_nils, faddr_iptr, faddr_ptr, List.drop_succ_cons, List.drop_zero, List.take_succ_cons, List.take_zero, load1_iptr, loadN_iptr, List.length_cons, List.length_nil, Nat.le_refl, if_true, List.getElem?_cons_zero, List.getElem?_cons_succ, List.getD_cons_zero, List.getD_cons_succ, extrF_tup, binF_add, binF_sub, binF_mul, binF_eql, binF_neq, binF_lss, binF_leq, binF_gtr, binF_geq, true_and]
        rw [if_neg (by simp [h1])]
        exact ⟨rfl, rfl⟩
      · have e : (rdE t.length (-1) rows == 0) = false := by rw [beq_eq_false_iff_ne]; exact h1
        simp only [e, condA_ff]
        rw [if_pos h1]
        exact ⟨rfl, rfl⟩
    rintro L H'' ⟨rfl, rfl⟩
    try simp only [letO_some, cellsOf?_agg, cellsOf?_int, cellsOf?_bool, cellsOf?_imm, cellsOf?_ref, cellsOf?_nils, faddr_iptr, faddr_ptr, List.drop_succ_cons, List.drop_zero, List.take_succ_cons, List.take_zero, load1_iptr, loadN_iptr, List.length_cons, List.length_nil, Nat.le_refl, if_true, List.getElem?_cons_zero, List.getElem?_cons_succ, List.getD_cons_zero, List.getD_cons_succ, extrF_tup, binF_add, binF_sub, binF_mul, binF_eql, binF_neq, binF_lss, binF_leq, binF_gtr, binF_geq, true_and]
    by_cases h1 : rdE t.length (-1) rows = 0
    · rw [if_neg (by simp [h1])] at hk
      rw [if_neg (c := rdE t.length (-1) rows ≠ 0) (by simp [h1])]
      by_cases h2 : rdE t.length (-1) cols = 0
      · rw [if_neg (by simp [h2])] at hk
        have e : (rdE t.length (-1) cols != 0) = false := by rw [h2]; rfl
        have hmr := rdE_mem h1
        have hmc := rdE_mem h2
        simp only [e, condA_ff]
        refine c86 hc hv hu hmr (by omega) ?_
        simp only [letO_some, cellsOf?_agg, cellsOf?_int, cellsOf?_bool, cellsOf?_imm, cellsOf?_ref, cellsOf?_nils, faddr_iptr, faddr_ptr, List.drop_succ_cons, List.drop_zero, List.take_succ_cons, List.take_zero, load1_iptr, loadN_iptr, List.length_cons, List.length_nil, Nat.le_refl, if_true, List.getElem?_cons_zero, List.getElem?_cons_succ, List.getD_cons_zero, List.getD_cons_succ, extrF_tup, binF_add, binF_sub, binF_mul, binF_eql, binF_neq, binF_lss, binF_leq, binF_gtr, binF_geq, true_and, hw.len]
        refine ⟨fun L H3 => ∃ i : Nat, eqt L [.int .i64 i] ∧ i ≤ cols.length ∧ eqt H3 H'' ∧ ∀ c ∈ cols.take i, ∀ r ∈ rows, cell t r.toNat c.toNat = 0, fun L _ => (cols.length - iv L 0).toNat, ⟨0, rfl, by omega, rfl, by simp⟩, ?_⟩
        rintro L H3 ⟨i, rfl, hi, rfl, he⟩
        try simp only [letO_some, cellsOf?_agg, cellsOf?_int, cellsOf?_bool, cellsOf?_imm, cellsOf?_ref, cellsOf?_nils, faddr_iptr, faddr_ptr, List.drop_succ_cons, List.drop_zero, List.take_succ_cons, List.take_zero, load1_iptr, loadN_iptr, List.length_cons, List.length_nil, Nat.le_refl, if_true, List.getElem?_cons_zero, List.getElem?_cons_succ, List.getD_cons_zero, List.getD_cons_succ, extrF_tup, binF_add, binF_sub, binF_mul, binF_eql, binF_neq, binF_lss, binF_leq, binF_gtr, binF_geq, true_and]
        refine condA_t (fun hlt => ?_) (fun hge => ?_)
        · have a1 : i < cols.length := by omega
          have g1 : cols.getD i 0 = cols[i] := by simp [List.getD_eq_getElem?_getD, a1]
          have hci := hmc _ (List.getElem_mem a1)
          refine hw.get (Heap.le_refl _) (by omega) (by omega) ?_
          rw [Int.toNat_natCast, g1]
          have hzl : (zerosZ t rows).length ≤ 4 := Nat.le_trans (List.length_filter_le _ _) (by simp; omega)
          refine c89 (Reads.sl _ _) (by rw [up_length]; omega) ?_
          try simp only [not_v, letO_some, cellsOf?_agg, cellsOf?_int, cellsOf?_bool, cellsOf?_imm, cellsOf?_ref, cellsOf?_nils, faddr_iptr, faddr_ptr, List.drop_succ_cons, List.drop_zero, List.take_succ_cons, List.take_zero, load1_iptr, loadN_iptr, List.length_cons, List.length_nil, Nat.le_refl, if_true, List.getElem?_cons_zero, List.getElem?_cons_succ, List.getD_cons_zero, List.getD_cons_succ, extrF_tup, binF_add, binF_sub, binF_mul, binF_eql, binF_neq, binF_lss, binF_leq, binF_gtr, binF_geq, true_and]
          have hmem : cols[i] ∈ up (zerosZ t rows) ↔ ∀ r ∈ rows, cell t r.toNat cols[i].toNat = 0 := by
            rw [← zerosZ_mem (by omega), ← mem_up, show ((cols[i].toNat : Nat) : Int) = cols[i] by omega]
          by_cases hin : cols[i] ∈ up (zerosZ t rows)
          · simp only [decide_eq_true hin, Bool.not_true, condA_ff]
            rw [wrap_i64 (by omega) (by omega)]
            refine ⟨⟨i + 1, rfl, by omega, rfl, fun c hcm => ?_⟩, by simp <;> omega⟩
            rw [take_snoc a1] at hcm
            rcases List.mem_append.1 hcm with hcm | hcm
            · exact he c hcm
            · simp at hcm; subst hcm; exact hmem.1 hin
          · simp only [decide_eq_false hin, Bool.not_false, condA_tt]
            have hhit : hitB t rows cols = true := by
              rw [hitB_iff]
              refine Classical.byContradiction fun hx => hin (hmem.2 fun r hr => ?_)
              have h0 := (cell_rng hc r.toNat cols[i].toNat).1
              by_cases hp : 0 < cell t r.toNat cols[i].toNat
              · exact absurd ⟨r, hr, cols[i], List.getElem_mem a1, hp⟩ hx
              · omega
            rw [if_pos (.inl hhit)] at hk
            exact endK_ret hk
        · have hie : i = cols.length := by omega
          subst hie
          rw [List.take_length] at he
          have hhit : ¬ hitB t rows cols = true := by
            rw [hitB_iff]
            rintro ⟨r, hr, c, hcm, hp⟩
            have := he c hcm r hr
            omega
          simp only [hu.len, hw.len, hv.len, letO_some, cellsOf?_agg, cellsOf?_int, cellsOf?_bool, cellsOf?_imm, cellsOf?_ref, cellsOf?_nils, faddr_iptr, faddr_ptr, List.drop_succ_cons, List.drop_zero, List.take_succ_cons, List.take_zero, load1_iptr, loadN_iptr, List.length_cons, List.length_nil, Nat.le_refl, if_true, List.getElem?_cons_zero, List.getElem?_cons_succ, List.getD_cons_zero, List.getD_cons_succ, extrF_tup, binF_add, binF_sub, binF_mul, binF_eql, binF_neq, binF_lss, binF_leq, binF_gtr, binF_geq, true_and]
          rw [wrap_i64 (by omega) (by omega)]
          refine condA_t (fun hh => ?_) (fun hh => ?_)
          · rw [if_pos (.inr (by omega))] at hk
            exact endK_ret hk
          · rw [if_neg (fun h => h.elim hhit (fun h => hh (by omega)))] at hk
            exact endK_ret hk
      · rw [if_pos h2] at hk
        have e : (rdE t.length (-1) cols != 0) = true := by rw [bne_iff_ne]; exact h2
        simp only [e, condA_tt]
        exact endK_ret hk
    · rw [if_pos h1] at hk
      rw [if_pos (c := rdE t.length (-1) rows ≠ 0) h1]
      have e : (rdE t.length (-1) rows != 0) = true := by rw [bne_iff_ne]; exact h1
      simp only [e, condA_tt]
      exact endK_ret hk
  · rw [provesE, if_pos hc] at hk
    have e : (chkT t == 0) = false := by rw [beq_eq_false_iff_ne]; exact hc
    have e2 : (chkT t != 0) = true := by rw [bne_iff_ne]; exact hc
    refine ⟨fun L H' => eqt L [.int .i64 (chkT t)] ∧ eqt H' H, ?_, ?_⟩
    · simp only [e, condA_ff]
      exact ⟨rfl, rfl⟩
    rintro L H' ⟨rfl, rfl⟩
    try simp only [letO_some, cellsOf?_agg, cellsOf?_int, cellsOf?_bool, cellsOf?_imm, cellsOf?_ref, cellsOf?_nils, faddr_iptr, faddr_ptr, List.drop_succ_cons, List.drop_zero, List.take_succ_cons, List.take_zero, load1_iptr, loadN_iptr, List.length_cons, List.length_nil, Nat.le_refl, if_true, List.getElem?_cons_zero, List.getElem?_cons_succ, List.getD_cons_zero, List.getD_cons_succ, extrF_tup, binF_add, binF_sub, binF_mul, binF_eql, binF_neq, binF_lss, binF_leq, binF_gtr, binF_geq, true_and]
    refine ⟨fun L H'' => eqt L [.int .i64 (chkT t)] ∧ eqt H'' H', ?_, ?_⟩
    · simp only [e, condA_ff]
      exact ⟨rfl, rfl⟩
    rintro L H'' ⟨rfl, rfl⟩
    simp only [letO_some, cellsOf?_agg, cellsOf?_int, cellsOf?_bool, cellsOf?_imm, cellsOf?_ref, cellsOf?_nils, faddr_iptr, faddr_ptr, List.drop_succ_cons, List.drop_zero, List.take_succ_cons, List.take_zero, load1_iptr, loadN_iptr, List.length_cons, List.length_nil, Nat.le_refl, if_true, List.getElem?_cons_zero, List.getElem?_cons_succ, List.getD_cons_zero, List.getD_cons_succ, extrF_tup, binF_add, binF_sub, binF_mul, binF_eql, binF_neq, binF_lss, binF_leq, binF_gtr, binF_geq, true_and, e2, condA_tt]
    exact endK_ret hk
/-- All lists of rows, the shorter ones first. -/
def allK (n k : Nat) : List (List Nat) := (List.range k).flatMap fun i => listsS n (i + 1)
theorem allK_succ (n k : Nat) : allK n (k + 1) = allK n k ++ listsS n (k + 1) := by simp [allK, List.range_succ]
def barQ (t : Tb) (l : List Nat) : Bool := decide (t.length < (zerosZ t (up l)).length + l.length)
theorem allK_find {n : Nat} {Q : List Nat → Bool} {l : List Nat} : ∀ {k m : Nat}, k ≤ m → (allK n k).find? Q = some l → (allK n m).find? Q = some l
  | k, 0, h, hf => by obtain rfl : k = 0 := by omega
                      exact hf
  | k, m + 1, h, hf => by
    by_cases hk : k = m + 1
    · subst hk; exact hf
    · rw [allK_succ, List.find?_append, allK_find (by omega) hf]; rfl
def barR (t : Tb) : List Int × List Int × Int := if chkT t ≠ 0 then ([], [], chkT t) else match (allK t.length t.length).find? (barQ t) with
  | none => ([], [], 13)
  | some l => (up l, up (zerosZ t (up l)), 0)
/-- ref.Bar -/
theorem c35 {v : AV} {t : Tbl} {H : Heap} {K : AV → Heap → Prop} (hv : RT H v t) (hl : t.length < 2 ^ 63) (hl2 : ∀ l ∈ t, l.length < 2 ^ 63) (hk : K (.tup [sl (barR t).1, sl (barR t).2.1, .int .i64 (barR t).2.2]) H) : ACalls Tryd.prog 35 [v] H K := by
  apply W35_ok
  unfold W35
  try simp only [letO_some, cellsOf?_agg, cellsOf?_int, cellsOf?_bool, cellsOf?_imm, cellsOf?_ref, cellsOf?_nils, faddr_iptr, faddr_ptr, List.drop_succ_cons, List.drop_zero, List.take_succ_cons, List.take_zero, load1_iptr, loadN_iptr, List.length_cons, List.length_nil, Nat.le_refl, if_true, List.getElem?_cons_zero, List.getElem?_cons_succ, List.getD_cons_zero, List.getD_cons_succ, extrF_tup, binF_add, binF_sub, binF_mul, binF_eql, binF_neq, binF_lss, binF_leq, binF_gtr, binF_geq, true_and]
  refine c31 hv hl hl2 ?_
  try simp only [letO_some, cellsOf?_agg, cellsOf?_int, cellsOf?_bool, cellsOf?_imm, cellsOf?_ref, cellsOf?_nils, faddr_iptr, faddr_ptr, List.drop_succ_cons, List.drop_zero, List.take_succ_cons, List.take_zero, load1_iptr, loadN_iptr, List.length_cons, List.length_nil, Nat.le_refl, if_true, List.getElem?_cons_zero, List.getElem?_cons_succ, List.getD_cons_zero, List.getD_cons_succ, extrF_tup, binF_add, binF_sub, binF_mul, binF_eql, binF_neq, binF_lss, binF_leq, binF_gtr, binF_geq, true_and]
  have weak : ∀ e : Int, K (.tup [sl [], sl [], .int .i64 e]) H → endK (.tup [.nils, .nils, .int .i64 e]) H K := fun e h => endK_weak (endK_ret h)
  unfold barR at hk
  by_cases hc : chkT t = 0
  · have e1 : (chkT t != 0) = false := by rw [hc]; rfl
    obtain ⟨n1, n2, hrows⟩ := chkT_ok hc
    rw [if_neg (by simp [hc])] at hk
    simp only [e1, condA_ff, hv.len, letO_some]
    refine ⟨fun L H' => ∃ k : Nat, eqt L [.int .i64 ((k + 1 : Nat) : Int)] ∧ k ≤ t.length ∧ eqt H' H ∧ (allK t.length k).find? (barQ t) = none, fun L _ => (t.length + 1 - iv L 0).toNat, ⟨0, rfl, by omega, rfl, rfl⟩, ?_⟩
    rintro L H' ⟨k, rfl, hk1, rfl, he⟩
    try simp only [letO_some, cellsOf?_agg, cellsOf?_int, cellsOf?_bool, cellsOf?_imm, cellsOf?_ref, cellsOf?_nils, faddr_iptr, faddr_ptr, List.drop_succ_cons, List.drop_zero, List.take_succ_cons, List.take_zero, load1_iptr, loadN_iptr, List.length_cons, List.length_nil, Nat.le_refl, if_true, List.getElem?_cons_zero, List.getElem?_cons_succ, List.getD_cons_zero, List.getD_cons_succ, extrF_tup, binF_add, binF_sub, binF_mul, binF_eql, binF_neq, binF_lss, binF_leq, binF_gtr, binF_geq, true_and]
    refine condA_t (fun hlt => ?_) (fun hge => ?_)
    · have a1 : k < t.length := by omega
      refine c85n n2 (by omega) ?_
      have hLm : ∀ l ∈ listsS t.length (k + 1), l.length = k + 1 ∧ ∀ c ∈ l, c < t.length := fun l hl => exL_mem _ _ _ hl
      have hLl : (listsS t.length (k + 1)).length ≤ 256 := by
        have h1 := exL_len (n := t.length) (k + 1) 0
        exact Nat.le_trans h1 (pow_le4 n2 (by omega))
      have hPR := (RT.tl H' ((listsS t.length (k + 1)).map up)).len
      have hPL : ((listsS t.length (k + 1)).map up).length = (listsS t.length (k + 1)).length := by simp
      have hsucc := allK_succ t.length k
      generalize hP : listsS t.length (k + 1) = P at *
      simp only [hPR, hPL, letO_some, cellsOf?_agg, cellsOf?_int, cellsOf?_bool, cellsOf?_imm, cellsOf?_ref, cellsOf?_nils, faddr_iptr, faddr_ptr, List.drop_succ_cons, List.drop_zero, List.take_succ_cons, List.take_zero, load1_iptr, loadN_iptr, List.length_cons, List.length_nil, Nat.le_refl, if_true, List.getElem?_cons_zero, List.getElem?_cons_succ, List.getD_cons_zero, List.getD_cons_succ, extrF_tup, binF_add, binF_sub, binF_mul, binF_eql, binF_neq, binF_lss, binF_leq, binF_gtr, binF_geq, true_and]
      have hget : ∀ (i : Nat) (hi : i < P.length) (H' : Heap) (k : AV → Prop), k (sl (up P[i])) → letO (idx 1 (tl (P.map up)) (.int .i64 (i : Int))) fun q => letO (load1 q H') k := by
        intro i hi H' k hk
        refine ReadsC.get (Heap.le_refl _) (n := P.length) (cells := (P.map up).map sl) ⟨by simp, by simp [tl]⟩ (x := sl (up P[i])) (by omega) (by omega) ?_ hk
        simp [hi]
      refine ⟨fun L H'' => ∃ i : Nat, eqt L [.int .i64 i] ∧ i ≤ P.length ∧ eqt H'' H' ∧ (P.take i).find? (barQ t) = none, fun L _ => (P.length - iv L 0).toNat, ⟨0, rfl, by omega, rfl, rfl⟩, ?_⟩
      rintro L H'' ⟨i, rfl, hi, rfl, hn⟩
      try simp only [letO_some, cellsOf?_agg, cellsOf?_int, cellsOf?_bool, cellsOf?_imm, cellsOf?_ref, cellsOf?_nils, faddr_iptr, faddr_ptr, List.drop_succ_cons, List.drop_zero, List.take_succ_cons, List.take_zero, load1_iptr, loadN_iptr, List.length_cons, List.length_nil, Nat.le_refl, if_true, List.getElem?_cons_zero, List.getElem?_cons_succ, List.getD_cons_zero, List.getD_cons_succ, extrF_tup, binF_add, binF_sub, binF_mul, binF_eql, binF_neq, binF_lss, binF_leq, binF_gtr, binF_geq, true_and]
      refine condA_t (fun hlt2 => ?_) (fun hge2 => ?_)
      · have b1 : i < P.length := by omega
        obtain ⟨q1, q2⟩ := hLm P[i] (List.getElem_mem b1)
        refine hget i b1 _ _ ?_
        refine c86 hc hv (Reads.sl _ _) (fun r hr => ?_) (by rw [up_length]; omega) ?_
        · obtain ⟨x, hx, rfl⟩ := List.mem_map.1 hr
          have := q2 x hx; omega
        have hzl : (zerosZ t (up P[i])).length ≤ 4 := Nat.le_trans (List.length_filter_le _ _) (by simp; omega)
        have hsl : lenA (sl (up (zerosZ t (up P[i])))) = some (.int .i64 (zerosZ t (up P[i])).length) := by rw [(Reads.sl H'' _).len, up_length]
        simp only [letO_some, cellsOf?_agg, cellsOf?_int, cellsOf?_bool, cellsOf?_imm, cellsOf?_ref, cellsOf?_nils, faddr_iptr, faddr_ptr, List.drop_succ_cons, List.drop_zero, List.take_succ_cons, List.take_zero, load1_iptr, loadN_iptr, List.length_cons, List.length_nil, Nat.le_refl, if_true, List.getElem?_cons_zero, List.getElem?_cons_succ, List.getD_cons_zero, List.getD_cons_succ, extrF_tup, binF_add, binF_sub, binF_mul, binF_eql, binF_neq, binF_lss, binF_leq, binF_gtr, binF_geq, true_and, hsl]
        rw [wrap_i64 (n := ((zerosZ t (up P[i])).length : Int) + _) (by omega) (by omega)]
        refine condA_t (fun hh => ?_) (fun hh => ?_)
        · have hQ : barQ t P[i] = true := decide_eq_true (by omega)
          have hf : (allK t.length t.length).find? (barQ t) = some P[i] := by
            refine allK_find (show k + 1 ≤ t.length by omega) ?_
            rw [hsucc, List.find?_append, he, Option.none_or]
            have this : P = P.take i ++ P[i] :: P.drop (i + 1) := by
              rw [← List.drop_eq_getElem_cons b1, List.take_append_drop]
            refine (congrArg (List.find? (barQ t)) this).trans ?_
            rw [List.find?_append, hn, Option.none_or, List.find?_cons_of_pos hQ]
          rw [hf] at hk
          refine hget i b1 _ _ ?_
          try simp only [letO_some, cellsOf?_agg, cellsOf?_int, cellsOf?_bool, cellsOf?_imm, cellsOf?_ref, cellsOf?_nils, faddr_iptr, faddr_ptr, List.drop_succ_cons, List.drop_zero, List.take_succ_cons, List.take_zero, load1_iptr, loadN_iptr, List.length_cons, List.length_nil, Nat.le_refl, if_true, List.getElem?_cons_zero, List.getElem?_cons_succ, List.getD_cons_zero, List.getD_cons_succ, extrF_tup, binF_add, binF_sub, binF_mul, binF_eql, binF_neq, binF_lss, binF_leq, binF_gtr, binF_geq, true_and]
          exact endK_ret hk
        · rw [wrap_i64 (by omega) (by omega)]
          refine ⟨⟨i + 1, rfl, by omega, rfl, ?_⟩, by simp <;> omega⟩
          rw [take_snoc b1, List.find?_append, hn, Option.none_or]
          have hQ : barQ t P[i] = false := decide_eq_false (by omega)
          simp [hQ]
      · have hie : i = P.length := by omega
        subst hie
        rw [List.take_length] at hn
        rw [wrap_i64 (by omega) (by omega)]
        refine ⟨⟨k + 1, by unfold eqt; congr 2, by omega, rfl, ?_⟩, by simp <;> omega⟩
        rw [hsucc, List.find?_append, he, hn]; rfl
    · have hke : k = t.length := by omega
      subst hke
      rw [he] at hk
      exact weak _ hk
  · have e1 : (chkT t != 0) = true := by simp [hc]
    simp only [e1, condA_tt]
    rw [if_pos hc] at hk
    exact weak _ hk
end Go.Proofs.YtbofkeoebnjjkaaDoor

namespace Go.Proofs.YtbofkeoebnjjkaaDoor
open Tab
set_option linter.unusedVariables false
set_option linter.unusedSimpArgs false
set_option maxRecDepth 20000

/- The block of the sets is the block of the lists. -/
def ltL (l m : List Nat) : Prop := l.length < m.length ∨ (l.length = m.length ∧ cmpL (up l) (up m) < 0)
instance (l m : List Nat) : Decidable (ltL l m) := inferInstanceAs (Decidable (_ ∨ _))
/-- The rank of a list. -/
def rkL (l : List Nat) : Nat := (allK 4 4).idxOf l
theorem rk_lt : ∀ a : Fin 16, ∀ b : Fin 16, a.val ≠ 0 → b.val ≠ 0 → (ltL (lst a.val) (lst b.val) ↔ rkL (lst a.val) < rkL (lst b.val)) := by decide +kernel
theorem rk_inj : ∀ a : Fin 16, ∀ b : Fin 16, a.val ≠ 0 → b.val ≠ 0 → rkL (lst a.val) = rkL (lst b.val) → a = b := by decide +kernel
theorem allK_sorted : ∀ n : Fin 5, (allK n.val n.val).Pairwise fun l m => rkL l < rkL m := by decide +kernel
theorem allK_sets : ∀ n : Fin 5, ∀ s : Fin 16, s.val ≠ 0 → s.val < 2 ^ n.val → lst s.val ∈ allK n.val n.val := by decide +kernel
theorem allK_lists : ∀ n : Fin 5, ∀ l ∈ allK n.val n.val, ∃ s : Fin 16, s.val ≠ 0 ∧ s.val < 2 ^ n.val ∧ lst s.val = l := by decide +kernel
theorem lst_ne : ∀ s : Fin 16, lst s.val = [] ↔ s.val = 0 := by decide +kernel
theorem range4 {n : Nat} (hn : n ≤ 4) (f : Nat → Bool) : (List.range 4).filter (fun c => decide (c < n) && f c) = (List.range n).filter f := by
  have h : n = 0 ∨ n = 1 ∨ n = 2 ∨ n = 3 ∨ n = 4 := by omega
  have e4 : List.range 4 = [0, 1, 2, 3] := rfl
  have e3 : List.range 3 = [0, 1, 2] := rfl
  have e2 : List.range 2 = [0, 1] := rfl
  have e1 : List.range 1 = [0] := rfl
  rcases h with rfl | rfl | rfl | rfl | rfl <;> simp [e4, e3, e2, e1, List.filter_cons]
theorem zeros_lst {t : Tb} (hc : chkT t = 0) (s : Nat) : lst (zerosN t s) = zerosZ t (up (lst s)) := by
  obtain ⟨n1, n2, hrows⟩ := chkT_ok hc
  rw [zerosN, lst_bits]
  have h : zerosB t (lst s) = fun c => decide (c < t.length) && (up (lst s)).all fun r => decide (cell t r.toNat c = 0) := by
    funext c
    unfold zerosB up
    rw [List.all_map]
    congr 2
    funext r
    have := (cell_rng hc r c).1
    simp only [Function.comp, Int.toNat_natCast]
    by_cases h0 : cell t r c = 0
    · simp [h0]
    · have : 0 < cell t r c := by omega
      simp [h0, this]
  rw [h, range4 n2]; rfl
/-- What is asked of a set. -/
def setQ (t : Tb) (s : Nat) : Bool := barQ t (lst s)
theorem barStep_eq {t : Tb} (hc : chkT t = 0) {s : Nat} (hs : s < 16) (h0 : s ≠ 0) {b : Option Nat} : barStep t s b = if setQ t s = true then (match b with | none => some s | some b' => if ltL (lst s) (lst b') then some s else some b') else b := by
  unfold barStep setQ barQ
  have hne : lst s ≠ [] := fun h => h0 ((lst_ne ⟨s, hs⟩).1 h)
  have e : popN (zerosN t s) = (zerosZ t (up (lst s))).length := by rw [popN, zeros_lst hc]
  rw [e]
  by_cases hq : t.length < (zerosZ t (up (lst s))).length + (lst s).length
  · rw [if_neg (by rintro (h | h); exact hne h; omega), if_pos (decide_eq_true hq)]
    rfl
  · rw [if_pos (.inr (by omega)), if_neg (by simpa using hq)]
theorem barF_best {t : Tb} (hc : chkT t = 0) : ∀ m, m ≤ 2 ^ t.length → (barF t m = none → ∀ s, s < m → s ≠ 0 → setQ t s = false) ∧ (∀ s, barF t m = some s → s ≠ 0 ∧ s < m ∧ setQ t s = true ∧ ∀ s', s' < m → s' ≠ 0 → setQ t s' = true → rkL (lst s) ≤ rkL (lst s'))
  | 0, _ => ⟨fun _ s hs => by omega, fun s h => by cases h⟩
  | m + 1, hm => by
    obtain ⟨n1, n2, hrows⟩ := chkT_ok hc
    have h16 : 2 ^ t.length ≤ 16 := by
      have : 2 ^ t.length ≤ 2 ^ 4 := Nat.pow_le_pow_right (by omega) n2
      have e : 2 ^ 4 = 16 := by decide
      omega
    obtain ⟨ih1, ih2⟩ := barF_best hc m (by omega)
    rw [barF]
    by_cases h0 : m = 0
    · subst h0
      have : barStep t 0 (barF t 0) = none := by
        unfold barStep
        rw [if_pos (.inl (by decide))]; rfl
      rw [this]
      exact ⟨fun _ s h1 h2 => by omega, fun s h => by cases h⟩
    rw [barStep_eq hc (by omega) h0]
    by_cases hq : setQ t m = true
    · rw [if_pos hq]
      cases hb : barF t m with
      | none =>
        have hnone := ih1 hb
        refine ⟨fun h => (by cases h), fun s h => ?_⟩
        cases h
        refine ⟨h0, by omega, hq, fun s' h1 h2 h3 => ?_⟩
        by_cases he : s' = m
        · subst he; exact Nat.le_refl _
        · rw [hnone s' (by omega) h2] at h3; cases h3
      | some b =>
        obtain ⟨q1, q2, q3, q4⟩ := ih2 b hb
        have hlt := rk_lt ⟨m, by omega⟩ ⟨b, by omega⟩ h0 q1
        simp only at hlt
        refine ⟨fun h => (by simp only at h; split at h <;> cases h), fun s h => ?_⟩
        simp only at h
        by_cases hl : ltL (lst m) (lst b)
        · rw [if_pos hl] at h
          cases h
          have := hlt.1 hl
          refine ⟨h0, by omega, hq, fun s' h1 h2 h3 => ?_⟩
          by_cases he : s' = m
          · subst he; exact Nat.le_refl _
          · have := q4 s' (by omega) h2 h3; omega
        · rw [if_neg hl] at h
          cases h
          have : ¬ rkL (lst m) < rkL (lst b) := fun h => hl (hlt.2 h)
          refine ⟨q1, by omega, q3, fun s' h1 h2 h3 => ?_⟩
          by_cases he : s' = m
          · subst he; omega
          · exact q4 s' (by omega) h2 h3
    · rw [if_neg hq]
      refine ⟨fun h s h1 h2 => ?_, fun s h => ?_⟩
      · by_cases he : s = m
        · subst he; simpa using hq
        · exact ih1 h s (by omega) h2
      · obtain ⟨q1, q2, q3, q4⟩ := ih2 s h
        refine ⟨q1, by omega, q3, fun s' h1 h2 h3 => ?_⟩
        by_cases he : s' = m
        · subst he; exact absurd h3 hq
        · exact q4 s' (by omega) h2 h3
/-- BOTH BLOCKS ARE THE SAME. -/
theorem bar_eq (t : Tb) : barO t = barR t := by
  by_cases hc : chkT t = 0
  · obtain ⟨n1, n2, hrows⟩ := chkT_ok hc
    have h16 : 2 ^ t.length ≤ 16 := by
      have : 2 ^ t.length ≤ 2 ^ 4 := Nat.pow_le_pow_right (by omega) n2
      have e : 2 ^ 4 = 16 := by decide
      omega
    rw [barO, barR, if_neg (by simp [hc]), if_neg (by simp [hc])]
    obtain ⟨b1, b2⟩ := barF_best hc (2 ^ t.length) (Nat.le_refl _)
    cases hb : barF t (2 ^ t.length) with
    | none =>
      have hnone := b1 hb
      have : (allK t.length t.length).find? (barQ t) = none := by
        rw [List.find?_eq_none]
        intro l hl hq
        obtain ⟨s, s1, s2, rfl⟩ := allK_lists ⟨t.length, by omega⟩ l hl
        have := hnone s.val s2 s1
        unfold setQ at this
        rw [this] at hq; cases hq
      rw [this]
    | some s =>
      obtain ⟨q1, q2, q3, q4⟩ := b2 s hb
      have hmem := allK_sets ⟨t.length, by omega⟩ ⟨s, by omega⟩ q1 q2
      cases hf : (allK t.length t.length).find? (barQ t) with
      | none =>
        rw [List.find?_eq_none] at hf
        exact absurd q3 (hf _ hmem)
      | some l =>
        obtain ⟨hQ, pre, post, hall, has⟩ := List.find?_eq_some_iff_append.1 hf
        have hlm : l ∈ allK t.length t.length := by rw [hall]; simp
        obtain ⟨s', s1, s2, rfl⟩ := allK_lists ⟨t.length, by omega⟩ l hlm
        have h1 := q4 s'.val s2 s1 hQ
        have hsort := allK_sorted ⟨t.length, by omega⟩
        simp only at hsort hmem
        rw [hall, List.pairwise_append, List.pairwise_cons] at hsort
        rw [hall, List.mem_append, List.mem_cons] at hmem
        have h2 : rkL (lst s'.val) ≤ rkL (lst s) := by
          rcases hmem with h | h | h
          · have := has _ h
            unfold setQ at q3
            rw [q3] at this; cases this
          · rw [h]; exact Nat.le_refl _
          · exact Nat.le_of_lt (hsort.2.1.1 _ h)
        have h3 := rk_inj ⟨s, by omega⟩ s' q1 s1 (by simp only; omega)
        obtain rfl : s = s'.val := by rw [← h3]
        simp only
        rw [zeros_lst hc]
  · rw [barO, barR, if_pos hc, if_pos hc]
end Go.Proofs.YtbofkeoebnjjkaaDoor

namespace Go.Proofs.YtbofkeoebnjjkaaDoor
open Tab
set_option linter.unusedVariables false
set_option linter.unusedSimpArgs false
set_option maxRecDepth 20000

/- No plan within a table: a block (at most four rows). -/
def plW (n : Nat) (m : Nat → Nat) : Bool := (plansS n).any fun p => (List.range n).all fun r => (m r).testBit (p.getD r 0)
def zrs (n : Nat) (m : Nat → Nat) (s : Nat) : List Nat := (List.range n).filter fun c => (lst s).all fun r => !(m r).testBit c
def blkS (n : Nat) (m : Nat → Nat) (s : Nat) : Bool := s != 0 && decide (n < (zrs n m s).length + (lst s).length)
def m4 (a b c d : Nat) (r : Nat) : Nat := match r with | 0 => a | 1 => b | 2 => c | _ => d
theorem small_blk1 : ∀ a : Fin 2, plW 1 (m4 a.val 0 0 0) = false → ∃ s : Fin 16, s.val < 2 ∧ blkS 1 (m4 a.val 0 0 0) s.val = true := by decide +kernel
theorem small_blk2 : ∀ a b : Fin 4, plW 2 (m4 a.val b.val 0 0) = false → ∃ s : Fin 16, s.val < 4 ∧ blkS 2 (m4 a.val b.val 0 0) s.val = true := by decide +kernel
theorem small_blk3 : ∀ a b c : Fin 8, plW 3 (m4 a.val b.val c.val 0) = false → ∃ s : Fin 16, s.val < 8 ∧ blkS 3 (m4 a.val b.val c.val 0) s.val = true := by decide +kernel
/-- One bit of a number. -/
def bt (a x : Nat) : Nat := Nat.mod (Nat.div a (Nat.pow 2 x)) 2
/-- In how many ways three rows have the other columns. -/
def pr0 (a b c : Nat) : Nat := bt a 1 * (bt b 2 * bt c 3) + bt a 1 * (bt b 3 * bt c 2) + bt a 2 * (bt b 1 * bt c 3) + bt a 2 * (bt b 3 * bt c 1) + bt a 3 * (bt b 1 * bt c 2) + bt a 3 * (bt b 2 * bt c 1)
def pr1 (a b c : Nat) : Nat := bt a 0 * (bt b 2 * bt c 3) + bt a 0 * (bt b 3 * bt c 2) + bt a 2 * (bt b 0 * bt c 3) + bt a 2 * (bt b 3 * bt c 0) + bt a 3 * (bt b 0 * bt c 2) + bt a 3 * (bt b 2 * bt c 0)
def pr2 (a b c : Nat) : Nat := bt a 0 * (bt b 1 * bt c 3) + bt a 0 * (bt b 3 * bt c 1) + bt a 1 * (bt b 0 * bt c 3) + bt a 1 * (bt b 3 * bt c 0) + bt a 3 * (bt b 0 * bt c 1) + bt a 3 * (bt b 1 * bt c 0)
def pr3 (a b c : Nat) : Nat := bt a 0 * (bt b 1 * bt c 2) + bt a 0 * (bt b 2 * bt c 1) + bt a 1 * (bt b 0 * bt c 2) + bt a 1 * (bt b 2 * bt c 0) + bt a 2 * (bt b 0 * bt c 1) + bt a 2 * (bt b 1 * bt c 0)
/-- The columns that the last row may not have. -/
def gap (a b c : Nat) : Nat := cond (Nat.beq (pr0 a b c) 0) 1 0 + (cond (Nat.beq (pr1 a b c) 0) 2 0 + (cond (Nat.beq (pr2 a b c) 0) 4 0 + cond (Nat.beq (pr3 a b c) 0) 8 0))
def pc (x : Nat) : Nat := Nat.mod (Nat.div 0x4332322132212110 (Nat.pow 16 x)) 16
def viol (a b c d : Nat) : Nat := cond (Nat.blt (pc d) 1) 8 (cond (Nat.blt (pc c) 1) 4 (cond (Nat.blt (pc b) 1) 2 (cond (Nat.blt (pc a) 1) 1 (cond (Nat.blt (pc (Nat.lor c d)) 2) 12 (cond (Nat.blt (pc (Nat.lor b d)) 2) 10 (cond (Nat.blt (pc (Nat.lor a d)) 2) 9 (cond (Nat.blt (pc (Nat.lor b c)) 2) 6 (cond (Nat.blt (pc (Nat.lor a c)) 2) 5 (cond (Nat.blt (pc (Nat.lor a b)) 2) 3 (cond (Nat.blt (pc (Nat.lor (Nat.lor b c) d)) 3) 14 (cond (Nat.blt (pc (Nat.lor (Nat.lor a c) d)) 3) 13 (cond (Nat.blt (pc (Nat.lor (Nat.lor a b) d)) 3) 11 (cond (Nat.blt (pc (Nat.lor (Nat.lor a b) c)) 3) 7 (cond (Nat.blt (pc (Nat.lor (Nat.lor (Nat.lor a b) c) d)) 4) 15 (0)))))))))))))))
def okC (a b : Nat) : Nat → Bool
  | 0 => true
  | c + 1 => blkS 4 (m4 a b c (gap a b c)) (viol a b c (gap a b c)) && okC a b c
def okB (a : Nat) : Nat → Bool
  | 0 => true
  | b + 1 => okC a b 16 && okB a b
def okA : Nat → Bool
  | 0 => true
  | a + 1 => okB a 16 && okA a
theorem okall : okA 16 = true := by decide +kernel
theorem okA_at : ∀ {n a : Nat}, okA n = true → a < n → okB a 16 = true
  | n + 1, a, h, ha => by
    rw [okA, Bool.and_eq_true] at h
    by_cases he : a = n
    · subst he; exact h.1
    · exact okA_at h.2 (by omega)
theorem okB_at {a : Nat} : ∀ {n b : Nat}, okB a n = true → b < n → okC a b 16 = true
  | n + 1, b, h, hb => by
    rw [okB, Bool.and_eq_true] at h
    by_cases he : b = n
    · subst he; exact h.1
    · exact okB_at h.2 (by omega)
theorem okC_at {a b : Nat} : ∀ {n c : Nat}, okC a b n = true → c < n → blkS 4 (m4 a b c (gap a b c)) (viol a b c (gap a b c)) = true
  | n + 1, c, h, hc => by
    rw [okC, Bool.and_eq_true] at h
    by_cases he : c = n
    · subst he; exact h.1
    · exact okC_at h.2 (by omega)
theorem blk4 {a b c : Nat} (ha : a < 16) (hb : b < 16) (hc : c < 16) : blkS 4 (m4 a b c (gap a b c)) (viol a b c (gap a b c)) = true := okC_at (okB_at (okA_at okall ha) hb) hc
theorem cond_lt (b : Bool) {x y : Nat} (hx : x < 16) (hy : y < 16) : cond b x y < 16 := by cases b <;> assumption
theorem viol_lt (a b c d : Nat) : viol a b c d < 16 := by
  unfold viol
  repeat (refine cond_lt _ (by decide) ?_)
  decide
theorem getD_memN {l : List Nat} {i : Nat} (h : i < l.length) : l.getD i 0 ∈ l := by
  rw [List.getD_eq_getElem?_getD, List.getElem?_eq_getElem h]; exact List.getElem_mem h
/-- The columns above 0 of a row. -/
def mk (t : Tb) (r : Nat) : Nat := bits4 fun c => decide (0 < cell t r c)
theorem mk_bit {t : Tb} {r c : Nat} (hc : c < 4) : (mk t r).testBit c = decide (0 < cell t r c) := bits4_test hc
theorem mk_lt (t : Tb) (r : Nat) : mk t r < 16 := bits4_lt _
theorem bt_bit {a x : Nat} (h : bt a x ≠ 0) : a.testBit x = true := by
  rw [Nat.testBit_eq_decide_div_mod_eq, decide_eq_true_eq]
  have : bt a x = a / 2 ^ x % 2 := rfl
  omega
theorem bt3 {a b c x y z : Nat} (h : bt a x * (bt b y * bt c z) ≠ 0) : a.testBit x = true ∧ b.testBit y = true ∧ c.testBit z = true := by
  have h1 : bt a x ≠ 0 := fun h0 => h (by rw [h0, Nat.zero_mul])
  have h2 : bt b y * bt c z ≠ 0 := fun h0 => h (by rw [h0, Nat.mul_zero])
  have h3 : bt b y ≠ 0 := fun h0 => h2 (by rw [h0, Nat.zero_mul])
  have h4 : bt c z ≠ 0 := fun h0 => h2 (by rw [h0, Nat.mul_zero])
  exact ⟨bt_bit h1, bt_bit h3, bt_bit h4⟩
theorem six {u v w x y z : Nat} (h : u + v + w + x + y + z ≠ 0) : u ≠ 0 ∨ v ≠ 0 ∨ w ≠ 0 ∨ x ≠ 0 ∨ y ≠ 0 ∨ z ≠ 0 := by omega
theorem mem_within {t : Tb} (hc : chkT t = 0) {p : List Nat} (hp : p ∈ plansS t.length) (h : ∀ r, r < t.length → 0 < cell t r (p.getD r 0)) : p ∈ withinS t := by
  obtain ⟨r, h1, h2⟩ := leastK_in (t := t) (p := up p) t.length (chkT_ok hc).1
  rw [up_getN] at h2
  exact List.mem_filter.2 ⟨hp, decide_eq_true (by have := h r h1; omega)⟩
theorem within_pos {t : Tb} {p : List Nat} (hp : p ∈ withinS t) : p ∈ plansS t.length ∧ ∀ r, r < t.length → 0 < cell t r (p.getD r 0) := by
  obtain ⟨h1, h2⟩ := List.mem_filter.1 hp
  refine ⟨h1, fun r hr => ?_⟩
  have h3 := leastK_le (t := t) (p := up p) t.length r hr
  rw [up_getN] at h3
  have := of_decide_eq_true h2
  omega
theorem gap_bits : ∀ e0 e1 e2 e3 : Bool, ∀ x : Fin 4, (cond e0 1 0 + (cond e1 2 0 + (cond e2 4 0 + cond e3 8 0))).testBit x.val = [e0, e1, e2, e3].getD x.val false := by decide +kernel
theorem gap_0 {t : Tb} (hc : chkT t = 0) (hl : t.length = 4) (hn : withinS t = []) (h : 0 < cell t 3 0) : pr0 (mk t 0) (mk t 1) (mk t 2) = 0 := by
  refine Classical.byContradiction fun hx => ?_
  have key : ∀ y0 y1 y2, [y0, y1, y2, 0] ∈ plansS 4 → y0 < 4 → y1 < 4 → y2 < 4 → ¬ (bt (mk t 0) y0 * (bt (mk t 1) y1 * bt (mk t 2) y2) ≠ 0) := by
    intro y0 y1 y2 hp l0 l1 l2 hne
    obtain ⟨q0, q1, q2⟩ := bt3 hne
    rw [mk_bit l0] at q0
    rw [mk_bit l1] at q1
    rw [mk_bit l2] at q2
    have : [y0, y1, y2, 0] ∈ withinS t := mem_within hc (by rw [hl]; exact hp) fun r hr => by
      have hr4 : r = 0 ∨ r = 1 ∨ r = 2 ∨ r = 3 := by omega
      rcases hr4 with rfl | rfl | rfl | rfl
      · exact of_decide_eq_true q0
      · exact of_decide_eq_true q1
      · exact of_decide_eq_true q2
      · exact h
    rw [hn] at this
    cases this
  unfold pr0 at hx
  rcases six hx with h | h | h | h | h | h
  · exact key 1 2 3 (by decide) (by omega) (by omega) (by omega) h
  · exact key 1 3 2 (by decide) (by omega) (by omega) (by omega) h
  · exact key 2 1 3 (by decide) (by omega) (by omega) (by omega) h
  · exact key 2 3 1 (by decide) (by omega) (by omega) (by omega) h
  · exact key 3 1 2 (by decide) (by omega) (by omega) (by omega) h
  · exact key 3 2 1 (by decide) (by omega) (by omega) (by omega) h
theorem gap_1 {t : Tb} (hc : chkT t = 0) (hl : t.length = 4) (hn : withinS t = []) (h : 0 < cell t 3 1) : pr1 (mk t 0) (mk t 1) (mk t 2) = 0 := by
  refine Classical.byContradiction fun hx => ?_
  have key : ∀ y0 y1 y2, [y0, y1, y2, 1] ∈ plansS 4 → y0 < 4 → y1 < 4 → y2 < 4 → ¬ (bt (mk t 0) y0 * (bt (mk t 1) y1 * bt (mk t 2) y2) ≠ 0) := by
    intro y0 y1 y2 hp l0 l1 l2 hne
    obtain ⟨q0, q1, q2⟩ := bt3 hne
    rw [mk_bit l0] at q0
    rw [mk_bit l1] at q1
    rw [mk_bit l2] at q2
    have : [y0, y1, y2, 1] ∈ withinS t := mem_within hc (by rw [hl]; exact hp) fun r hr => by
      have hr4 : r = 0 ∨ r = 1 ∨ r = 2 ∨ r = 3 := by omega
      rcases hr4 with rfl | rfl | rfl | rfl
      · exact of_decide_eq_true q0
      · exact of_decide_eq_true q1
      · exact of_decide_eq_true q2
      · exact h
    rw [hn] at this
    cases this
  unfold pr1 at hx
  rcases six hx with h | h | h | h | h | h
  · exact key 0 2 3 (by decide) (by omega) (by omega) (by omega) h
  · exact key 0 3 2 (by decide) (by omega) (by omega) (by omega) h
  · exact key 2 0 3 (by decide) (by omega) (by omega) (by omega) h
  · exact key 2 3 0 (by decide) (by omega) (by omega) (by omega) h
  · exact key 3 0 2 (by decide) (by omega) (by omega) (by omega) h
  · exact key 3 2 0 (by decide) (by omega) (by omega) (by omega) h
theorem gap_2 {t : Tb} (hc : chkT t = 0) (hl : t.length = 4) (hn : withinS t = []) (h : 0 < cell t 3 2) : pr2 (mk t 0) (mk t 1) (mk t 2) = 0 := by
  refine Classical.byContradiction fun hx => ?_
  have key : ∀ y0 y1 y2, [y0, y1, y2, 2] ∈ plansS 4 → y0 < 4 → y1 < 4 → y2 < 4 → ¬ (bt (mk t 0) y0 * (bt (mk t 1) y1 * bt (mk t 2) y2) ≠ 0) := by
    intro y0 y1 y2 hp l0 l1 l2 hne
    obtain ⟨q0, q1, q2⟩ := bt3 hne
    rw [mk_bit l0] at q0
    rw [mk_bit l1] at q1
    rw [mk_bit l2] at q2
    have : [y0, y1, y2, 2] ∈ withinS t := mem_within hc (by rw [hl]; exact hp) fun r hr => by
      have hr4 : r = 0 ∨ r = 1 ∨ r = 2 ∨ r = 3 := by omega
      rcases hr4 with rfl | rfl | rfl | rfl
      · exact of_decide_eq_true q0
      · exact of_decide_eq_true q1
      · exact of_decide_eq_true q2
      · exact h
    rw [hn] at this
    cases this
  unfold pr2 at hx
  rcases six hx with h | h | h | h | h | h
  · exact key 0 1 3 (by decide) (by omega) (by omega) (by omega) h
  · exact key 0 3 1 (by decide) (by omega) (by omega) (by omega) h
  · exact key 1 0 3 (by decide) (by omega) (by omega) (by omega) h
  · exact key 1 3 0 (by decide) (by omega) (by omega) (by omega) h
  · exact key 3 0 1 (by decide) (by omega) (by omega) (by omega) h
  · exact key 3 1 0 (by decide) (by omega) (by omega) (by omega) h
theorem gap_3 {t : Tb} (hc : chkT t = 0) (hl : t.length = 4) (hn : withinS t = []) (h : 0 < cell t 3 3) : pr3 (mk t 0) (mk t 1) (mk t 2) = 0 := by
  refine Classical.byContradiction fun hx => ?_
  have key : ∀ y0 y1 y2, [y0, y1, y2, 3] ∈ plansS 4 → y0 < 4 → y1 < 4 → y2 < 4 → ¬ (bt (mk t 0) y0 * (bt (mk t 1) y1 * bt (mk t 2) y2) ≠ 0) := by
    intro y0 y1 y2 hp l0 l1 l2 hne
    obtain ⟨q0, q1, q2⟩ := bt3 hne
    rw [mk_bit l0] at q0
    rw [mk_bit l1] at q1
    rw [mk_bit l2] at q2
    have : [y0, y1, y2, 3] ∈ withinS t := mem_within hc (by rw [hl]; exact hp) fun r hr => by
      have hr4 : r = 0 ∨ r = 1 ∨ r = 2 ∨ r = 3 := by omega
      rcases hr4 with rfl | rfl | rfl | rfl
      · exact of_decide_eq_true q0
      · exact of_decide_eq_true q1
      · exact of_decide_eq_true q2
      · exact h
    rw [hn] at this
    cases this
  unfold pr3 at hx
  rcases six hx with h | h | h | h | h | h
  · exact key 0 1 2 (by decide) (by omega) (by omega) (by omega) h
  · exact key 0 2 1 (by decide) (by omega) (by omega) (by omega) h
  · exact key 1 0 2 (by decide) (by omega) (by omega) (by omega) h
  · exact key 1 2 0 (by decide) (by omega) (by omega) (by omega) h
  · exact key 2 0 1 (by decide) (by omega) (by omega) (by omega) h
  · exact key 2 1 0 (by decide) (by omega) (by omega) (by omega) h
theorem gap_sub {t : Tb} (hc : chkT t = 0) (hl : t.length = 4) (hn : withinS t = []) {x : Nat} (hx : x < 4) (h : 0 < cell t 3 x) : (gap (mk t 0) (mk t 1) (mk t 2)).testBit x = true := by
  unfold gap
  have hb : ∀ k : Nat, k = 0 → Nat.beq k 0 = true := fun k hk => by subst hk; rfl
  have hx4 : x = 0 ∨ x = 1 ∨ x = 2 ∨ x = 3 := by omega
  rcases hx4 with rfl | rfl | rfl | rfl
  · exact (gap_bits _ _ _ _ ⟨0, by omega⟩).trans (hb _ (gap_0 hc hl hn h))
  · exact (gap_bits _ _ _ _ ⟨1, by omega⟩).trans (hb _ (gap_1 hc hl hn h))
  · exact (gap_bits _ _ _ _ ⟨2, by omega⟩).trans (hb _ (gap_2 hc hl hn h))
  · exact (gap_bits _ _ _ _ ⟨3, by omega⟩).trans (hb _ (gap_3 hc hl hn h))
theorem filter_mono' {α : Type} {p q : α → Bool} : ∀ l : List α, (∀ x ∈ l, p x = true → q x = true) → (l.filter p).length ≤ (l.filter q).length
  | [], _ => Nat.le_refl _
  | a :: l, h => by
    have := filter_mono' l fun x hx => h x (by simp [hx])
    rw [List.filter_cons, List.filter_cons]
    by_cases hp : p a = true
    · rw [if_pos hp, if_pos (h a (by simp) hp)]; simp; exact this
    · rw [if_neg hp]
      split
      · simp; omega
      · exact this
theorem lst_lt4 {s c : Nat} (h : c ∈ lst s) : c < 4 := by
  have := (List.mem_filter.1 h).1
  simpa using this
/-- A block of the masks is a block of the table. -/
theorem blk_set {t : Tb} (hc : chkT t = 0) {m : Nat → Nat} {s : Nat} (hm : ∀ r c, r ∈ lst s → c < t.length → 0 < cell t r c → (m r).testBit c = true) (h : blkS t.length m s = true) : s ≠ 0 ∧ setQ t s = true := by
  unfold blkS at h
  rw [Bool.and_eq_true] at h
  obtain ⟨h1, h2⟩ := h
  refine ⟨by simpa using h1, ?_⟩
  have h3 := of_decide_eq_true h2
  have h4 : (zrs t.length m s).length ≤ (zerosZ t (up (lst s))).length := by
    unfold zrs zerosZ
    refine filter_mono' _ fun c hcm h => ?_
    rw [List.all_eq_true] at h ⊢
    intro r hr
    obtain ⟨r', hr', rfl⟩ := List.mem_map.1 hr
    rw [Int.toNat_natCast]
    have h5 := h r' hr'
    have h6 := (cell_rng hc r' c).1
    by_cases h7 : 0 < cell t r' c
    · rw [hm r' c hr' (by simpa using hcm) h7] at h5; cases h5
    · exact decide_eq_true (by omega)
  exact decide_eq_true (by omega)
theorem plW_none {t : Tb} (hc : chkT t = 0) (hn : withinS t = []) {m : Nat → Nat} (hm : ∀ r c, r < t.length → c < t.length → (m r).testBit c = true → 0 < cell t r c) : plW t.length m = false := by
  refine Bool.eq_false_iff.2 fun h => ?_
  unfold plW at h
  rw [List.any_eq_true] at h
  obtain ⟨p, hp, h⟩ := h
  rw [List.all_eq_true] at h
  have : p ∈ withinS t := mem_within hc hp fun r hr => hm r _ hr ((plansS_mem hp).2 _ (getD_memN (by rw [(plansS_mem hp).1]; exact hr))) (h r (by simpa using hr))
  rw [hn] at this
  cases this
theorem b4_lt2 : ∀ a b c d : Bool, (c = false → d = false → b4 a b c d < 4) ∧ (d = false → b4 a b c d < 8) ∧ (b = false → c = false → d = false → b4 a b c d < 2) := by decide
theorem mk_small {t : Tb} (hc : chkT t = 0) (r : Nat) : (t.length ≤ 3 → mk t r < 8) ∧ (t.length ≤ 2 → mk t r < 4) ∧ (t.length ≤ 1 → mk t r < 2) := by
  have h0 : ∀ c, t.length ≤ c → decide (0 < cell t r c) = false := by
    intro c hcl
    have : cell t r c = 0 := by
      unfold cell
      by_cases hr : r < t.length
      · rw [List.getD_eq_getElem?_getD, List.getElem?_eq_none (by have := row_len hc hr; omega)]; rfl
      · have : row t r = [] := by rw [row, List.getD_eq_getElem?_getD, List.getElem?_eq_none (by omega)]; rfl
        rw [this]; rfl
    rw [this]; rfl
  unfold mk bits4
  obtain ⟨q1, q2, q3⟩ := b4_lt2 (decide (0 < cell t r 0)) (decide (0 < cell t r 1)) (decide (0 < cell t r 2)) (decide (0 < cell t r 3))
  exact ⟨fun h => q2 (h0 3 h), fun h => q1 (h0 2 h) (h0 3 (by omega)), fun h => q3 (h0 1 h) (h0 2 (by omega)) (h0 3 (by omega))⟩
/-- NO PLAN, A BLOCK. -/
theorem no_plan {t : Tb} (hc : chkT t = 0) (hn : withinS t = []) : ∃ s, s ≠ 0 ∧ s < 2 ^ t.length ∧ setQ t s = true := by
  obtain ⟨n1, n2, hrows⟩ := chkT_ok hc
  have hs := mk_small hc
  have h : t.length = 1 ∨ t.length = 2 ∨ t.length = 3 ∨ t.length = 4 := by omega
  have up' : ∀ (a b c d : Nat) (hm : ∀ r, r < t.length → m4 a b c d r = mk t r), plW t.length (m4 a b c d) = false := fun a b c d hm => plW_none hc hn fun r x hr hx hb => by
    rw [hm r hr, mk_bit (by omega)] at hb; exact of_decide_eq_true hb
  have fin : ∀ (a b c d : Nat) (hm : ∀ r, r < t.length → m4 a b c d r = mk t r) (s : Nat), s < 2 ^ t.length → blkS t.length (m4 a b c d) s = true → ∃ s, s ≠ 0 ∧ s < 2 ^ t.length ∧ setQ t s = true := fun a b c d hm s hsl hb => by
    obtain ⟨q1, q2⟩ := blk_set hc (fun r x hr hx h0 => by rw [hm r (lst_mem hsl hr), mk_bit (by omega)]; exact decide_eq_true h0) hb
    exact ⟨s, q1, hsl, q2⟩
  rcases h with h | h | h | h
  · have hm : ∀ r, r < t.length → m4 (mk t 0) 0 0 0 r = mk t r := fun r hr => by
      obtain rfl : r = 0 := by omega
      rfl
    have h1 := up' _ _ _ _ hm
    rw [h] at h1
    obtain ⟨s, s1, s2⟩ := small_blk1 ⟨mk t 0, (hs 0).2.2 (by omega)⟩ h1
    exact fin _ _ _ _ hm s.val (by rw [h]; exact s1) (by rw [h]; exact s2)
  · have hm : ∀ r, r < t.length → m4 (mk t 0) (mk t 1) 0 0 r = mk t r := fun r hr => by
      have : r = 0 ∨ r = 1 := by omega
      rcases this with rfl | rfl <;> rfl
    have h1 := up' _ _ _ _ hm
    rw [h] at h1
    obtain ⟨s, s1, s2⟩ := small_blk2 ⟨mk t 0, (hs 0).2.1 (by omega)⟩ ⟨mk t 1, (hs 1).2.1 (by omega)⟩ h1
    exact fin _ _ _ _ hm s.val (by rw [h]; exact s1) (by rw [h]; exact s2)
  · have hm : ∀ r, r < t.length → m4 (mk t 0) (mk t 1) (mk t 2) 0 r = mk t r := fun r hr => by
      have : r = 0 ∨ r = 1 ∨ r = 2 := by omega
      rcases this with rfl | rfl | rfl <;> rfl
    have h1 := up' _ _ _ _ hm
    rw [h] at h1
    obtain ⟨s, s1, s2⟩ := small_blk3 ⟨mk t 0, (hs 0).1 (by omega)⟩ ⟨mk t 1, (hs 1).1 (by omega)⟩ ⟨mk t 2, (hs 2).1 (by omega)⟩ h1
    exact fin _ _ _ _ hm s.val (by rw [h]; exact s1) (by rw [h]; exact s2)
  · have hb := blk4 (mk_lt t 0) (mk_lt t 1) (mk_lt t 2)
    rw [← h] at hb
    obtain ⟨q1, q2⟩ := blk_set hc (s := viol (mk t 0) (mk t 1) (mk t 2) (gap (mk t 0) (mk t 1) (mk t 2))) (fun r x hr hx h0 => by
      have hr4 : r = 0 ∨ r = 1 ∨ r = 2 ∨ r = 3 := by have := lst_lt4 hr; omega
      rcases hr4 with rfl | rfl | rfl | rfl
      · show (mk t 0).testBit x = true
        rw [mk_bit (by omega)]; exact decide_eq_true h0
      · show (mk t 1).testBit x = true
        rw [mk_bit (by omega)]; exact decide_eq_true h0
      · show (mk t 2).testBit x = true
        rw [mk_bit (by omega)]; exact decide_eq_true h0
      · exact gap_sub hc h hn (by omega) h0) hb
    exact ⟨_, q1, by rw [h]; exact viol_lt _ _ _ _, q2⟩
theorem pigeon : ∀ n : Fin 5, ∀ p ∈ plansS n.val, ∀ s : Fin 16, s.val < 2 ^ n.val → ((List.range n.val).filter fun c => (lst s.val).all fun r => decide (p.getD r 0 ≠ c)).length + (lst s.val).length ≤ n.val := by decide +kernel
/-- A PLAN, NO BLOCK. -/
theorem plan_no {t : Tb} (hc : chkT t = 0) {p : List Nat} (hp : p ∈ withinS t) {s : Nat} (hs : s < 2 ^ t.length) : setQ t s = false := by
  obtain ⟨n1, n2, hrows⟩ := chkT_ok hc
  obtain ⟨h1, h2⟩ := within_pos hp
  have h16 : 2 ^ t.length ≤ 16 := by
    have : 2 ^ t.length ≤ 2 ^ 4 := Nat.pow_le_pow_right (by omega) n2
    have e : 2 ^ 4 = 16 := by decide
    omega
  have h3 := pigeon ⟨t.length, by omega⟩ p h1 ⟨s, by omega⟩ hs
  simp only at h3
  have h4 : (zerosZ t (up (lst s))).length ≤ ((List.range t.length).filter fun c => (lst s).all fun r => decide (p.getD r 0 ≠ c)).length := by
    unfold zerosZ
    refine filter_mono' _ fun c hcm h => ?_
    rw [List.all_eq_true] at h ⊢
    intro r hr
    refine decide_eq_true fun he => ?_
    have h5 := of_decide_eq_true (h (r : Int) (List.mem_map.2 ⟨r, hr, rfl⟩))
    rw [Int.toNat_natCast] at h5
    have h6 := h2 r (lst_mem hs hr)
    rw [he] at h6
    omega
  exact decide_eq_false (by omega)
end Go.Proofs.YtbofkeoebnjjkaaDoor

namespace Go.Proofs.YtbofkeoebnjjkaaDoor
open Go.Av Tab
set_option linter.unusedVariables false
set_option linter.unusedSimpArgs false
set_option maxRecDepth 4000

theorem b50 {x y : AV} (hx : cellsOf? x = some [x]) (hy : cellsOf? y = some [y]) : buildF Tryd.prog 50 [(0, x), (1, y)] = some (.agg [x, y]) := by
  rw [buildF_of (show buildPlan Tryd.prog 50 = some ([.nils, .int .i64 0], [(0, 1), (1, 1)]) by kernel_rfl)]
  simp [fillA, hx, hy, splice]
theorem l45b {x y : AV} : literalF Tryd.prog 45 1 [(0, .agg [x, y])] = some [x, y] := by
  rw [literalF_of (show literalPlan Tryd.prog 45 = some ([.nils, .int .i64 0], 2) by kernel_rfl) (by decide) (by simp)]
  simp [fillA, splice, rowOf]
def isPlan (n : Nat) (p : List Nat) : Prop := p.length = n ∧ ∀ c ∈ p, c < n
theorem isPlan.fit {t : Tb} (hc : chkT t = 0) {p : List Nat} (h : isPlan t.length p) : fitP t (up p) := by
  refine ⟨by rw [up_length, h.1]; exact Nat.le_refl _, fun r hr => ?_⟩
  rw [up_length, h.1] at hr
  rw [up_getD, Int.toNat_natCast, row_len hc hr]
  have : p.getD r 0 ∈ p := by rw [List.getD_eq_getElem?_getD]; simp [h.1, hr]
  exact ⟨by omega, h.2 _ this⟩
theorem isPlan.rng {n : Nat} {p : List Nat} (h : isPlan n p) : ∀ c ∈ up p, 0 ≤ c ∧ c < n := by
  intro c hc
  obtain ⟨x, hx, rfl⟩ := List.mem_map.1 hc
  have := h.2 x hx
  omega
theorem chk_takeP {t : Tb} (hc : chkT t = 0) {p : List Nat} (hp : isPlan t.length p) {x : Int} (hx : 0 ≤ x ∧ x ≤ leastK t (up p) t.length) : chkT (takeT t (up p) x) = 0 := by
  obtain ⟨n1, n2, hrows⟩ := chkT_ok hc
  have hf := hp.fit hc
  refine chkT_mk (by simpa using n1) (by simpa using n2) (fun r hr => ?_) (fun r c hr => ?_)
  · rw [takeT_length] at hr ⊢
    rw [takeT_rowlen hr]; exact row_len hc hr
  · rw [takeT_length] at hr
    rw [takeT_cell hf hr]
    have hcc := cell_rng hc r c
    split
    · rename_i hh
      have := leastK_le (t := t) (p := up p) t.length r hr
      rw [← hh.2] at this
      omega
    · exact hcc
/-- ref.Split -/
theorem c39 {v : AV} {t : Tbl} {H : Heap} {K : AV → Heap → Prop} (hv : RT H v t) (hl : t.length < 2 ^ 63) (hl2 : ∀ l ∈ t, l.length < 2 ^ 63)
    (hk : K (.tup [.imm (if (evenE t).2 ≠ 0 then [] else splitS t).length false ((if (evenE t).2 ≠ 0 then [] else splitS t).flatMap shC), .int .i64 (evenE t).2]) H) : ACalls Tryd.prog 39 [v] H K := by
  apply W39_ok
  unfold W39
  try simp only [letO_some, cellsOf?_agg, cellsOf?_int, cellsOf?_bool, cellsOf?_imm, cellsOf?_ref, cellsOf?_nils, faddr_iptr, faddr_ptr, List.drop_succ_cons, List.drop_zero, List.take_succ_cons, List.take_zero, load1_iptr, loadN_iptr, List.length_cons, List.length_nil, Nat.le_refl, if_true, List.getElem?_cons_zero, List.getElem?_cons_succ, List.getD_cons_zero, List.getD_cons_succ, extrF_tup, binF_add, binF_sub, binF_mul, binF_eql, binF_neq, binF_lss, binF_leq, binF_gtr, binF_geq, true_and]
  refine c19 hv hl hl2 ?_
  try simp only [letO_some, cellsOf?_agg, cellsOf?_int, cellsOf?_bool, cellsOf?_imm, cellsOf?_ref, cellsOf?_nils, faddr_iptr, faddr_ptr, List.drop_succ_cons, List.drop_zero, List.take_succ_cons, List.take_zero, load1_iptr, loadN_iptr, List.length_cons, List.length_nil, Nat.le_refl, if_true, List.getElem?_cons_zero, List.getElem?_cons_succ, List.getD_cons_zero, List.getD_cons_succ, extrF_tup, binF_add, binF_sub, binF_mul, binF_eql, binF_neq, binF_lss, binF_leq, binF_gtr, binF_geq, true_and]
  by_cases he : (evenE t).2 = 0
  · have e1 : ((evenE t).2 != 0) = false := by rw [he]; rfl
    simp only [e1, condA_ff]
    rw [if_neg (by simp [he]), he] at hk
    have hc : chkT t = 0 := by
      unfold evenE at he
      split at he
      · exact he
      · rename_i h; exact Decidable.not_not.1 h
    have htr := tsum_rng hc
    generalize hF : (tsum t).toNat = F at *
    have hsp : splitS t = splitF F t := by rw [splitS, hF]
    rw [hsp] at hk
    refine ⟨fun L H' => ∃ (done : List (List Nat × Int)) (left : Tb) (f : Nat) (X V : AV), eqt L [X, V] ∧ RT H V left ∧ chkT left = 0 ∧ left.length = t.length ∧ tsum left ≤ f ∧ done.length + f = F ∧ done ++ splitF f left = splitF F t ∧ Grow 2 H H' X done.length (done.flatMap shC), fun L _ => F - xl (L.getD 0 .any),
      ⟨[], t, F, .nils, v, rfl, hv, hc, rfl, by omega, by simp, rfl, Grow.nils 2 H⟩, ?_⟩
    rintro L H' ⟨done, left, f, X, V, rfl, hV, hcl, hll, hts, hdf, hdone, hg⟩
    have hle := hg.le
    try simp only [letO_some, cellsOf?_agg, cellsOf?_int, cellsOf?_bool, cellsOf?_imm, cellsOf?_ref, cellsOf?_nils, faddr_iptr, faddr_ptr, List.drop_succ_cons, List.drop_zero, List.take_succ_cons, List.take_zero, load1_iptr, loadN_iptr, List.length_cons, List.length_nil, Nat.le_refl, if_true, List.getElem?_cons_zero, List.getElem?_cons_succ, List.getD_cons_zero, List.getD_cons_succ, extrF_tup, binF_add, binF_sub, binF_mul, binF_eql, binF_neq, binF_lss, binF_leq, binF_gtr, binF_geq, true_and]
    have hdl : done.length ≤ 144 := by omega
    refine c74 hcl (hV.le hle) ?_
    have hL := (RT.tl H' ((withinS left).map up)).len
    simp only [letO_some, cellsOf?_agg, cellsOf?_int, cellsOf?_bool, cellsOf?_imm, cellsOf?_ref, cellsOf?_nils, faddr_iptr, faddr_ptr, List.drop_succ_cons, List.drop_zero, List.take_succ_cons, List.take_zero, load1_iptr, loadN_iptr, List.length_cons, List.length_nil, Nat.le_refl, if_true, List.getElem?_cons_zero, List.getElem?_cons_succ, List.getD_cons_zero, List.getD_cons_succ, extrF_tup, binF_add, binF_sub, binF_mul, binF_eql, binF_neq, binF_lss, binF_leq, binF_gtr, binF_geq, true_and, hL]
    have hwk := wkAll_eq hcl
    obtain ⟨n1, n2, hrows⟩ := chkT_ok hcl
    cases hw : withinS left with
    | nil =>
      rw [hw] at hwk
      have hnil : splitF f left = [] := by cases f with
        | zero => rfl
        | succ f => rw [splitF, hwk]; rfl
      rw [hnil, List.append_nil] at hdone
      subst hdone
      have e2 : ((([] : List (List Nat)).map up).length : Int) = 0 := rfl
      rw [e2]
      simp only [beq_self_eq_true, condA_tt]
      exact hg.end2 hk
    | cons p r =>
      have e2 : ((((p :: r).map up).length : Int) == 0) = false := by rw [beq_eq_false_iff_ne]; simp; omega
      simp only [e2, condA_ff]
      have hpm : p ∈ withinS left := by rw [hw]; simp
      have hp : isPlan left.length p := plansS_mem (List.mem_filter.1 hpm).1
      have hpos : 0 < leastK left (up p) left.length := of_decide_eq_true (List.mem_filter.1 hpm).2
      rw [hw, List.map_cons] at hwk
      have hxm : (p, prodK left p left.length, leastK left (up p) left.length) ∈ wkAll left := by rw [hwk]; simp
      obtain ⟨o1, o2, o3, o4, o5⟩ := first_ok hcl hxm
      have hsum := takeT_sum (x := leastK left (up p) left.length) (hp.fit hcl)
      rw [up_length, hp.1] at hsum
      have hmul : (1 : Int) ≤ (left.length : Int) * leastK left (up p) left.length := by
        have : (1 : Int) * 1 ≤ (left.length : Int) * leastK left (up p) left.length := Int.mul_le_mul (by omega) o2 (by omega) (by omega)
        omega
      have hck := chk_take hcl hxm
      have hts2 := (tsum_rng hck).1
      simp only at hck hts2 o2 o3
      obtain ⟨f, rfl⟩ : ∃ g, f = g + 1 := ⟨f - 1, by omega⟩
      rw [splitF, hwk] at hdone
      simp only at hdone
      have hgt : ∀ (H' : Heap) (k : AV → Prop), k (sl (up p)) → letO (idx 1 (tl ((p :: r).map up)) (.int .i64 0)) fun q => letO (load1 q H') k := by
        intro H' k hk
        refine ReadsC.get (H := H') (Heap.le_refl _) (n := r.length + 1) (cells := sl (up p) :: r.map fun p => sl (up p)) ⟨by simp, by simp [tl, Function.comp_def]⟩ (x := sl (up p)) (by omega) (by omega) rfl hk
      refine hgt _ _ ?_
      refine c81 hcl (hV.le hle) (Reads.sl _ _) (by rw [up_length, hp.1]) hp.rng ?_
      rw [up_length, hp.1]
      try simp only [letO_some, cellsOf?_agg, cellsOf?_int, cellsOf?_bool, cellsOf?_imm, cellsOf?_ref, cellsOf?_nils, faddr_iptr, faddr_ptr, List.drop_succ_cons, List.drop_zero, List.take_succ_cons, List.take_zero, load1_iptr, loadN_iptr, List.length_cons, List.length_nil, Nat.le_refl, if_true, List.getElem?_cons_zero, List.getElem?_cons_succ, List.getD_cons_zero, List.getD_cons_succ, extrF_tup, binF_add, binF_sub, binF_mul, binF_eql, binF_neq, binF_lss, binF_leq, binF_gtr, binF_geq, true_and]
      refine hgt _ _ ?_
      generalize hlk : leastK left (up p) left.length = x at *
      simp only [b50 (show cellsOf? (sl (up p)) = some [sl (up p)] from rfl) cellsOf?_int, l45b, letO_some]
      refine appendA_grow hg (m := 1) (new := [sl (up p), .int .i64 x]) (by simp [srcOf]) rfl rfl (by omega) (by omega) fun v' H7 hg7 => ?_
      have hcs : done.flatMap shC ++ [sl (up p), .int .i64 x] = (done ++ [(p, x)]).flatMap shC := by simp [shC]
      rw [hcs] at hg7
      try simp only [letO_some]
      refine hgt _ _ ?_
      refine c92 (hV.le hg7.le) (Reads.sl _ _) (by rw [up_length, hp.1]) (hp.fit hcl) (by omega) (fun r hr => by rw [row_len hcl hr]; omega) (fun r c => by have := cell_rng hcl r c; omega) (by omega) ?_
      try simp only [letO_some, cellsOf?_agg, cellsOf?_int, cellsOf?_bool, cellsOf?_imm, cellsOf?_ref, cellsOf?_nils, faddr_iptr, faddr_ptr, List.drop_succ_cons, List.drop_zero, List.take_succ_cons, List.take_zero, load1_iptr, loadN_iptr, List.length_cons, List.length_nil, Nat.le_refl, if_true, List.getElem?_cons_zero, List.getElem?_cons_succ, List.getD_cons_zero, List.getD_cons_succ, extrF_tup, binF_add, binF_sub, binF_mul, binF_eql, binF_neq, binF_lss, binF_leq, binF_gtr, binF_geq, true_and]
      have hxl : xl v' = done.length + 1 := by
        rcases hg7.2 with ⟨_, h1, _⟩ | ⟨h1, _⟩ | ⟨b, _, h1, _⟩
        · omega
        · rw [h1]; rfl
        · rw [h1]; rfl
      have hxl0 : xl X = done.length := by
        rcases hg.2 with ⟨h1, h2, _⟩ | ⟨h1, _⟩ | ⟨b, _, h1, _⟩
        · rw [h1, h2]; rfl
        · rw [h1]; rfl
        · rw [h1]; rfl
      refine ⟨⟨done ++ [(p, x)], takeT left (up p) x, f, v', _, rfl, RT.tl _ _, hck, by rw [takeT_length]; exact hll, by omega, by simp; omega, by rw [List.append_assoc]; exact hdone, by rw [List.length_append]; exact hg7⟩, ?_⟩
      show F - xl v' < F - xl X
      omega
  · have e1 : ((evenE t).2 != 0) = true := by rw [bne_iff_ne]; exact he
    simp only [e1, condA_tt]
    rw [if_pos he] at hk
    exact endK_weak (endK_ret hk)
/-- In how many ways plans of a list, none before another one, add up to what is left. -/
def rS : Nat → Tb → List (List Nat) → Nat
  | 0, _, _ => 1
  | _ + 1, _, [] => 0
  | s + 1, t, p :: l => (if 0 < leastK t (up p) t.length then rS s (takeT t (up p) 1) (p :: l) else 0) + rS (s + 1) t l
termination_by s _ l => (s, l.length)
theorem rS_le : ∀ (s : Nat) (t : Tb) (l : List (List Nat)), rS s t l ≤ l.length ^ s
  | 0, t, l => by rw [rS]; simp
  | s + 1, t, [] => by rw [rS]; simp
  | s + 1, t, p :: l => by
    rw [rS]
    have h1 := rS_le s (takeT t (up p) 1) (p :: l)
    have h2 := rS_le (s + 1) t l
    have h3 : l.length ^ s ≤ (p :: l).length ^ s := Nat.pow_le_pow_left (by simp) s
    have h4 : (p :: l).length ^ (s + 1) = l.length * (p :: l).length ^ s + (p :: l).length ^ s := by rw [Nat.pow_succ, Nat.mul_comm, List.length_cons, Nat.add_mul, Nat.one_mul]
    have h5 : l.length ^ (s + 1) = l.length * l.length ^ s := by rw [Nat.pow_succ, Nat.mul_comm]
    have h6 : l.length * l.length ^ s ≤ l.length * (p :: l).length ^ s := Nat.mul_le_mul_left _ h3
    split <;> omega
termination_by s _ l => (s, l.length)
theorem slcT {P : List (List Nat)} {fl : Bool} {k : Nat} (hk : k ≤ P.length) : ∃ fl', slc 1 (.imm P.length fl (P.map fun p => sl (up p))) (some (.int .i64 (k : Int))) none none = some (.imm (P.drop k).length fl' ((P.drop k).map fun p => sl (up p))) := by
  have n1 : ∀ d, natOf none d = some d := fun d => rfl
  have n2 : ∀ d, natOf (some (.int .i64 (k : Int))) d = some k := fun d => by simp [natOf]
  simp only [slc, n1, n2, Option.bind_some]
  rw [if_pos ⟨hk, Nat.le_refl _⟩]
  refine ⟨fl && P.length == P.length, ?_⟩
  rw [Nat.mul_one, Nat.mul_one, List.take_of_length_le (by simp), List.map_drop, List.length_drop]
/-- ref.splits -/
theorem c96 : ∀ (s : Nat) {t : Tbl} {P : List (List Nat)} {v : AV} {fl : Bool} {H : Heap} {K : AV → Heap → Prop}, s ≤ 6 → chkT t = 0 → RT H v t → (∀ p ∈ P, isPlan t.length p) → P.length ≤ 256 → K (.int .i64 (rS s t P : Nat)) H →
    ACalls Tryd.prog 96 [v, .imm P.length fl (P.map fun p => sl (up p)), .int .i64 (s : Int)] H K := by
  intro s
  induction s with
  | zero =>
    intro t P v fl H K hs hc hv hP hPl hk
    apply W96_ok
    unfold W96
    have e : (((0 : Nat) : Int) == 0) = true := rfl
    simp only [letO_some, cellsOf?_agg, cellsOf?_int, cellsOf?_bool, cellsOf?_imm, cellsOf?_ref, cellsOf?_nils, faddr_iptr, faddr_ptr, List.drop_succ_cons, List.drop_zero, List.take_succ_cons, List.take_zero, load1_iptr, loadN_iptr, List.length_cons, List.length_nil, Nat.le_refl, if_true, List.getElem?_cons_zero, List.getElem?_cons_succ, List.getD_cons_zero, List.getD_cons_succ, extrF_tup, binF_add, binF_sub, binF_mul, binF_eql, binF_neq, binF_lss, binF_leq, binF_gtr, binF_geq, true_and, e, condA_tt]
    rw [rS] at hk
    exact endK_ret hk
  | succ s ih =>
    intro t P v fl H K hs hc hv hP hPl hk
    apply W96_ok
    unfold W96
    obtain ⟨n1, n2, hrows⟩ := chkT_ok hc
    have e : (((s + 1 : Nat) : Int) == 0) = false := by rw [beq_eq_false_iff_ne]; omega
    have hPlen : lenA (.imm P.length fl (P.map fun p => sl (up p))) = some (.int .i64 P.length) := rfl
    have hB : rS (s + 1) t P ≤ 256 ^ 6 := by
      refine Nat.le_trans (rS_le _ _ _) (Nat.le_trans (Nat.pow_le_pow_left hPl _) (Nat.pow_le_pow_right (by decide) hs))
    have h256 : (256 : Nat) ^ 6 = 281474976710656 := by decide
    simp only [letO_some, cellsOf?_agg, cellsOf?_int, cellsOf?_bool, cellsOf?_imm, cellsOf?_ref, cellsOf?_nils, faddr_iptr, faddr_ptr, List.drop_succ_cons, List.drop_zero, List.take_succ_cons, List.take_zero, load1_iptr, loadN_iptr, List.length_cons, List.length_nil, Nat.le_refl, if_true, List.getElem?_cons_zero, List.getElem?_cons_succ, List.getD_cons_zero, List.getD_cons_succ, extrF_tup, binF_add, binF_sub, binF_mul, binF_eql, binF_neq, binF_lss, binF_leq, binF_gtr, binF_geq, true_and, e, condA_ff, hPlen]
    refine ⟨fun L H' => ∃ (i acc : Nat), eqt L [.int .i64 acc, .int .i64 i] ∧ i ≤ P.length ∧ eqt H' H ∧ acc + rS (s + 1) t (P.drop i) = rS (s + 1) t P, fun L _ => (P.length - iv L 1).toNat, ⟨0, 0, rfl, by omega, rfl, by simp⟩, ?_⟩
    rintro L H' ⟨i, acc, rfl, hi, rfl, hacc⟩
    try simp only [letO_some, cellsOf?_agg, cellsOf?_int, cellsOf?_bool, cellsOf?_imm, cellsOf?_ref, cellsOf?_nils, faddr_iptr, faddr_ptr, List.drop_succ_cons, List.drop_zero, List.take_succ_cons, List.take_zero, load1_iptr, loadN_iptr, List.length_cons, List.length_nil, Nat.le_refl, if_true, List.getElem?_cons_zero, List.getElem?_cons_succ, List.getD_cons_zero, List.getD_cons_succ, extrF_tup, binF_add, binF_sub, binF_mul, binF_eql, binF_neq, binF_lss, binF_leq, binF_gtr, binF_geq, true_and]
    refine condA_t (fun hlt => ?_) (fun hge => ?_)
    · have a1 : i < P.length := by omega
      have hpi := hP P[i] (List.getElem_mem a1)
      have hget : ∀ (H' : Heap) (k : AV → Prop), k (sl (up P[i])) → letO (idx 1 (.imm P.length fl (P.map fun p => sl (up p))) (.int .i64 (i : Int))) fun q => letO (load1 q H') k := by
        intro H' k hk
        refine ReadsC.get (H := H') (v := .imm P.length fl (P.map fun p => sl (up p))) (Heap.le_refl _) (n := P.length) (cells := P.map fun p => sl (up p)) ⟨by simp, rfl, rfl⟩ (x := sl (up P[i])) (by omega) (by omega) ?_ hk
        simp [a1]
      rw [List.drop_eq_getElem_cons a1, rS] at hacc
      refine ⟨fun L H'' => ∃ acc' : Nat, eqt L [.int .i64 acc'] ∧ eqt H'' H' ∧ acc' + rS (s + 1) t (P.drop (i + 1)) = rS (s + 1) t P, ?_, ?_⟩
      · refine hget _ _ ?_
        refine c81 hc hv (Reads.sl _ _) (by rw [up_length, hpi.1]) hpi.rng ?_
        rw [up_length, hpi.1]
        try simp only [letO_some, cellsOf?_agg, cellsOf?_int, cellsOf?_bool, cellsOf?_imm, cellsOf?_ref, cellsOf?_nils, faddr_iptr, faddr_ptr, List.drop_succ_cons, List.drop_zero, List.take_succ_cons, List.take_zero, load1_iptr, loadN_iptr, List.length_cons, List.length_nil, Nat.le_refl, if_true, List.getElem?_cons_zero, List.getElem?_cons_succ, List.getD_cons_zero, List.getD_cons_succ, extrF_tup, binF_add, binF_sub, binF_mul, binF_eql, binF_neq, binF_lss, binF_leq, binF_gtr, binF_geq, true_and]
        refine condA_t (fun hpos => ?_) (fun hnp => ?_)
        · rw [if_pos (by omega)] at hacc
          refine hget _ _ ?_
          obtain ⟨fl', hsl⟩ := slcT (P := P) (fl := fl) (k := i) (by omega)
          refine ⟨_, c92 hv (Reads.sl _ _) (by rw [up_length, hpi.1]) (hpi.fit hc) (by omega) (fun r hr => by rw [row_len hc hr]; omega) (fun r c => by have := cell_rng hc r c; omega) (by omega) ⟨rfl, rfl⟩, ?_⟩
          simp only [letO_some, cellsOf?_agg, cellsOf?_int, cellsOf?_bool, cellsOf?_imm, cellsOf?_ref, cellsOf?_nils, faddr_iptr, faddr_ptr, List.drop_succ_cons, List.drop_zero, List.take_succ_cons, List.take_zero, load1_iptr, loadN_iptr, List.length_cons, List.length_nil, Nat.le_refl, if_true, List.getElem?_cons_zero, List.getElem?_cons_succ, List.getD_cons_zero, List.getD_cons_succ, extrF_tup, binF_add, binF_sub, binF_mul, binF_eql, binF_neq, binF_lss, binF_leq, binF_gtr, binF_geq, true_and, hsl]
          rw [wrap_i64 (by omega) (by omega), show (((s + 1 : Nat) : Int) - 1) = (s : Int) by omega]
          have hck : chkT (takeT t (up P[i]) 1) = 0 := chk_takeP hc hpi (by omega)
          refine ⟨_, ih (P := P.drop i) (by omega) hck (RT.tl _ _) (fun p hp => by rw [takeT_length]; exact hP p (List.mem_of_mem_drop hp)) (by rw [List.length_drop]; omega) ⟨rfl, rfl⟩, ?_⟩
          rw [← List.drop_eq_getElem_cons a1] at hacc
          try simp only [letO_some, cellsOf?_agg, cellsOf?_int, cellsOf?_bool, cellsOf?_imm, cellsOf?_ref, cellsOf?_nils, faddr_iptr, faddr_ptr, List.drop_succ_cons, List.drop_zero, List.take_succ_cons, List.take_zero, load1_iptr, loadN_iptr, List.length_cons, List.length_nil, Nat.le_refl, if_true, List.getElem?_cons_zero, List.getElem?_cons_succ, List.getD_cons_zero, List.getD_cons_succ, extrF_tup, binF_add, binF_sub, binF_mul, binF_eql, binF_neq, binF_lss, binF_leq, binF_gtr, binF_geq, true_and]
          rw [wrap_i64 (by omega) (by omega)]
          exact ⟨acc + rS s (takeT t (up P[i]) 1) (P.drop i), by unfold eqt; congr 2, rfl, by omega⟩
        · rw [if_neg (by omega)] at hacc
          exact ⟨acc, rfl, rfl, by omega⟩
      · rintro L H'' ⟨acc', rfl, rfl, hacc'⟩
        try simp only [letO_some, cellsOf?_agg, cellsOf?_int, cellsOf?_bool, cellsOf?_imm, cellsOf?_ref, cellsOf?_nils, faddr_iptr, faddr_ptr, List.drop_succ_cons, List.drop_zero, List.take_succ_cons, List.take_zero, load1_iptr, loadN_iptr, List.length_cons, List.length_nil, Nat.le_refl, if_true, List.getElem?_cons_zero, List.getElem?_cons_succ, List.getD_cons_zero, List.getD_cons_succ, extrF_tup, binF_add, binF_sub, binF_mul, binF_eql, binF_neq, binF_lss, binF_leq, binF_gtr, binF_geq, true_and]
        rw [wrap_i64 (by omega) (by omega)]
        exact ⟨⟨i + 1, acc', rfl, by omega, rfl, hacc'⟩, by simp <;> omega⟩
    · have hie : i = P.length := by omega
      subst hie
      rw [List.drop_length, rS, Nat.add_zero] at hacc
      rw [← hacc] at hk
      exact endK_ret hk
/-- Splits, in the words of the reference. -/
def splitsR (t : Tb) : Int × Int := if (evenE t).2 ≠ 0 then (0, (evenE t).2) else if 6 < (evenE t).1 then (0, 15) else ((rS (evenE t).1.toNat t (plansS t.length) : Nat), 0)
/-- ref.Splits -/
theorem c41 {v : AV} {t : Tbl} {H : Heap} {K : AV → Heap → Prop} (hv : RT H v t) (hl : t.length < 2 ^ 63) (hl2 : ∀ l ∈ t, l.length < 2 ^ 63) (hk : K (.tup [.int .i64 (splitsR t).1, .int .i64 (splitsR t).2]) H) : ACalls Tryd.prog 41 [v] H K := by
  apply W41_ok
  unfold W41
  try simp only [letO_some, cellsOf?_agg, cellsOf?_int, cellsOf?_bool, cellsOf?_imm, cellsOf?_ref, cellsOf?_nils, faddr_iptr, faddr_ptr, List.drop_succ_cons, List.drop_zero, List.take_succ_cons, List.take_zero, load1_iptr, loadN_iptr, List.length_cons, List.length_nil, Nat.le_refl, if_true, List.getElem?_cons_zero, List.getElem?_cons_succ, List.getD_cons_zero, List.getD_cons_succ, extrF_tup, binF_add, binF_sub, binF_mul, binF_eql, binF_neq, binF_lss, binF_leq, binF_gtr, binF_geq, true_and]
  refine c19 hv hl hl2 ?_
  try simp only [letO_some, cellsOf?_agg, cellsOf?_int, cellsOf?_bool, cellsOf?_imm, cellsOf?_ref, cellsOf?_nils, faddr_iptr, faddr_ptr, List.drop_succ_cons, List.drop_zero, List.take_succ_cons, List.take_zero, load1_iptr, loadN_iptr, List.length_cons, List.length_nil, Nat.le_refl, if_true, List.getElem?_cons_zero, List.getElem?_cons_succ, List.getD_cons_zero, List.getD_cons_succ, extrF_tup, binF_add, binF_sub, binF_mul, binF_eql, binF_neq, binF_lss, binF_leq, binF_gtr, binF_geq, true_and]
  unfold splitsR at hk
  by_cases he : (evenE t).2 = 0
  · have hc : chkT t = 0 := by
      unfold evenE at he
      split at he
      · exact he
      · rename_i h; exact Decidable.not_not.1 h
    obtain ⟨n1, n2, hrows⟩ := chkT_ok hc
    rw [if_neg (by simp [he])] at hk
    have hs0 : 0 ≤ (evenE t).1 := by
      rw [evenE_iff hc]
      split
      · exact (rowS_bd hc 0 t.length).1
      · simp
    rw [he]
    generalize (evenE t).1 = s at *
    refine ⟨fun L H' => eqt L [.int .i64 (if 6 < s then 15 else 0)] ∧ eqt H' H, ?_, ?_⟩
    · simp only [beq_self_eq_true, gval_bool, Int.reduceBNe, Int.reduceBEq, pickF_true, pickF_false, reduceIte, Bool.true_eq_false, Bool.false_eq_true, if_false, condA_tt, condA_ff, condG_tt, condG_ff, condG_tt', condG_ff', condG_undef, gval_undef, letO_some, cellsOf?_agg, cellsOf?_int, cellsOf?_bool, cellsOf?_imm, cellsOf?_ref, cellsOf?_nils, faddr_iptr, faddr_ptr, List.drop_succ_cons, List.drop_zero, List.take_succ_cons, List.take_zero, load1_iptr, loadN_iptr, List.length_cons, List.length_nil, Nat.le_refl, if_true, List.getElem?_cons_zero, List.getElem?_cons_succ, List.getD_cons_zero, List.getD_cons_succ, extrF_tup, binF_add, binF_sub, binF_mul, binF_eql, binF_neq, binF_lss, binF_leq, binF_gtr, binF_geq, true_and]
      refine condA_t (fun h => ?_) (fun h => ?_)
      · rw [if_pos h]; exact ⟨rfl, rfl⟩
      · rw [if_neg h]; exact ⟨rfl, rfl⟩
    rintro L H' ⟨rfl, rfl⟩
    try simp only [letO_some, cellsOf?_agg, cellsOf?_int, cellsOf?_bool, cellsOf?_imm, cellsOf?_ref, cellsOf?_nils, faddr_iptr, faddr_ptr, List.drop_succ_cons, List.drop_zero, List.take_succ_cons, List.take_zero, load1_iptr, loadN_iptr, List.length_cons, List.length_nil, Nat.le_refl, if_true, List.getElem?_cons_zero, List.getElem?_cons_succ, List.getD_cons_zero, List.getD_cons_succ, extrF_tup, binF_add, binF_sub, binF_mul, binF_eql, binF_neq, binF_lss, binF_leq, binF_gtr, binF_geq, true_and]
    by_cases h6 : 6 < s
    · rw [if_pos h6] at hk ⊢
      simp only [gval_bool, Int.reduceBNe, Int.reduceBEq, pickF_true, pickF_false, reduceIte, Bool.true_eq_false, Bool.false_eq_true, if_false, condA_tt, condA_ff, condG_tt, condG_ff, condG_tt', condG_ff', condG_undef, gval_undef, letO_some, cellsOf?_agg, cellsOf?_int, cellsOf?_bool, cellsOf?_imm, cellsOf?_ref, cellsOf?_nils, faddr_iptr, faddr_ptr, List.drop_succ_cons, List.drop_zero, List.take_succ_cons, List.take_zero, load1_iptr, loadN_iptr, List.length_cons, List.length_nil, Nat.le_refl, if_true, List.getElem?_cons_zero, List.getElem?_cons_succ, List.getD_cons_zero, List.getD_cons_succ, extrF_tup, binF_add, binF_sub, binF_mul, binF_eql, binF_neq, binF_lss, binF_leq, binF_gtr, binF_geq, true_and]
      exact endK_ret hk
    · rw [if_neg h6] at hk ⊢
      simp only [bne_self_eq_false, condA_ff, hv.len, letO_some]
      refine c76n ⟨n1, n2⟩ ?_
      have e : tl ((plansS t.length).map up) = .imm (plansS t.length).length false ((plansS t.length).map fun p => sl (up p)) := by simp [tl, Function.comp_def]
      rw [e, show (s : Int) = ((s.toNat : Nat) : Int) by omega]
      refine c96 s.toNat (by omega) hc hv (fun p hp => plansS_mem hp) (plansS_len n2) ?_
      try simp only [letO_some, cellsOf?_agg, cellsOf?_int, cellsOf?_bool, cellsOf?_imm, cellsOf?_ref, cellsOf?_nils, faddr_iptr, faddr_ptr, List.drop_succ_cons, List.drop_zero, List.take_succ_cons, List.take_zero, load1_iptr, loadN_iptr, List.length_cons, List.length_nil, Nat.le_refl, if_true, List.getElem?_cons_zero, List.getElem?_cons_succ, List.getD_cons_zero, List.getD_cons_succ, extrF_tup, binF_add, binF_sub, binF_mul, binF_eql, binF_neq, binF_lss, binF_leq, binF_gtr, binF_geq, true_and]
      exact endK_ret hk
  · have e1 : ((evenE t).2 == 0) = false := by rw [beq_eq_false_iff_ne]; exact he
    have e2 : ((evenE t).2 != 0) = true := by rw [bne_iff_ne]; exact he
    refine ⟨fun L H' => eqt L [.int .i64 (evenE t).2] ∧ eqt H' H, ?_, ?_⟩
    · simp only [e1, gval_bool, Int.reduceBNe, Int.reduceBEq, pickF_true, pickF_false, reduceIte, Bool.true_eq_false, Bool.false_eq_true, if_false, condA_tt, condA_ff, condG_tt, condG_ff, condG_tt', condG_ff', condG_undef, gval_undef, letO_some, cellsOf?_agg, cellsOf?_int, cellsOf?_bool, cellsOf?_imm, cellsOf?_ref, cellsOf?_nils, faddr_iptr, faddr_ptr, List.drop_succ_cons, List.drop_zero, List.take_succ_cons, List.take_zero, load1_iptr, loadN_iptr, List.length_cons, List.length_nil, Nat.le_refl, if_true, List.getElem?_cons_zero, List.getElem?_cons_succ, List.getD_cons_zero, List.getD_cons_succ, extrF_tup, binF_add, binF_sub, binF_mul, binF_eql, binF_neq, binF_lss, binF_leq, binF_gtr, binF_geq, true_and]
      exact ⟨rfl, rfl⟩
    rintro L H' ⟨rfl, rfl⟩
    simp only [letO_some, cellsOf?_agg, cellsOf?_int, cellsOf?_bool, cellsOf?_imm, cellsOf?_ref, cellsOf?_nils, faddr_iptr, faddr_ptr, List.drop_succ_cons, List.drop_zero, List.take_succ_cons, List.take_zero, load1_iptr, loadN_iptr, List.length_cons, List.length_nil, Nat.le_refl, if_true, List.getElem?_cons_zero, List.getElem?_cons_succ, List.getD_cons_zero, List.getD_cons_succ, extrF_tup, binF_add, binF_sub, binF_mul, binF_eql, binF_neq, binF_lss, binF_leq, binF_gtr, binF_geq, true_and, e2, condA_tt]
    rw [if_pos he] at hk
    exact endK_ret hk
end Go.Proofs.YtbofkeoebnjjkaaDoor

namespace Go.Proofs.YtbofkeoebnjjkaaDoor
open Tab
set_option linter.unusedVariables false
set_option linter.unusedSimpArgs false

/- Counting splits by times, and plan by plan. -/
theorem mostK_in {t : Tb} {p : List Nat} : ∀ i, mostK t p i = 9 ∨ ∃ j, j < i ∧ mostK t p i = cell t j (p.getD j 0)
  | 0 => .inl rfl
  | i + 1 => by
    rw [mostK]
    split
    · exact .inr ⟨i, by omega, rfl⟩
    · rcases mostK_in (t := t) (p := p) i with h | ⟨j, h1, h2⟩
      · exact .inl h
      · exact .inr ⟨j, by omega, h2⟩
theorem most_least {t : Tb} (hc : chkT t = 0) {p : List Nat} (hp : isPlan t.length p) : most t p = leastK t (up p) t.length := by
  obtain ⟨n1, n2, hrows⟩ := chkT_ok hc
  have h1 := mostK_le hc (p := p) t.length
  obtain ⟨r, h2, h3⟩ := leastK_in (t := t) (p := up p) t.length n1
  have h4 := h1.2.2 r h2
  rw [up_getN] at h3
  have h5 : leastK t (up p) t.length ≤ mostK t p t.length := by
    rcases mostK_in (t := t) (p := p) t.length with h | ⟨j, h6, h7⟩
    · rw [h, h3]; exact (cell_rng hc _ _).2
    · rw [h7]
      have := leastK_le (t := t) (p := up p) t.length j h6
      rwa [up_getN] at this
  unfold most
  rw [hp.1]
  omega
theorem putL_zero : ∀ (l : List (List Nat)) (t : Tb), putL l t 0 = 1
  | [], t => rfl
  | p :: l, t => by rw [putL, if_pos rfl]
theorem take_cell_le {t : Tb} (hc : chkT t = 0) {p : List Nat} (hp : isPlan t.length p) {x : Int} (hx : 0 ≤ x) (r c : Nat) : cell (takeT t (up p) x) r c ≤ cell t r c := by
  by_cases hr : r < t.length
  · rw [takeT_cell (hp.fit hc) hr]
    split <;> omega
  · have e : cell (takeT t (up p) x) r c = 0 := by
      unfold cell row
      rw [List.getD_eq_getElem?_getD (l := takeT t (up p) x), List.getElem?_eq_none (by rw [takeT_length]; omega)]; rfl
    rw [e]; exact (cell_rng hc r c).1
/-- Plans that are not within a table play no part. -/
theorem putL_filter {u : Tb} (hu : chkT u = 0) : ∀ (l : List (List Nat)) (t : Tb) (s : Int), chkT t = 0 → t.length = u.length → (∀ p ∈ l, isPlan u.length p) → (∀ r c, cell t r c ≤ cell u r c) →
    putL l t s = putL (l.filter fun p => decide (0 < leastK u (up p) u.length)) t s
  | [], t, s, _, _, _, _ => rfl
  | p :: l, t, s, hc, hl, hp, hle => by
    have hpp := hp p (by simp)
    have hpt : isPlan t.length p := by rw [hl]; exact hpp
    have ih : ∀ t s, chkT t = 0 → t.length = u.length → (∀ r c, cell t r c ≤ cell u r c) → putL l t s = putL (l.filter fun p => decide (0 < leastK u (up p) u.length)) t s := fun t s h1 h2 h3 => putL_filter hu l t s h1 h2 (fun q hq => hp q (by simp [hq])) h3
    have hm := most_least hc hpt
    rw [List.filter_cons]
    by_cases hw : 0 < leastK u (up p) u.length
    · rw [if_pos (by simpa using hw), putL, putL]
      by_cases hs : s = 0
      · rw [if_pos hs, if_pos hs]
      · rw [if_neg hs, if_neg hs, ih t s hc hl hle]
        congr 2
        refine List.map_congr_left fun k hk => ?_
        have hk' := List.mem_range.1 hk
        refine ih _ _ (chk_takeP hc hpt ⟨by omega, by omega⟩) (by rw [takeT_length]; exact hl) fun r c => ?_
        exact Int.le_trans (take_cell_le hc hpt (by omega) r c) (hle r c)
    · rw [if_neg (by simpa using hw), putL]
      have h0 : (most t p).toNat = 0 := by
        rw [hm]
        obtain ⟨r, h2, h3⟩ := leastK_in (t := u) (p := up p) u.length (chkT_ok hu).1
        have h4 := leastK_le (t := t) (p := up p) t.length r (by omega)
        have h5 := hle r ((up p).getD r 0).toNat
        omega
      rw [h0]
      simp only [List.range_zero, List.map_nil, List.sum_nil, Int.add_zero]
      by_cases hs : s = 0
      · rw [if_pos hs]; subst hs; exact (putL_zero _ _).symm
      · rw [if_neg hs]; exact ih t s hc hl hle
theorem rowS_take {t : Tb} (hc : chkT t = 0) {p : List Nat} (hp : isPlan t.length p) {x : Int} : ∀ m, m ≤ t.length → rowS (takeT t (up p) x) 0 m = rowS t 0 m - if p.getD 0 0 < m then x else 0
  | 0, _ => by simp [rowS]
  | m + 1, h => by
    have n1 := (chkT_ok hc).1
    rw [rowS_succ, rowS_succ, rowS_take hc hp m (by omega), takeT_cell (hp.fit hc) (by omega), up_length, hp.1, up_getN]
    generalize p.getD 0 0 = a
    by_cases h1 : m = a
    · rw [if_pos (c := 0 < t.length ∧ m = a) ⟨n1, h1⟩, if_neg (c := a < m) (by omega), if_pos (c := a < m + 1) (by omega)]; omega
    · rw [if_neg (c := 0 < t.length ∧ m = a) (fun h => h1 h.2)]
      by_cases h2 : a < m
      · rw [if_pos (c := a < m) h2, if_pos (c := a < m + 1) (by omega)]; omega
      · rw [if_neg (c := a < m) h2, if_neg (c := a < m + 1) (by omega)]; omega
theorem rowS_ge {t : Tb} (hc : chkT t = 0) : ∀ m c, c < m → cell t 0 c ≤ rowS t 0 m
  | 0, c, h => by omega
  | m + 1, c, h => by
    rw [rowS_succ]
    have h1 := rowS_bd hc 0 m
    have h2 := cell_rng hc 0 m
    by_cases hm : c = m
    · subst hm; omega
    · have := rowS_ge hc m c (by omega); omega
theorem rS_put : ∀ (l : List (List Nat)) (s : Nat) (t : Tb), chkT t = 0 → (∀ p ∈ l, isPlan t.length p) → rowS t 0 t.length = s → ((rS s t l : Nat) : Int) = putL l t s
  | l, 0, t, _, _, _ => by rw [rS, show (((0 : Nat)) : Int) = 0 from rfl, putL_zero]; rfl
  | [], s + 1, t, _, _, _ => by rw [rS, putL, if_neg (by omega)]; rfl
  | p :: l, s + 1, t, hc, hp, hs => by
    have hpt := hp p (by simp)
    have n1 := (chkT_ok hc).1
    have hm := most_least hc hpt
    have ihl : ((rS (s + 1) t l : Nat) : Int) = putL l t ((s + 1 : Nat) : Int) := rS_put l (s + 1) t hc (fun q hq => hp q (by simp [hq])) hs
    have hp0 : p.getD 0 0 < t.length := by
      have : p.getD 0 0 ∈ p := by rw [List.getD_eq_getElem?_getD]; simp [hpt.1, show 0 < t.length by omega]
      exact hpt.2 _ this
    rw [rS, putL, if_neg (c := ((s + 1 : Nat) : Int) = 0) (by omega)]
    by_cases hpos : 0 < leastK t (up p) t.length
    · rw [if_pos hpos, Int.natCast_add, ihl]
      have hck : chkT (takeT t (up p) 1) = 0 := chk_takeP hc hpt (by omega)
      have hl1 : (takeT t (up p) 1).length = t.length := takeT_length _ _ _
      have hpt1 : isPlan (takeT t (up p) 1).length p := by rw [hl1]; exact hpt
      have hrs : rowS (takeT t (up p) 1) 0 (takeT t (up p) 1).length = (s : Nat) := by
        rw [hl1, rowS_take hc hpt t.length (Nat.le_refl _), if_pos hp0, hs]; omega
      have ih := rS_put (p :: l) s (takeT t (up p) 1) hck (fun q hq => by rw [hl1]; exact hp q hq) hrs
      rw [ih]
      have hm1 := most_least hck hpt1
      -- the smallest number, once the plan is taken away
      have hlk : leastK (takeT t (up p) 1) (up p) (takeT t (up p) 1).length = leastK t (up p) t.length - 1 := by
        rw [hl1]
        have hcell : ∀ r, r < t.length → cell (takeT t (up p) 1) r (p.getD r 0) = cell t r (p.getD r 0) - 1 := fun r hr => by
          rw [takeT_cell (hpt.fit hc) hr, if_pos ⟨by rw [up_length, hpt.1]; exact hr, by rw [up_getN]⟩]
        obtain ⟨r1, q1, q2⟩ := leastK_in (t := takeT t (up p) 1) (p := up p) t.length n1
        obtain ⟨r2, q3, q4⟩ := leastK_in (t := t) (p := up p) t.length n1
        have q5 := leastK_le (t := takeT t (up p) 1) (p := up p) t.length r2 q3
        have q6 := leastK_le (t := t) (p := up p) t.length r1 q1
        rw [up_getN] at q2 q4 q5 q6
        rw [hcell r1 q1] at q2
        rw [hcell r2 q3] at q5
        omega
      obtain ⟨k, hk⟩ : ∃ k : Nat, (most t p).toNat = k + 1 := ⟨(most t p).toNat - 1, by omega⟩
      have hk1 : (most (takeT t (up p) 1) p).toNat = k := by omega
      rw [hk, List.range_succ_eq_map, List.map_cons, List.sum_cons, List.map_map]
      have e0 : takeT t (up p) (((0 : Nat) : Int) + 1) = takeT t (up p) 1 := rfl
      have e1 : (((s + 1 : Nat) : Int) - ((0 : Nat) : Int) - 1) = (s : Int) := by omega
      rw [e0, e1]
      have hput : putL (p :: l) (takeT t (up p) 1) (s : Int) = putL l (takeT t (up p) 1) (s : Int) + ((List.range k).map ((fun (k : Nat) => putL l (takeT t (up p) ((k : Int) + 1)) (((s + 1 : Nat) : Int) - k - 1)) ∘ Nat.succ)).sum := by
        rw [putL, hk1]
        by_cases hs0 : s = 0
        · subst hs0
          rw [if_pos (c := ((0 : Nat) : Int) = 0) rfl, show (((0 : Nat)) : Int) = 0 from rfl, putL_zero]
          have hk0 : k = 0 := by
            have h1 := leastK_le (t := t) (p := up p) t.length 0 (by omega)
            rw [up_getN] at h1
            have h2 := rowS_ge hc t.length (p.getD 0 0) hp0
            omega
          subst hk0
          simp
        · rw [if_neg (by omega)]
          congr 2
          refine List.map_congr_left fun j hj => ?_
          simp only [Function.comp]
          rw [takeT_take (hpt.fit hc)]
          have a1 : (1 : Int) + ((j : Int) + 1) = ((j.succ : Nat) : Int) + 1 := by omega
          have a2 : (s : Int) - (j : Int) - 1 = ((s + 1 : Nat) : Int) - ((j.succ : Nat) : Int) - 1 := by omega
          rw [a1, a2]
      rw [hput]
      omega
    · have h0 : (most t p).toNat = 0 := by omega
      rw [if_neg hpos, h0, Nat.zero_add, ihl]
      simp
termination_by l s _ => (s, l.length)
/-- BOTH COUNT THE SAME SPLITS. -/
theorem splits_eq (t : Tb) : splitsE t = splitsR t := by
  unfold splitsE splitsR
  by_cases he : (evenE t).2 = 0
  · have hc : chkT t = 0 := by
      unfold evenE at he
      split at he
      · exact he
      · rename_i h; exact Decidable.not_not.1 h
    rw [if_neg (c := (evenE t).2 ≠ 0) (by simp [he]), if_neg (c := (evenE t).2 ≠ 0) (by simp [he])]
    by_cases h6 : 6 < (evenE t).1
    · rw [if_pos h6, if_pos h6]
    · rw [if_neg h6, if_neg h6]
      have hs : (evenE t).1 = rowS t 0 t.length := by
        have h1 := evenE_iff hc
        by_cases hx : ∀ k, k < t.length → rowS t k t.length = rowS t 0 t.length ∧ colS t k t.length = rowS t 0 t.length
        · rw [if_pos hx] at h1; rw [h1]
        · rw [if_neg hx] at h1; rw [h1] at he; cases he
      have hs0 := (rowS_bd hc 0 t.length).1
      congr 1
      have h1 := rS_put (plansS t.length) (evenE t).1.toNat t hc (fun p hp => plansS_mem hp) (by omega)
      rw [h1, putL_filter hc _ _ _ hc rfl (fun p hp => plansS_mem hp) (fun _ _ => Int.le_refl _)]
      have h2 : (wkAll t).map (fun v => v.1) = withinS t := by rw [wkAll_eq hc, List.map_map]; simp [Function.comp_def]
      rw [h2, show (((evenE t).1.toNat : Nat) : Int) = (evenE t).1 by omega]
      rfl
  · rw [if_pos he, if_pos he]
end Go.Proofs.YtbofkeoebnjjkaaDoor

namespace Go.Proofs.YtbofkeoebnjjkaaDoor
open Tab
set_option linter.unusedVariables false
set_option linter.unusedSimpArgs false
set_option maxRecDepth 20000

/- Even tables: there is a plan as long as there is anything. -/
structure EvT (n : Nat) (s : Int) (t : Tb) : Prop where
  chk : chkT t = 0
  len : t.length = n
  row : ∀ k, k < n → rowS t k n = s
  col : ∀ k, k < n → colS t k n = s
theorem EvT.bd {n : Nat} {s : Int} {t : Tb} (h : EvT n s t) : 1 ≤ n ∧ n ≤ 4 := by
  obtain ⟨h1, h2, _⟩ := chkT_ok h.chk
  rw [h.len] at h1 h2
  exact ⟨h1, h2⟩
theorem EvT.pos {n : Nat} {s : Int} {t : Tb} (h : EvT n s t) : 0 ≤ s := by
  rw [← h.row 0 h.bd.1]
  exact (rowS_bd h.chk 0 n).1
theorem EvT.take {n : Nat} {s x : Int} {t : Tb} (h : EvT n s t) {p : List Nat} (hp : p ∈ plansS n) (hx : 0 ≤ x ∧ x ≤ leastK t (up p) n) : EvT n (s - x) (takeT t (up p) x) := by
  have hpl : isPlan t.length p := by rw [h.len]; exact plansS_mem hp
  have hf := hpl.fit h.chk
  refine ⟨chk_takeP h.chk hpl (by rw [h.len]; exact hx), by rw [takeT_length]; exact h.len, fun k hk => ?_, fun k hk => ?_⟩
  · rw [rowS_takeR hf hpl.1 (by rw [h.len]; exact hk) n (by rw [h.len]; exact Nat.le_refl _), h.row k hk, if_pos]
    have := (plansS_mem hp).2 (p.getD k 0) (getD_mem (by rw [(plansS_mem hp).1]; exact hk))
    exact this
  · rw [colS_take hf hpl.1 k n (by rw [h.len]; exact Nat.le_refl _), h.col k hk]
    have hb := h.bd
    have := perm_count ⟨n, by omega⟩ p hp ⟨k, by omega⟩ hk
    simp only at this
    rw [this]; simp
theorem sum_swap {A B : List Nat} (f : Nat → Nat → Int) : (A.map fun r => (B.map fun c => f r c).sum).sum = (B.map fun c => (A.map fun r => f r c).sum).sum := by
  induction A with
  | nil =>
    induction B with
    | nil => rfl
    | cons b B ih => rw [List.map_cons, List.sum_cons, ← ih]; rfl
  | cons a A ih =>
    simp only [List.map_cons, List.sum_cons, ih]
    clear ih
    induction B with
    | nil => simp
    | cons b B ih => simp only [List.map_cons, List.sum_cons] at ih ⊢; omega
theorem sum_const {A : List Nat} {f : Nat → Int} {s : Int} (h : ∀ a ∈ A, f a = s) : (A.map f).sum = A.length * s := by
  induction A with
  | nil => simp
  | cons a A ih =>
    rw [List.map_cons, List.sum_cons, ih fun x hx => h x (by simp [hx]), h a (by simp), List.length_cons, Int.natCast_add, Int.add_mul]
    omega
theorem sum_gap {g : Nat → Int} {q : Nat → Bool} {s : Int} : ∀ l : List Nat, (∀ c ∈ l, q c = true → g c ≤ 0) → (∀ c ∈ l, g c ≤ s) → (l.map g).sum + (l.filter q).length * s ≤ l.length * s
  | [], _, _ => by simp
  | a :: l, h1, h2 => by
    have ih := sum_gap l (fun c hc => h1 c (by simp [hc])) fun c hc => h2 c (by simp [hc])
    rw [List.map_cons, List.sum_cons, List.length_cons, Int.natCast_add, Int.add_mul, List.filter_cons]
    have a2 := h2 a (by simp)
    by_cases hq : q a = true
    · have a1 := h1 a (by simp) hq
      rw [if_pos hq, List.length_cons, Int.natCast_add, Int.add_mul]; omega
    · rw [if_neg hq]; omega
theorem sum_sub {f : Nat → Int} {q : Nat → Bool} : ∀ l : List Nat, (∀ c ∈ l, 0 ≤ f c) → ((l.filter q).map f).sum ≤ (l.map f).sum
  | [], _ => by simp
  | a :: l, h => by
    have ih := sum_sub (q := q) l fun c hc => h c (by simp [hc])
    have a1 := h a (by simp)
    rw [List.filter_cons, List.map_cons, List.sum_cons]
    split
    · rw [List.map_cons, List.sum_cons]; omega
    · omega
theorem sum_four {f : Nat → Int} {n : Nat} (hn : n ≤ 4) (h : ∀ r, n ≤ r → f r = 0) : ((List.range 4).map f).sum = ((List.range n).map f).sum := by
  have h4 : n = 0 ∨ n = 1 ∨ n = 2 ∨ n = 3 ∨ n = 4 := by omega
  rcases h4 with rfl | rfl | rfl | rfl | rfl <;> simp [List.range_succ, h]
/-- Something, a plan. -/
theorem EvT.plan {n : Nat} {s : Int} {t : Tb} (h : EvT n s t) (hs : 0 < s) : withinS t ≠ [] := by
  intro hw
  obtain ⟨z, z1, z2, z3⟩ := no_plan h.chk hw
  have hb := h.bd
  have z4 : t.length < (zerosZ t (up (lst z))).length + (lst z).length := of_decide_eq_true z3
  rw [h.len] at z4 z2
  have e1 : ((lst z).map fun r => ((List.range n).map fun c => cell t r c).sum).sum = (lst z).length * s := sum_const fun r hr => h.row r (lst_mem z2 hr)
  rw [sum_swap] at e1
  have e2 := sum_gap (g := fun c => ((lst z).map fun r => cell t r c).sum) (q := fun c => (up (lst z)).all fun r => decide (cell t r.toNat c = 0)) (s := s) (List.range n) (fun c hc hq => by
    have : ((lst z).map fun r => cell t r c).sum = (lst z).length * 0 := sum_const fun r hr => by
      have := (List.all_eq_true.1 hq) (r : Int) (List.mem_map.2 ⟨r, hr, rfl⟩)
      have := of_decide_eq_true this
      rwa [Int.toNat_natCast] at this
    simp only [this, Int.mul_zero]; exact Int.le_refl _) (fun c hc => by
    have hcn : c < n := by simpa using hc
    have a1 : ((lst z).map fun r => cell t r c).sum ≤ ((List.range 4).map fun r => cell t r c).sum := sum_sub _ fun r _ => (cell_rng h.chk r c).1
    rw [sum_four hb.2 fun r hr => zero_cell (by rw [h.len]; exact hr)] at a1
    exact Int.le_trans a1 (Int.le_of_eq (h.col c hcn)))
  have e3 : (List.range n).filter (fun c => (up (lst z)).all fun r => decide (cell t r.toNat c = 0)) = zerosZ t (up (lst z)) := by unfold zerosZ; rw [h.len]
  rw [e3, List.length_range] at e2
  rw [e1, ← Int.add_mul] at e2
  have e4 : ((n : Int) + 1) * s ≤ (((lst z).length : Int) + ((zerosZ t (up (lst z))).length : Int)) * s := Int.mul_le_mul_of_nonneg_right (by omega) (by omega)
  rw [Int.add_mul (n : Int)] at e4
  omega
theorem sum_ge {f : Nat → Int} : ∀ {l : List Nat}, (∀ c ∈ l, 0 ≤ f c) → ∀ c ∈ l, f c ≤ (l.map f).sum
  | a :: l, h, c, hc => by
    rw [List.map_cons, List.sum_cons]
    have h0 : 0 ≤ (l.map f).sum := by
      clear hc
      have : ∀ l : List Nat, (∀ c ∈ l, 0 ≤ f c) → 0 ≤ (l.map f).sum := by
        intro l
        induction l with
        | nil => intro _; simp
        | cons a l ih => intro h; rw [List.map_cons, List.sum_cons]; have := ih fun c hc => h c (by simp [hc]); have := h a (by simp); omega
      exact this l fun c hc => h c (by simp [hc])
    rcases List.mem_cons.1 hc with rfl | hc
    · omega
    · have := sum_ge (fun c hc => h c (by simp [hc])) c hc
      have := h a (by simp)
      omega
theorem EvT.cell_le {n : Nat} {s : Int} {t : Tb} (h : EvT n s t) (r c : Nat) : cell t r c ≤ s := by
  by_cases hr : r < n
  · by_cases hc : c < n
    · rw [← h.row r hr]
      exact sum_ge (f := fun c => cell t r c) (fun c _ => (cell_rng h.chk r c).1) c (by simpa using hc)
    · have : cell t r c = 0 := by
        unfold cell
        rw [List.getD_eq_getElem?_getD, List.getElem?_eq_none (by rw [row_len h.chk (by rw [h.len]; exact hr), h.len]; omega)]; rfl
      rw [this]; exact h.pos
  · rw [zero_cell (by rw [h.len]; omega)]; exact h.pos
/-- One share more. -/
theorem split_step {n : Nat} {s : Int} {t : Tb} (h : EvT n s t) {f : Nat} (hf : tsum t ≤ f) :
    (splitF f t = [] ∧ s = 0) ∨ ∃ g p r x, f = g + 1 ∧ withinS t = p :: r ∧ x = leastK t (up p) n ∧ 0 < x ∧ splitF f t = (p, x) :: splitF g (takeT t (up p) x) ∧ tsum (takeT t (up p) x) ≤ g ∧ p ∈ plansS n ∧ EvT n (s - x) (takeT t (up p) x) := by
  have hwk := wkAll_eq h.chk
  have hb := h.bd
  cases hw : withinS t with
  | nil =>
    left
    refine ⟨?_, ?_⟩
    · cases f with
      | zero => rfl
      | succ f => rw [splitF, hwk, hw]; rfl
    · have h1 := h.pos
      by_cases h2 : 0 < s
      · exact absurd hw (h.plan h2)
      · omega
  | cons p r =>
    right
    have hpm : p ∈ withinS t := by rw [hw]; simp
    have hp : p ∈ plansS n := by have := (List.mem_filter.1 hpm).1; rwa [h.len] at this
    have hpl : isPlan t.length p := by rw [h.len]; exact plansS_mem hp
    have hpos : 0 < leastK t (up p) n := by have := of_decide_eq_true (List.mem_filter.1 hpm).2; rwa [h.len] at this
    have hsum := takeT_sum (x := leastK t (up p) n) (hpl.fit h.chk)
    rw [up_length, hpl.1, h.len] at hsum
    have hmul : (1 : Int) ≤ (n : Int) * leastK t (up p) n := by
      have : (1 : Int) * 1 ≤ (n : Int) * leastK t (up p) n := Int.mul_le_mul (by omega) hpos (by omega) (by omega)
      omega
    have hev := h.take hp ⟨Int.le_of_lt hpos, Int.le_refl _⟩
    have hts := (tsum_rng hev.chk).1
    obtain ⟨g, rfl⟩ : ∃ g, f = g + 1 := ⟨f - 1, by omega⟩
    refine ⟨g, p, r, _, rfl, rfl, rfl, hpos, ?_, by omega, hp, hev⟩
    rw [splitF, hwk, hw]
    simp only [List.map_cons, h.len]
/-- The plans of the shares are through what is left. -/
theorem split_pos {n : Nat} : ∀ (f : Nat) {s : Int} {t : Tb}, EvT n s t → tsum t ≤ f → ∀ q ∈ splitF f t, q.1 ∈ plansS n ∧ ∀ r, r < n → 0 < cell t r (q.1.getD r 0) := by
  intro f
  induction f with
  | zero => intro s t h hf q hq; cases hq
  | succ f ih =>
    intro s t h hf q hq
    rcases split_step h hf with ⟨h1, _⟩ | ⟨g, p, r, x, hg, hw, hx, hx0, hs, hts, hp, hev⟩
    · rw [h1] at hq; cases hq
    · obtain rfl : g = f := by omega
      rw [hs] at hq
      rcases List.mem_cons.1 hq with rfl | hq
      · refine ⟨hp, fun r' hr' => ?_⟩
        have hm : p ∈ withinS t := by rw [hw]; simp
        exact (within_pos hm).2 r' (by rw [h.len]; exact hr')
      · obtain ⟨q1, q2⟩ := ih hev hts q hq
        refine ⟨q1, fun r' hr' => ?_⟩
        have := q2 r' hr'
        have hpl : isPlan t.length p := by rw [h.len]; exact plansS_mem hp
        rw [takeT_cell (hpl.fit h.chk) (by rw [h.len]; exact hr')] at this
        split at this <;> omega
theorem split_tri {n : Nat} : ∀ (f : Nat) {s : Int} {t : Tb}, EvT n s t → tsum t ≤ f → ∃ L, L.map (·.2) = (splitF f t).map (·.1) ∧ Tri n L := by
  intro f
  induction f with
  | zero => intro s t h hf; exact ⟨[], rfl, trivial⟩
  | succ f ih =>
    intro s t h hf
    rcases split_step h hf with ⟨h1, _⟩ | ⟨g, p, r, x, hg, hw, hx, hx0, hs, hts, hp, hev⟩
    · rw [h1]; exact ⟨[], rfl, trivial⟩
    · obtain rfl : g = f := by omega
      obtain ⟨L, l1, l2⟩ := ih hev hts
      obtain ⟨r', hr', he⟩ := leastK_in (t := t) (p := up p) n h.bd.1
      rw [up_getN] at he
      have hpm := plansS_mem hp
      refine ⟨((r', p.getD r' 0), p) :: L, by rw [hs]; simp [l1], ⟨hp, hr', hpm.2 _ (getD_mem (by rw [hpm.1]; exact hr')), rfl, ?_⟩, l2⟩
      intro y hy hye
      have hy2 : y.2 ∈ (splitF g (takeT t (up p) x)).map (·.1) := by rw [← l1]; exact List.mem_map.2 ⟨y, hy, rfl⟩
      obtain ⟨q, hq, hqe⟩ := List.mem_map.1 hy2
      have h3 := (split_pos g hev hts q hq).2 r' hr'
      rw [hqe] at h3
      have hpl : isPlan t.length p := by rw [h.len]; exact plansS_mem hp
      simp only at hye
      rw [takeT_cell (hpl.fit h.chk) (by rw [h.len]; exact hr'), hye, if_pos ⟨by rw [up_length, hpm.1]; exact hr', by rw [up_getD, Int.toNat_natCast]⟩] at h3
      omega
theorem Tri.ne {n : Nat} : ∀ {L : List ((Nat × Nat) × List Nat)}, Tri n L → (L.map (·.2)).Pairwise (· ≠ ·)
  | [], _ => by simp
  | x :: L, h => by
    rw [List.map_cons, List.pairwise_cons]
    refine ⟨fun a ha he => ?_, h.2.ne⟩
    obtain ⟨y, hy, rfl⟩ := List.mem_map.1 ha
    exact h.1.2.2.2.2 y hy (by rw [← he]; exact h.1.2.2.2.1)
/-- At most (n - 1) (n - 1) + 1 shares, all different. -/
theorem split_len {n : Nat} {f : Nat} {s : Int} {t : Tb} (h : EvT n s t) (hf : tsum t ≤ f) : (splitF f t).length ≤ dimN n ∧ ((splitF f t).map (·.1)).Pairwise (· ≠ ·) := by
  obtain ⟨L, l1, l2⟩ := split_tri f h hf
  have h1 := l2.bound h.bd.2
  have h2 : L.length = (splitF f t).length := by have := congrArg List.length l1; simpa using this
  exact ⟨by omega, by rw [← l1]; exact l2.ne⟩
end Go.Proofs.YtbofkeoebnjjkaaDoor

namespace Go.Proofs.YtbofkeoebnjjkaaDoor
open Go.Av Tab
set_option linter.unusedVariables false
set_option linter.unusedSimpArgs false
set_option maxRecDepth 4000

/-- Two lists that are being built at once. -/
theorem grow_swap {H H1 H' : Heap} {A B : AV} {n m : Nat} {ca cb : List AV} (h1 : Grow 1 H H1 A n ca) (h2 : Grow 1 H1 H' B m cb) : ∃ H2, Grow 1 H H2 B m cb ∧ Grow 1 H2 H' A n ca := by
  rcases h2 with ⟨l2, ⟨rfl, rfl, rfl⟩ | ⟨rfl, rfl⟩ | ⟨b2, hb2, rfl, rfl⟩⟩
  · exact ⟨H, ⟨l2, .inl ⟨rfl, rfl, rfl⟩⟩, h1⟩
  · exact ⟨H, ⟨l2, .inr (.inl ⟨rfl, rfl⟩)⟩, h1⟩
  · rcases h1 with ⟨l1, ⟨rfl, rfl, rfl⟩ | ⟨rfl, rfl⟩ | ⟨b1, hb1, rfl, rfl⟩⟩
    · exact ⟨_, Grow.ref hb2 l2, l1, .inl ⟨rfl, rfl, rfl⟩⟩
    · exact ⟨_, Grow.ref hb2 l2, l1, .inr (.inl ⟨rfl, rfl⟩)⟩
    · have hne : b1 ≠ b2 := Heap.ne_of Heap.put_same hb2
      have hb2' : H b2 = none := by rwa [Heap.put_ne (Ne.symm hne)] at hb2
      refine ⟨H.put b2 cb, Grow.ref hb2' l2, l1, .inr (.inr ⟨b1, by rw [Heap.put_ne hne]; exact hb1, rfl, Heap.put_comm hne⟩)⟩
/-- One bit of a byte. -/
theorem shr_u8 {x k : Nat} (hx : x < 256) (hk : k < 4) : binF Tryd.prog .shr 5 (.int .u8 (x : Int)) (.int .i64 (k : Int)) = some (.int .u8 ((x / 2 ^ k : Nat) : Int)) := by
  have e : min (k : Int).toNat 8 = k := by omega
  show (if (k : Int) < 0 then none else some (AV.int .u8 ((x : Int).fdiv (2 ^ min (k : Int).toNat 8)))) = _
  rw [if_neg (by omega), e, Int.ofNat_fdiv]
  rfl
theorem and_one {y : Nat} (hy : y < 256) : binF Tryd.prog .and 5 (.int .u8 (y : Int)) (.int .u8 1) = some (.int .u8 ((y % 2 : Nat) : Int)) := by
  have key : ∀ y : Fin 256, IntKind.u8.wrap ((BitVec.ofInt 8 (y.val : Int) &&& BitVec.ofInt 8 1).toNat) = ((y.val % 2 : Nat) : Int) := by decide +kernel
  have := key ⟨y, hy⟩
  show (if IntKind.u8 = IntKind.u8 then some (AV.int .u8 (IntKind.u8.wrap ((BitVec.ofInt 8 (y : Int) &&& BitVec.ofInt 8 1).toNat))) else none) = _
  rw [if_pos rfl]
  congr 2
theorem bit_eq {x k : Nat} : (((x / 2 ^ k % 2 : Nat) : Int) == 1) = x.testBit k := by
  rw [Nat.testBit_eq_decide_div_mod_eq]
  by_cases h : x / 2 ^ k % 2 = 1
  · rw [h]; rfl
  · rw [decide_eq_false h, beq_eq_false_iff_ne]; omega
/-- The product of the numbers of a table at the first places of a plan. -/
def prodZ (t : Tb) (p : List Int) : Nat → Int
  | 0 => 1
  | i + 1 => prodZ t p i * cell t i (p.getD i 0).toNat
theorem prodZ_bd {t : Tb} {B : Int} (hb : ∀ r c, 0 ≤ cell t r c ∧ cell t r c ≤ B) (p : List Int) : ∀ i, 0 ≤ prodZ t p i ∧ prodZ t p i ≤ B ^ i
  | 0 => by simp [prodZ]
  | i + 1 => by
    obtain ⟨h1, h2⟩ := prodZ_bd hb p i
    obtain ⟨h3, h4⟩ := hb i (p.getD i 0).toNat
    rw [prodZ, Int.pow_succ]
    exact ⟨Int.mul_nonneg h1 h3, Int.mul_le_mul h2 h4 h3 (Int.pow_nonneg (by omega))⟩
/-- weight -/
theorem c48 {v u : AV} {t : Tbl} {p : List Int} {H : Heap} {K : AV → Heap → Prop} (hv : RT H v t) (hu : Reads H u p) (hpl : p.length ≤ t.length) (h4 : p.length ≤ 4) (hb : ∀ r c, 0 ≤ cell t r c ∧ cell t r c ≤ 1000)
    (hp : ∀ r, r < p.length → 0 ≤ p.getD r 0 ∧ (p.getD r 0).toNat < (row t r).length) (hk : K (.int .i64 (prodZ t p p.length)) H) : ACalls Tryd.prog 48 [v, u] H K := by
  apply W48_ok
  unfold W48
  simp only [letO_some, cellsOf?_agg, cellsOf?_int, cellsOf?_bool, cellsOf?_imm, cellsOf?_ref, cellsOf?_nils, faddr_iptr, faddr_ptr, List.drop_succ_cons, List.drop_zero, List.take_succ_cons, List.take_zero, load1_iptr, loadN_iptr, List.length_cons, List.length_nil, Nat.le_refl, if_true, List.getElem?_cons_zero, List.getElem?_cons_succ, List.getD_cons_zero, List.getD_cons_succ, extrF_tup, binF_add, binF_sub, binF_mul, binF_eql, binF_neq, binF_lss, binF_leq, binF_gtr, binF_geq, true_and, hu.len]
  refine ⟨fun L H' => ∃ i : Nat, eqt L [.int .i64 (prodZ t p i), .int .i64 i] ∧ i ≤ p.length ∧ eqt H' H, fun L _ => (p.length - iv L 1).toNat, ⟨0, rfl, by omega, rfl⟩, ?_⟩
  rintro L H' ⟨i, rfl, hi, rfl⟩
  try simp only [letO_some, cellsOf?_agg, cellsOf?_int, cellsOf?_bool, cellsOf?_imm, cellsOf?_ref, cellsOf?_nils, faddr_iptr, faddr_ptr, List.drop_succ_cons, List.drop_zero, List.take_succ_cons, List.take_zero, load1_iptr, loadN_iptr, List.length_cons, List.length_nil, Nat.le_refl, if_true, List.getElem?_cons_zero, List.getElem?_cons_succ, List.getD_cons_zero, List.getD_cons_succ, extrF_tup, binF_add, binF_sub, binF_mul, binF_eql, binF_neq, binF_lss, binF_leq, binF_gtr, binF_geq, true_and]
  refine condA_t (fun hlt => ?_) (fun hge => ?_)
  · have a1 : i < p.length := by omega
    have hpi := hp i a1
    refine hu.get (Heap.le_refl _) (by omega) (by omega) ?_
    rw [Int.toNat_natCast]
    refine hv.get (Heap.le_refl _) (by omega) (by omega) fun a ha => ?_
    rw [Int.toNat_natCast, show t.getD i [] = row t i from rfl] at ha
    refine ha.get (Heap.le_refl _) hpi.1 (by omega) ?_
    rw [show (row t i).getD (p.getD i 0).toNat 0 = cell t i (p.getD i 0).toNat from rfl]
    have b1 := prodZ_bd hb p i
    have b2 := prodZ_bd hb p (i + 1)
    have h9 : ∀ j, j ≤ 4 → (1000 : Int) ^ j ≤ 1000000000000 := by
      intro j hj
      have : j = 0 ∨ j = 1 ∨ j = 2 ∨ j = 3 ∨ j = 4 := by omega
      rcases this with h | h | h | h | h <;> rw [h] <;> decide
    have b3 := h9 (i + 1) (by omega)
    rw [prodZ] at b2
    try simp only [letO_some, cellsOf?_agg, cellsOf?_int, cellsOf?_bool, cellsOf?_imm, cellsOf?_ref, cellsOf?_nils, faddr_iptr, faddr_ptr, List.drop_succ_cons, List.drop_zero, List.take_succ_cons, List.take_zero, load1_iptr, loadN_iptr, List.length_cons, List.length_nil, Nat.le_refl, if_true, List.getElem?_cons_zero, List.getElem?_cons_succ, List.getD_cons_zero, List.getD_cons_succ, extrF_tup, binF_add, binF_sub, binF_mul, binF_eql, binF_neq, binF_lss, binF_leq, binF_gtr, binF_geq, true_and]
    rw [wrap_i64 (n := prodZ t p i * _) (by omega) (by omega), wrap_i64 (by omega) (by omega)]
    exact ⟨⟨i + 1, rfl, by omega, rfl⟩, by simp <;> omega⟩
  · have hie : i = p.length := by omega
    subst hie
    exact endK_ret hk
theorem prodZ_zero {t : Tb} {p : List Int} : ∀ n, prodZ t p n = 0 ↔ ∃ i, i < n ∧ cell t i (p.getD i 0).toNat = 0
  | 0 => by simp [prodZ]
  | n + 1 => by
    rw [prodZ, Int.mul_eq_zero, prodZ_zero n]
    constructor
    · rintro (⟨i, h1, h2⟩ | h)
      · exact ⟨i, by omega, h2⟩
      · exact ⟨n, by omega, h⟩
    · rintro ⟨i, h1, h2⟩
      by_cases hi : i = n
      · subst hi; exact .inr h2
      · exact .inl ⟨i, by omega, h2⟩
theorem planS_snoc {n : Nat} : ∀ (l seen : List Int) (c : Int), planS n seen (l ++ [c]) = if planS n seen l ≠ 0 then planS n seen l else if c < 0 ∨ (n : Int) ≤ c then 2 else if c ∈ seen ++ l then 6 else 0
  | [], seen, c => by simp [planS]
  | a :: l, seen, c => by
    rw [List.cons_append, planS, planS]
    by_cases h1 : a < 0 ∨ (n : Int) ≤ a
    · rw [if_pos h1, if_pos h1, if_pos (by decide)]
    · rw [if_neg h1, if_neg h1]
      by_cases h2 : a ∈ seen
      · rw [if_pos h2, if_pos h2, if_pos (by decide)]
      · rw [if_neg h2, if_neg h2, planS_snoc l (seen ++ [a]) c]
        simp [List.append_assoc]
/-- Rows or columns by the bits of a byte. -/
def bitL (x n : Nat) : List Nat := (List.range n).filter x.testBit
theorem bitL_succ (x n : Nat) : bitL x (n + 1) = bitL x n ++ if x.testBit n then [n] else [] := by
  rw [bitL, List.range_succ, List.filter_append, ← bitL]
  by_cases h : x.testBit n <;> simp [h]
theorem bitL_len (x n : Nat) : (bitL x n).length ≤ n := by
  refine Nat.le_trans (List.length_filter_le _ _) (by simp)
theorem bitL_lt {x n c : Nat} (h : c ∈ bitL x n) : c < n := by
  have := (List.mem_filter.1 h).1
  simpa using this
theorem rdE_snoc {n : Nat} : ∀ {l : List Int} {last x : Int}, rdE n last l = 0 → rdE n last (l ++ [x]) = if x < 0 ∨ (n : Int) ≤ x then 2 else if (∃ y ∈ last :: l, x ≤ y) then 7 else 0
  | [], last, x, _ => by simp [rdE]
  | a :: l, last, x, h => by
    unfold rdE at h
    split at h
    · cases h
    · rename_i h1
      split at h
      · cases h
      · rename_i h2
        rw [List.cons_append, rdE, if_neg h1, if_neg h2, rdE_snoc h]
        by_cases hx : x < 0 ∨ (n : Int) ≤ x
        · rw [if_pos hx, if_pos hx]
        · rw [if_neg hx, if_neg hx]
          by_cases hy : ∃ y ∈ a :: l, x ≤ y
          · rw [if_pos hy, if_pos (by obtain ⟨y, q1, q2⟩ := hy; exact ⟨y, by simp at q1 ⊢; exact .inr q1, q2⟩)]
          · rw [if_neg hy, if_neg (by
              rintro ⟨y, q1, q2⟩
              rcases List.mem_cons.1 q1 with rfl | q1
              · exact hy ⟨a, by simp, by omega⟩
              · exact hy ⟨y, q1, q2⟩)]
theorem rdE_bitL {x n : Nat} : ∀ m, m ≤ n → rdE n (-1) (up (bitL x m)) = 0
  | 0, _ => by simp [bitL, up, rdE]
  | m + 1, h => by
    have ih := rdE_bitL (x := x) (n := n) m (by omega)
    rw [bitL_succ]
    by_cases hb : x.testBit m
    · rw [if_pos hb]
      have : up (bitL x m ++ [m]) = up (bitL x m) ++ [(m : Int)] := by simp [up]
      rw [this, rdE_snoc ih, if_neg (by omega), if_neg]
      rintro ⟨y, q1, q2⟩
      rcases List.mem_cons.1 q1 with rfl | q1
      · omega
      · obtain ⟨z, hz, rfl⟩ := List.mem_map.1 q1
        have h9 : z < m := bitL_lt hz
        have q3 : (m : Int) ≤ (z : Int) := q2
        omega
    · rw [if_neg hb, List.append_nil]; exact ih
end Go.Proofs.YtbofkeoebnjjkaaDoor
namespace Go.Proofs.YtbofkeoebnjjkaaDoor
open Go.Av Tab
/-- slices.Clone: a list of one's own, or nothing. -/
theorem c59' {v : AV} {l : List Int} {H : Heap} {K : AV → Heap → Prop} (hv : Reads H v l) (hnil : l = [] → v = .nils) (hl : l.length < 1000000) (hk : ∀ v' H', Grow 1 H H' v' l.length (ints l) → K v' H') : ACalls Tryd.prog 59 [v] H K := by
  by_cases hne : l = []
  · obtain rfl := hnil hne
    subst hne
    apply W59_ok
    unfold W59
    simp only [letO_some, nil_nil]
    exact condA_tt.2 (endK_ret (hk _ _ (Grow.nils 1 H)))
  · exact c59 hv hne hl fun b hb => hk _ _ (Grow.ref hb (by simp))
end Go.Proofs.YtbofkeoebnjjkaaDoor

namespace Go.Proofs.YtbofkeoebnjjkaaDoor
open Tab
set_option linter.unusedVariables false
set_option linter.unusedSimpArgs false
set_option maxRecDepth 20000

/- The shares of a split, added up again. -/
def shU (ss : List (List Nat × Int)) : List (List Int × Int) := ss.map fun q => (up q.1, q.2)
structure Sq (n : Nat) (t : Tb) : Prop where
  len : t.length = n
  rowl : ∀ r, r < n → (row t r).length = n
theorem Sq.zero (n : Nat) : Sq n (zeroT n) := ⟨by simp [zeroT], fun r hr => by
  show ((zeroT n).getD r []).length = n
  simp [zeroT, List.getD_eq_getElem?_getD, hr]⟩
theorem zeroT_cell (n r c : Nat) : cell (zeroT n) r c = 0 := by
  unfold cell row zeroT
  rw [List.getD_eq_getElem?_getD (l := List.replicate n (List.replicate n 0))]
  by_cases hr : r < n
  · rw [List.getElem?_replicate, if_pos hr]
    simp only [Option.getD_some]
    rw [List.getD_eq_getElem?_getD, List.getElem?_replicate]
    split <;> rfl
  · rw [List.getElem?_replicate, if_neg hr]; rfl
theorem Sq.fit {n : Nat} {t : Tb} (h : Sq n t) {p : List Nat} (hp : isPlan n p) : fitP t (up p) := by
  refine ⟨by rw [up_length, hp.1, h.len]; exact Nat.le_refl _, fun r hr => ?_⟩
  rw [up_length, hp.1] at hr
  rw [up_getD, Int.toNat_natCast, h.rowl r hr]
  exact ⟨by omega, hp.2 _ (getD_mem (by rw [hp.1]; exact hr))⟩
theorem Sq.take {n : Nat} {t : Tb} (h : Sq n t) (p : List Int) (x : Int) : Sq n (takeT t p x) :=
  ⟨by rw [takeT_length]; exact h.len, fun r hr => by rw [takeT_rowlen (by rw [h.len]; exact hr)]; exact h.rowl r hr⟩
theorem EvT.sq {n : Nat} {s : Int} {t : Tb} (h : EvT n s t) : Sq n t := ⟨h.len, fun r hr => by rw [row_len h.chk (by rw [h.len]; exact hr), h.len]⟩
theorem Sq.ext {n : Nat} {t u : Tb} (ht : Sq n t) (hu : Sq n u) (h : ∀ r c, r < n → c < n → cell t r c = cell u r c) : t = u := by
  refine List.ext_getElem (by rw [ht.len, hu.len]) fun r h1 h2 => ?_
  have hr : r < n := by rw [← ht.len]; exact h1
  have e1 : row t r = t[r] := by rw [row, List.getD_eq_getElem?_getD, List.getElem?_eq_getElem h1]; rfl
  have e2 : row u r = u[r] := by rw [row, List.getD_eq_getElem?_getD, List.getElem?_eq_getElem h2]; rfl
  rw [← e1, ← e2]
  refine List.ext_getElem (by rw [ht.rowl r hr, hu.rowl r hr]) fun c g1 g2 => ?_
  have hc : c < n := by rw [← ht.rowl r hr]; exact g1
  have := h r c hr hc
  rw [cell, cell, List.getD_eq_getElem?_getD, List.getD_eq_getElem?_getD, List.getElem?_eq_getElem g1, List.getElem?_eq_getElem g2] at this
  exact this
/-- How often a cell is had. -/
def atC (ss : List (List Nat × Int)) (r c : Nat) : Int := (ss.map fun q => if q.1.getD r 0 = c then q.2 else 0).sum
theorem take_at {n : Nat} {t : Tb} (h : Sq n t) {p : List Nat} (hp : isPlan n p) {x : Int} {r c : Nat} (hr : r < n) : cell (takeT t (up p) x) r c = cell t r c - if p.getD r 0 = c then x else 0 := by
  rw [takeT_cell (h.fit hp) (by rw [h.len]; exact hr), up_length, hp.1, up_getD, Int.toNat_natCast]
  by_cases he : p.getD r 0 = c
  · rw [if_pos ⟨hr, he.symm⟩, if_pos he]
  · rw [if_neg fun hh => he hh.2.symm, if_neg he]; omega
theorem addAll_sq {n : Nat} : ∀ (ss : List (List Int × Int)) {t : Tb}, Sq n t → Sq n (addAll t ss)
  | [], t, h => h
  | s :: r, t, h => addAll_sq r (h.take _ _)
theorem addAll_at {n : Nat} : ∀ (ss : List (List Nat × Int)) {t : Tb}, Sq n t → (∀ q ∈ ss, isPlan n q.1) → ∀ r c, r < n → cell (addAll t (shU ss)) r c = cell t r c + atC ss r c
  | [], t, h, _, r, c, hr => by simp [addAll, shU, atC]
  | q :: ss, t, h, hp, r, c, hr => by
    have h1 := hp q (by simp)
    have := addAll_at ss (h.take (up q.1) (-q.2)) (fun q hq => hp q (by simp [hq])) r c hr
    rw [take_at h h1 hr] at this
    show cell (addAll (takeT t (up q.1) (-q.2)) (shU ss)) r c = _
    rw [this, atC, atC, List.map_cons, List.sum_cons]
    split <;> omega
theorem split_at {n : Nat} : ∀ (f : Nat) {s : Int} {t : Tb}, EvT n s t → tsum t ≤ f → (∀ r c, r < n → cell t r c = atC (splitF f t) r c) ∧ ((splitF f t).map (·.2)).sum = s := by
  have base : ∀ {f : Nat} {s : Int} {t : Tb}, EvT n s t → splitF f t = [] → s = 0 → (∀ r c, r < n → cell t r c = atC (splitF f t) r c) ∧ ((splitF f t).map (·.2)).sum = s := by
    intro f s t h h1 h2
    rw [h1, h2]
    refine ⟨fun r c _ => ?_, rfl⟩
    have q1 := h.cell_le r c
    have q2 := (cell_rng h.chk r c).1
    show cell t r c = 0
    omega
  intro f
  induction f with
  | zero =>
    intro s t h hf
    rcases split_step h hf with ⟨h1, h2⟩ | ⟨g, p, r, x, hg, _⟩
    · exact base h h1 h2
    · omega
  | succ f ih =>
    intro s t h hf
    rcases split_step h hf with ⟨h1, h2⟩ | ⟨g, p, r, x, hg, hw, hx, hx0, hs, hts, hp, hev⟩
    · exact base h h1 h2
    · obtain rfl : g = f := by omega
      obtain ⟨i1, i2⟩ := ih hev hts
      rw [hs]
      refine ⟨fun r' c hr' => ?_, by rw [List.map_cons, List.sum_cons, i2]; omega⟩
      have := i1 r' c hr'
      rw [take_at h.sq (plansS_mem hp) hr'] at this
      rw [atC, List.map_cons, List.sum_cons]
      unfold atC at this
      simp only
      omega
theorem planE_plan : ∀ n : Fin 5, ∀ p ∈ plansS n.val, planE n.val (up p) = 0 := by decide +kernel
theorem split_rng {n : Nat} : ∀ (f : Nat) {s : Int} {t : Tb}, EvT n s t → tsum t ≤ f → ∀ q ∈ splitF f t, q.1 ∈ plansS n ∧ 1 ≤ q.2 ∧ q.2 ≤ 9 := by
  intro f
  induction f with
  | zero => intro s t h hf q hq; cases hq
  | succ f ih =>
    intro s t h hf q hq
    rcases split_step h hf with ⟨h1, h2⟩ | ⟨g, p, r, x, hg, hw, hx, hx0, hs, hts, hp, hev⟩
    · rw [h1] at hq; cases hq
    · obtain rfl : g = f := by omega
      rw [hs] at hq
      rcases List.mem_cons.1 hq with rfl | hq
      · refine ⟨hp, by omega, ?_⟩
        have := leastK_le (t := t) (p := up p) n 0 h.bd.1
        have h9 := (cell_rng h.chk 0 ((up p).getD 0 0).toNat).2
        omega
      · exact ih hev hts q hq
theorem shErr_zero {n : Nat} : ∀ {ss : List (List Int × Int)}, (∀ q ∈ ss, planE n q.1 = 0 ∧ 1 ≤ q.2 ∧ q.2 ≤ 36) → shErr n ss = 0
  | [], _ => rfl
  | s :: r, h => by
    obtain ⟨h1, h2, h3⟩ := h s (by simp)
    rw [shErr, if_neg (by simp [h1]), if_neg (by omega), shErr_zero fun q hq => h q (by simp [hq])]
/-- The shares of a split add up to the table. -/
theorem split_back {n : Nat} {f : Nat} {s : Int} {t : Tb} (h : EvT n s t) (hf : tsum t ≤ f) : sumE n (shU (splitF f t)) = (t, 0) := by
  have hb := h.bd
  have hlen := (split_len h hf).1
  have hd : dimN n ≤ 10 := by
    have : n = 1 ∨ n = 2 ∨ n = 3 ∨ n = 4 := by omega
    rcases this with rfl | rfl | rfl | rfl <;> decide
  have hr := split_rng f h hf
  have hadd : addAll (zeroT n) (shU (splitF f t)) = t := by
    refine (addAll_sq _ (Sq.zero n)).ext h.sq fun r c hr' hc => ?_
    rw [addAll_at _ (Sq.zero n) (fun q hq => plansS_mem (hr q hq).1) r c hr', zeroT_cell, (split_at f h hf).1 r c hr']
    omega
  have hse : shErr n (shU (splitF f t)) = 0 := by
    refine shErr_zero fun q hq => ?_
    obtain ⟨q', hq', rfl⟩ := List.mem_map.1 hq
    obtain ⟨a1, a2, a3⟩ := hr q' hq'
    exact ⟨planE_plan ⟨n, by omega⟩ _ a1, a2, by simp only; omega⟩
  unfold sumE
  rw [if_neg (by omega), if_neg (by simp [shU]; omega), Int.toNat_natCast, sumL_eq, if_neg (by simp [hse]), if_neg (by rw [hadd]; simp [h.chk]), hadd]
/-- Through a number above 0 there is a plan. -/
theorem through {n : Nat} {s : Int} {t : Tb} (h : EvT n s t) {r c : Nat} (hr : r < n) (hc : c < n) : (∃ p ∈ plansS n, p.getD r 0 = c ∧ ∀ r', r' < n → 0 < cell t r' (p.getD r' 0)) ↔ 0 < cell t r c := by
  constructor
  · rintro ⟨p, _, rfl, h2⟩
    exact h2 r hr
  · intro h0
    have hf : tsum t ≤ (tsum t).toNat := by have := (tsum_rng h.chk).1; omega
    have h1 := (split_at _ h hf).1 r c hr
    have h2 := split_pos _ h hf
    generalize splitF (tsum t).toNat t = S at *
    have : ∃ q ∈ S, q.1.getD r 0 = c := by
      refine Classical.byContradiction fun hno => ?_
      have hz : ∀ S : List (List Nat × Int), (∀ q ∈ S, ¬ q.1.getD r 0 = c) → atC S r c = 0 := by
        intro S
        induction S with
        | nil => intro _; rfl
        | cons a S ih =>
          intro h
          have h3 := ih fun q hq => h q (by simp [hq])
          unfold atC at h3 ⊢
          rw [List.map_cons, List.sum_cons, h3, if_neg (h a (by simp))]; rfl
      rw [hz S fun q hq he => hno ⟨q, hq, he⟩] at h1
      omega
    obtain ⟨q, hq, he⟩ := this
    exact ⟨q.1, (h2 q hq).1, he, (h2 q hq).2⟩
theorem evenT_ev (g : List Nat) {i : Nat} (hi : i ≤ 9) : EvT (gsz g) i (evenK g i) :=
  ⟨evenK_chk g hi, evenK_len g i, fun k hk => (evenK_sums g i k hk).1, fun k hk => (evenK_sums g i k hk).2⟩
/-- No block just if there is anything. -/
theorem bar_even {n : Nat} {s : Int} {t : Tb} (h : EvT n s t) : ((barO t).2.2 = 13) ↔ 0 < s := by
  obtain ⟨bb1, bb2⟩ := barF_best h.chk (2 ^ t.length) (Nat.le_refl _)
  constructor
  · intro he
    refine Classical.byContradiction fun hs => ?_
    have hs0 : s = 0 := by have := h.pos; omega
    have hnil : withinS t = [] := by
      cases hw : withinS t with
      | nil => rfl
      | cons p r =>
        have h1 := (within_pos (t := t) (p := p) (by rw [hw]; simp)).2 0 (by rw [h.len]; exact h.bd.1)
        have h2 := h.cell_le 0 (p.getD 0 0)
        omega
    obtain ⟨z, z1, z2, z3⟩ := no_plan h.chk hnil
    rw [barO, if_neg (by simp [h.chk])] at he
    cases hb : barF t (2 ^ t.length) with
    | none => rw [bb1 hb z z2 z1] at z3; cases z3
    | some s' => rw [hb] at he; cases he
  · intro hs
    cases hw : withinS t with
    | nil => exact absurd hw (h.plan hs)
    | cons p r =>
      rw [barO, if_neg (by simp [h.chk])]
      cases hb : barF t (2 ^ t.length) with
      | none => rfl
      | some s' =>
        have hq := bb2 s' hb
        have := plan_no h.chk (p := p) (by rw [hw]; simp) hq.2.1
        rw [this] at hq
        exact absurd hq.2.2.1 (by simp)
end Go.Proofs.YtbofkeoebnjjkaaDoor

namespace Go.Proofs.YtbofkeoebnjjkaaDoor
open Tab
set_option linter.unusedVariables false
set_option linter.unusedSimpArgs false

/- Greater numbers: no fewer plans, no smaller weight. -/
theorem leastK_mono {t u : Tb} {p : List Int} (h : ∀ r c, cell t r c ≤ cell u r c) : ∀ i, leastK t p i ≤ leastK u p i
  | 0 => h _ _
  | i + 1 => by
    have := leastK_mono (p := p) h i
    have := h i (p.getD i 0).toNat
    rw [leastK, leastK]
    split <;> split <;> omega
theorem prodK_mono {t u : Tb} (ht : chkT t = 0) (hu : chkT u = 0) {p : List Nat} (h : ∀ r c, cell t r c ≤ cell u r c) : ∀ i, prodK t p i ≤ prodK u p i
  | 0 => Int.le_refl _
  | i + 1 => by
    rw [prodK, prodK]
    exact Int.mul_le_mul (prodK_mono ht hu h i) (h _ _) (cell_rng ht _ _).1 (prodK_bd hu p i).1
theorem filter_mono {α : Type} {p q : α → Bool} (h : ∀ x, p x = true → q x = true) : ∀ l : List α, (l.filter p).length ≤ (l.filter q).length
  | [] => Nat.le_refl _
  | a :: l => by
    have := filter_mono h l
    rw [List.filter_cons, List.filter_cons]
    by_cases hp : p a = true
    · rw [if_pos hp, if_pos (h a hp)]; simp; exact this
    · rw [if_neg hp]
      split
      · simp; omega
      · exact this
theorem more_mono {t u : Tb} (ht : chkT t = 0) (hu : chkT u = 0) (hl : t.length = u.length) (h : ∀ r c, cell t r c ≤ cell u r c) : (countE t).1 ≤ (countE u).1 ∧ (weightE t).1 ≤ (weightE u).1 := by
  rw [countE_eq ht, countE_eq hu, weightE_eq ht, weightE_eq hu]
  constructor
  · have := filter_mono (p := fun p => decide (0 < leastK t (up p) u.length)) (q := fun p => decide (0 < leastK u (up p) u.length)) (fun p hp => by
      have := leastK_mono (p := up p) h u.length
      simp at hp ⊢; omega) (plansS u.length)
    unfold withinS
    rw [hl]
    omega
  · rw [hl]
    generalize plansS u.length = l
    induction l with
    | nil => exact Int.le_refl _
    | cons p l ih =>
      simp only [sumP, List.map_cons, List.sum_cons, hl] at ih ⊢
      have := prodK_mono ht hu (p := p) h u.length
      omega
theorem setc_cell {t : Tb} {r c : Nat} {y : Int} (hr : r < t.length) (hc : c < (row t r).length) (r' c' : Nat) : cell (t.set r ((row t r).set c y)) r' c' = if r' = r ∧ c' = c then y else cell t r' c' := by
  unfold cell row
  rw [getT_set hr]
  by_cases h : r' = r
  · subst h
    rw [if_pos rfl, List.getD_eq_getElem?_getD, List.getElem?_set]
    by_cases h2 : c = c'
    · subst h2
      have : c < (List.getD t r' []).length := hc
      rw [if_pos rfl, if_pos this, if_pos ⟨rfl, rfl⟩]; rfl
    · rw [if_neg h2, if_neg (fun h => h2 h.2.symm)]
      rw [List.getD_eq_getElem?_getD (l := List.getD t r' [])]
  · rw [if_neg h, if_neg (fun h' => h h'.1)]
theorem setc_chk {t : Tb} {r c : Nat} {y : Int} (ht : chkT t = 0) (hr : r < t.length) (hc : c < t.length) (hy : 0 ≤ y ∧ y ≤ 9) : chkT (t.set r ((row t r).set c y)) = 0 := by
  obtain ⟨n1, n2, hrows⟩ := chkT_ok ht
  refine chkT_mk2 (by simpa using n1) (by simpa using n2) fun l hl => ?_
  rw [List.length_set]
  rcases List.mem_or_eq_of_mem_set hl with h | rfl
  · exact hrows l h
  · have hrow := hrows _ (row_mem hr)
    refine ⟨by rw [List.length_set]; exact hrow.1, fun x hx => ?_⟩
    rcases List.mem_or_eq_of_mem_set hx with h | rfl
    · exact hrow.2 x h
    · exact hy
end Go.Proofs.YtbofkeoebnjjkaaDoor

namespace Go.Proofs.YtbofkeoebnjjkaaDoor
open Tab
set_option linter.unusedVariables false
set_option linter.unusedSimpArgs false
set_option maxRecDepth 20000

/- Shares by numbers. -/
def adX (ts : List Nat) (i : Nat) : Int := ((1 + gv ts i % 4 : Nat) : Int)
def adS (g ts : List Nat) (i : Nat) : List (List Nat × Int) := (List.range i).map fun j => (pick g j, adX ts j)
def adT (g ts : List Nat) (i : Nat) : Tb := addAll (zeroT (gsz g)) (shU (adS g ts i))
def adM (ts : List Nat) (i : Nat) : Int := ((List.range i).map (adX ts)).sum
theorem adX_bd (ts : List Nat) (i : Nat) : 1 ≤ adX ts i ∧ adX ts i ≤ 4 := by unfold adX; omega
@[simp] theorem adS_length (g ts : List Nat) (i : Nat) : (adS g ts i).length = i := by simp [adS]
theorem adS_succ (g ts : List Nat) (i : Nat) : adS g ts (i + 1) = adS g ts i ++ [(pick g i, adX ts i)] := by simp [adS, List.range_succ]
theorem adM_succ (ts : List Nat) (i : Nat) : adM ts (i + 1) = adM ts i + adX ts i := by simp [adM, List.range_succ]
theorem addAll_append : ∀ (a b : List (List Int × Int)) (t : Tb), addAll t (a ++ b) = addAll (addAll t a) b
  | [], b, t => rfl
  | s :: a, b, t => addAll_append a b _
theorem adT_succ (g ts : List Nat) (i : Nat) : adT g ts (i + 1) = takeT (adT g ts i) (up (pick g i)) (-adX ts i) := by
  rw [adT, adS_succ, shU, List.map_append, addAll_append]; rfl
theorem adT_sq (g ts : List Nat) (i : Nat) : Sq (gsz g) (adT g ts i) := addAll_sq _ (Sq.zero _)
theorem adT_zero (g ts : List Nat) : adT g ts 0 = zeroT (gsz g) := rfl
theorem adM_bd (ts : List Nat) : ∀ i, 0 ≤ adM ts i ∧ adM ts i ≤ 4 * i
  | 0 => by simp [adM]
  | i + 1 => by have := adM_bd ts i; have := adX_bd ts i; rw [adM_succ]; omega
theorem adT_bd (g ts : List Nat) : ∀ i r c, 0 ≤ cell (adT g ts i) r c ∧ cell (adT g ts i) r c ≤ 4 * i
  | 0, r, c => by rw [adT_zero, zeroT_cell]; omega
  | i + 1, r, c => by
    have h := adT_bd g ts i r c
    have hx := adX_bd ts i
    by_cases hr : r < gsz g
    · rw [adT_succ, take_at (adT_sq g ts i) (pick_plan g i) hr]
      split <;> omega
    · rw [zero_cell (by rw [(adT_sq g ts (i + 1)).len]; omega)]; omega
theorem adT_sums (g ts : List Nat) : ∀ i k, k < gsz g → rowS (adT g ts i) k (gsz g) = adM ts i ∧ colS (adT g ts i) k (gsz g) = adM ts i
  | 0, k, hk => by
    have h : ∀ (l : List Nat) (f : Nat → Int), (∀ x, f x = 0) → (l.map f).sum = 0 := by
      intro l f h
      induction l with
      | nil => rfl
      | cons a l ih => rw [List.map_cons, List.sum_cons, ih, h]; rfl
    exact ⟨h _ _ fun c => by rw [adT_zero, zeroT_cell], h _ _ fun c => by rw [adT_zero, zeroT_cell]⟩
  | i + 1, k, hk => by
    obtain ⟨h1, h2⟩ := adT_sums g ts i k hk
    have hb := gsz_bd g
    have hs := adT_sq g ts i
    have hp := pick_plan g i
    have hf := hs.fit hp
    rw [adT_succ, adM_succ]
    constructor
    · rw [rowS_takeR hf (by rw [hp.1, hs.len]) (by rw [hs.len]; exact hk) (gsz g) (by rw [hs.len]; exact Nat.le_refl _), h1, if_pos]
      · omega
      · exact hp.2 _ (getD_mem (by rw [hp.1]; exact hk))
    · rw [colS_take hf (by rw [hp.1, hs.len]) k (gsz g) (by rw [hs.len]; exact Nat.le_refl _), h2]
      have := perm_count ⟨gsz g, by omega⟩ (pick g i) (pick_mem g i) ⟨k, by omega⟩ hk
      simp only at this
      rw [this]; simp
/-- The greatest number. -/
structure Mx (n : Nat) (t : Tb) (m : Int) : Prop where
  le : ∀ r c, cell t r c ≤ m
  pos : 0 ≤ m
  at' : m = 0 ∨ ∃ r c, r < n ∧ c < n ∧ cell t r c = m
theorem Mx.zero (n : Nat) : Mx n (zeroT n) 0 := ⟨fun r c => by rw [zeroT_cell]; omega, by omega, .inl rfl⟩
theorem Mx.step {n : Nat} {t : Tb} {m y : Int} {r c : Nat} (h : Mx n t m) (hs : Sq n t) (hr : r < n) (hc : c < n) (hy : cell t r c < y) : Mx n (t.set r ((row t r).set c y)) (if y > m then y else m) := by
  have hcell := fun r' c' => setc_cell (t := t) (r := r) (c := c) (y := y) (by rw [hs.len]; exact hr) (by rw [hs.rowl r hr]; exact hc) r' c'
  have hp := h.pos
  refine ⟨fun r' c' => ?_, by split <;> omega, ?_⟩
  · rw [hcell]
    have := h.le r' c'
    split <;> split <;> omega
  · by_cases hm : y > m
    · rw [if_pos hm]
      exact .inr ⟨r, c, hr, hc, by rw [hcell, if_pos ⟨rfl, rfl⟩]⟩
    · rw [if_neg hm]
      rcases h.at' with h0 | ⟨r0, c0, h1, h2, h3⟩
      · exact .inl h0
      · refine .inr ⟨r0, c0, h1, h2, ?_⟩
        rw [hcell, if_neg, h3]
        rintro ⟨rfl, rfl⟩
        omega
theorem ad_chk {n : Nat} {t : Tb} {m : Int} (hn : 1 ≤ n ∧ n ≤ 4) (hs : Sq n t) (h0 : ∀ r c, 0 ≤ cell t r c) (h : Mx n t m) : chkT t = 0 ↔ m ≤ 9 := by
  constructor
  · intro hc
    rcases h.at' with h0 | ⟨r, c, _, _, h3⟩
    · omega
    · rw [← h3]; exact (cell_rng hc r c).2
  · intro hm
    refine chkT_mk (by rw [hs.len]; exact hn.1) (by rw [hs.len]; exact hn.2) (fun r hr => by rw [hs.len] at hr ⊢; exact hs.rowl r hr) fun r c _ => ⟨h0 r c, ?_⟩
    have := h.le r c
    omega
theorem ad_err (g ts : List Nat) (i : Nat) : shErr (gsz g) (shU (adS g ts i)) = 0 := by
  have hb := gsz_bd g
  refine shErr_zero fun q hq => ?_
  obtain ⟨q', hq', rfl⟩ := List.mem_map.1 hq
  obtain ⟨j, _, rfl⟩ := List.mem_map.1 hq'
  have := adX_bd ts j
  exact ⟨planE_plan ⟨gsz g, by omega⟩ _ (pick_mem g j), by simp only; omega, by simp only; omega⟩
theorem ad_sum {g ts : List Nat} {i : Nat} {m : Int} (hi : i ≤ 8) (h : Mx (gsz g) (adT g ts i) m) : sumE (gsz g) (shU (adS g ts i)) = if 9 < m then ([], 15) else (adT g ts i, 0) := by
  have hb := gsz_bd g
  have hck := ad_chk hb (adT_sq g ts i) (fun r c => (adT_bd g ts i r c).1) h
  unfold sumE
  rw [if_neg (by omega), if_neg (by simp [shU]; omega), Int.toNat_natCast, sumL_eq, if_neg (by rw [ad_err]; simp)]
  show (if chkT (adT g ts i) ≠ 0 then _ else _) = _
  by_cases hm : 9 < m
  · rw [if_pos (by rw [Ne, hck]; omega), if_pos hm]
  · rw [if_neg (by rw [Decidable.not_not, hck]; omega), if_neg hm]; rfl
theorem ad_even {g ts : List Nat} {i : Nat} (hc : chkT (adT g ts i) = 0) : evenE (adT g ts i) = (adM ts i, 0) := by
  have hb := gsz_bd g
  have hs := adT_sums g ts i
  rw [evenE_iff hc, (adT_sq g ts i).len, (hs 0 (by omega)).1, if_pos fun k hk => ⟨(hs k hk).1, (hs k hk).2⟩]
/-- One share that is wrong. -/
theorem shErr_at {n : Nat} {s : List Int × Int} : ∀ {a b : List (List Int × Int)}, shErr n a = 0 → shErr n (a ++ s :: b) = shErr n (s :: b)
  | [], b, _ => rfl
  | x :: a, b, h => by
    rw [shErr] at h
    rw [List.cons_append, shErr]
    split at h
    · rename_i h1; exact absurd h h1
    · rename_i h1
      split at h
      · cases h
      · rename_i h2
        rw [if_neg h1, if_neg h2]
        exact shErr_at h
theorem shErr_pre {n : Nat} : ∀ {l : List (List Int × Int)} (i : Nat), shErr n l = 0 → shErr n (l.take i) = 0
  | [], i, h => by simp; rfl
  | x :: l, 0, h => rfl
  | x :: l, i + 1, h => by
    rw [shErr] at h
    rw [List.take_succ_cons, shErr]
    split at h
    · rename_i h1; exact absurd h h1
    · rename_i h1
      split at h
      · cases h
      · rename_i h2
        rw [if_neg h1, if_neg h2]
        exact shErr_pre i h
theorem ad_wrong {g ts : List Nat} {k i : Nat} {s : List Int × Int} {e : Int} (hk : k ≤ 8) (hi : i < k) (he : ∀ b, shErr (gsz g) (s :: b) = e) (h0 : e ≠ 0) : (sumE (gsz g) ((shU (adS g ts k)).set i s)).2 = e := by
  have hb := gsz_bd g
  have hl : (shU (adS g ts k)).length = k := by simp [shU]
  have hset : (shU (adS g ts k)).set i s = (shU (adS g ts k)).take i ++ s :: (shU (adS g ts k)).drop (i + 1) := List.set_eq_take_append_cons_drop (l := shU (adS g ts k)) (i := i) (a := s) |>.trans (by rw [if_pos (by omega)])
  unfold sumE
  rw [if_neg (by omega), if_neg (by rw [List.length_set, hl]; omega), Int.toNat_natCast, sumL_eq, hset, shErr_at (shErr_pre i (ad_err g ts k)), he, if_pos h0]
theorem wrong_times {n : Nat} {p : List Int} {x : Int} (hp : planE n p = 0) (hx : x < 1 ∨ 36 < x) (b : List (List Int × Int)) : shErr n ((p, x) :: b) = 1 := by
  rw [shErr, if_neg (by simp [hp]), if_pos hx]
theorem wrong_plan {n : Nat} {p : List Int} {x e : Int} (hp : planE n p = e) (he : e ≠ 0) (b : List (List Int × Int)) : shErr n ((p, x) :: b) = e := by
  rw [shErr, if_pos (by simp [hp, he])]; exact hp
end Go.Proofs.YtbofkeoebnjjkaaDoor

namespace Go.Proofs.YtbofkeoebnjjkaaDoor
open Go.Av Tab
set_option linter.unusedVariables false
set_option linter.unusedSimpArgs false
set_option maxRecDepth 4000

theorem alloc_growT {sz : Nat} {H0 H : Heap} {v : AV} {n b : Nat} {cells cs : List AV} (h : Grow sz H0 H v n cells) (hb : H b = none) : Grow sz (H0.put b cs) (H.put b cs) v n cells := by
  refine ⟨h.1, ?_⟩
  rcases h.2 with ⟨e, e2, rfl⟩ | ⟨e, rfl⟩ | ⟨b3, hb3, e, rfl⟩
  · exact .inl ⟨e, e2, rfl⟩
  · exact .inr (.inl ⟨e, rfl⟩)
  · right; right
    have hne : b3 ≠ b := by rintro rfl; rw [Heap.put_same] at hb; cases hb
    refine ⟨b3, by rw [Heap.put_ne hne]; exact hb3, e, ?_⟩
    funext y
    simp only [Heap.put]
    by_cases h1 : y = b
    · subst h1; rw [if_pos rfl, if_neg (Ne.symm hne), if_pos rfl]
    · rw [if_neg h1]
      by_cases h2 : y = b3
      · rw [if_pos h2, if_pos h2]
      · rw [if_neg h2, if_neg h2, if_neg h1]
/-- The memory without the list, under a table. -/
theorem grow_under {H B H' : Heap} {X : AV} {n bo : Nat} {cs cells : List AV} {t : Tbl} (hX : X = .nils ∨ isOwn X) (hg : Grow 2 H B X n cs) (hPl : PT B H' bo cells t) :
    ∃ Hl : Heap, Grow 2 Hl H' X n cs ∧ H.le Hl ∧ Hl bo = some cells ∧ ∀ b' c', H' b' = some c' → B b' = none → Hl b' = some c' := by
  rcases hX with rfl | ho
  · have hd0 : (n = 0 ∧ cs = []) ∧ B = H := by
      rcases hg.2 with ⟨_, h1, h2⟩ | ⟨h1, _⟩ | ⟨b, _, h1, _⟩
      · refine ⟨⟨h1, ?_⟩, h2⟩
        have := hg.1
        rw [h1] at this
        exact List.eq_nil_of_length_eq_zero (by simpa using this)
      · cases h1
      · cases h1
    obtain ⟨⟨rfl, rfl⟩, rfl⟩ := hd0
    exact ⟨H', Grow.nils 2 H', hPl.le, hPl.out, fun _ _ h _ => h⟩
  · obtain ⟨bx, hbx, rfl, rfl⟩ := hg.own ho
    have hbx' : H' bx = some cs := hPl.le _ _ Heap.put_same
    have hne : bo ≠ bx := by rintro rfl; have := hPl.fo; rw [Heap.put_same] at this; cases this
    refine ⟨H'.del bx, ?_, fun z c hz => ?_, ?_, fun b' c' h1 h2 => ?_⟩
    · have := Grow.ref (sz := 2) (H := H'.del bx) (b := bx) (n := n) (cells := cs) (by simp [Heap.del]) hg.1
      rwa [Heap.del_put, show H'.put bx cs = H' from by
        funext y
        simp only [Heap.put]
        split
        · rename_i e; rw [e, hbx']
        · rfl] at this
    · have : z ≠ bx := by rintro rfl; rw [hbx] at hz; cases hz
      simp only [Heap.del, if_neg this]
      exact hPl.le _ _ (by rw [Heap.put_ne this]; exact hz)
    · simp only [Heap.del, if_neg hne]; exact hPl.out
    · have : b' ≠ bx := by rintro rfl; rw [Heap.put_same] at h2; cases h2
      simp only [Heap.del, if_neg this]; exact h1
theorem nil42 {H : Heap} {v : AV} {n : Nat} {cs : List AV} (hv : ReadsC 2 H v n cs) (hn : 0 < n) : binF Tryd.prog .eql 42 v .nils = some (.bool false) := by
  have h1 : ∃ e, Tryd.prog.underlying 42 = some (.slice e) := by
    have : (match Tryd.prog.underlying 42 with | some (.slice _) => true | _ => false) = true := by kernel_rfl
    revert this
    cases Tryd.prog.underlying 42 with
    | none => intro h; cases h
    | some u => cases u <;> intro h <;> first | exact ⟨_, rfl⟩ | cases h
  obtain ⟨e, h1⟩ := h1
  have h := hv.2
  cases v <;> simp only at h <;> try exact h.elim
  · omega
  · obtain ⟨rfl, rfl⟩ := h
    have := hv.1
    rename_i m f cc
    cases m with
    | zero => omega
    | succ m =>
      cases cc with
      | nil => simp at this
      | cons a cc => simp [binF, eqF, h1]
  · simp [binF, eqF, h1]
theorem reads_src2 {H : Heap} {v : AV} {n : Nat} {cs : List AV} (h : ReadsC 2 H v n cs) : srcOf 2 v H = some (n, cs) := by
  have h1 := h.1
  have h2 := h.2
  cases v <;> simp only at h2 <;> try exact h2.elim
  · subst h2
    have : cs = [] := List.eq_nil_of_length_eq_zero (by simpa using h1)
    rw [this]; rfl
  · obtain ⟨rfl, rfl⟩ := h2
    simp [srcOf, h1]
  · obtain ⟨rfl, rfl, cc, q1, q2, q3⟩ := h2
    simp only [srcOf, if_true, q1, Option.bind_some, if_pos q2, q3]
theorem l42n : literalF Tryd.prog 42 0 [] = some [] := by
  rw [literalF_of (show literalPlan Tryd.prog 42 = some ([.nils, .int .i64 0], 2) by kernel_rfl) (by decide) (by simp)]
  rfl
/-- slices.Clone of shares -/
theorem c60 {v : AV} {n : Nat} {cs : List AV} {H : Heap} {K : AV → Heap → Prop} (hv : ReadsC 2 H v n cs) (hs : cs.all isScalar = true) (hn : 0 < n ∧ n < 1000000)
    (hk : ∀ b, H b = none → K (.ref 2 b 0 n none) (H.put b cs)) : ACalls Tryd.prog 60 [v] H K := by
  apply W60_ok
  unfold W60
  simp only [letO_some, cellsOf?_agg, cellsOf?_int, cellsOf?_bool, cellsOf?_imm, cellsOf?_ref, cellsOf?_nils, faddr_iptr, faddr_ptr, List.drop_succ_cons, List.drop_zero, List.take_succ_cons, List.take_zero, load1_iptr, loadN_iptr, List.length_cons, List.length_nil, Nat.le_refl, if_true, List.getElem?_cons_zero, List.getElem?_cons_succ, List.getD_cons_zero, List.getD_cons_succ, extrF_tup, binF_add, binF_sub, binF_mul, binF_eql, binF_neq, binF_lss, binF_leq, binF_gtr, binF_geq, true_and, nil42 hv hn.1, condA_bool, condG_bool, l42n]
  refine ⟨fun h => by simp at h, fun _ => ?_⟩
  refine appendA_growR (Grow.imm (sz := 2) (n := 0) (cells := []) rfl) (reads_src2 hv) hs hv.1 hn.1 (by omega) (by omega) fun v' H' hg hr => ?_
  have hg2 : Grow 2 H H' v' n cs := by simpa using hg
  obtain ⟨b, hb, rfl, rfl⟩ := hg2.own hr
  exact endK_ret (hk b hb)
theorem quo_u8 {a b : Nat} (hb : b ≠ 0) (ha : a < 256) : binF Tryd.prog .quo 5 (.int .u8 (a : Int)) (.int .u8 (b : Int)) = some (.int .u8 ((a / b : Nat) : Int)) := by
  have key : ∀ x : Fin 256, IntKind.u8.wrap (x.val : Int) = (x.val : Int) := by decide +kernel
  have h : a / b ≤ a := Nat.div_le_self a b
  simp only [binF]
  rw [if_pos ⟨by trivial, by omega⟩, ← Int.ofNat_tdiv]
  have := key ⟨a / b, by omega⟩
  simp only at this
  rw [this]
/-- Shares with their plans. -/
def shV (q : AV × Int) : List AV := [q.1, .int .i64 q.2]
theorem shV_len (q : AV × Int) : (shV q).length = 2 := rfl
theorem sh_shV (S : List (List Nat × Int)) : S.flatMap shC = (S.map fun q => (sl (up q.1), q.2)).flatMap shV := by
  induction S with
  | nil => rfl
  | cons s S ih => rw [List.flatMap_cons, List.map_cons, List.flatMap_cons, ih]; rfl
theorem splice_one {l : List AV} {k : Nat} {y : AV} (h : k < l.length) : splice l k [y] = l.set k y := by
  rw [splice, List.length_singleton, List.set_eq_take_append_cons_drop, if_pos h]; simp
theorem shV_set1 : ∀ {l : List (AV × Int)} {i : Nat} {y : Int}, (h : i < l.length) → (l.flatMap shV).set (i * 2 + 1) (.int .i64 y) = (l.set i (l[i].1, y)).flatMap shV
  | a :: l, 0, y, _ => rfl
  | a :: l, i + 1, y, h => by
    rw [List.flatMap_cons, List.set_cons_succ, List.flatMap_cons, List.set_append_right _ _ (by rw [shV_len]; omega), shV_len, show (i + 1) * 2 + 1 - 2 = i * 2 + 1 by omega, shV_set1 (by simpa using h)]
    rfl
theorem shV_set0 : ∀ {l : List (AV × Int)} {i : Nat} {a : AV}, (h : i < l.length) → (l.flatMap shV).set (i * 2) a = (l.set i (a, l[i].2)).flatMap shV
  | b :: l, 0, a, _ => rfl
  | b :: l, i + 1, a, h => by
    rw [List.flatMap_cons, List.set_cons_succ, List.flatMap_cons, List.set_append_right _ _ (by rw [shV_len]; omega), shV_len, show (i + 1) * 2 - 2 = i * 2 by omega, shV_set0 (by simpa using h)]
    rfl
/-- Shares stand in a block: what they say. -/
theorem RS_block {H : Heap} {b : Nat} {l : List (AV × Int)} {ss : List (List Int × Int)} (hb : H b = some (l.flatMap shV)) (hl : l.length = ss.length) (h : ∀ i (h1 : i < l.length) (h2 : i < ss.length), l[i].2 = ss[i].2 ∧ Reads H l[i].1 ss[i].1) : RS H (.ref 2 b 0 ss.length none) ss := by
  refine ⟨l.flatMap shV, ⟨by rw [rows_len shV_len, hl], rfl, rfl, _, hb, by rw [rows_len shV_len, hl]; omega, by rw [List.drop_zero, List.take_of_length_le (by rw [rows_len shV_len, hl]; omega)]⟩, fun i hi => ?_⟩
  have h1 : i < l.length := by omega
  obtain ⟨q1, q2⟩ := h i h1 hi
  have e : ss.getD i ([], 0) = ss[i] := by simp [List.getD_eq_getElem?_getD, hi]
  rw [e, ← q1]
  refine ⟨l[i].1, ?_, q2⟩
  rw [rows_get shV_len (x := l[i]) (by simp [h1])]; rfl
end Go.Proofs.YtbofkeoebnjjkaaDoor

namespace Go.Proofs.YtbofkeoebnjjkaaDoor
open Go.Av Tab
set_option linter.unusedVariables false
set_option linter.unusedSimpArgs false
set_option maxRecDepth 4000

theorem c59p {v : AV} {l : List Int} {H : Heap} {K : AV → Heap → Prop} (hv : Reads H v l) (hne : l ≠ []) (hl : l.length < 1000000) (hk : K (sl l) H) : ACalls Tryd.prog 59 [v] H K :=
  ACalls.pub (c59 hv hne hl fun b hb => (Grow.ref (sz := 1) (H := H) (b := b) (n := l.length) (cells := ints l) hb (by simp)).end1 hk)
theorem plan_out : ∀ n : Fin 5, n.val ≠ 0 → ∀ p ∈ plansS n.val, planE n.val ((up p).set 0 (n.val : Int)) = 2 := by decide +kernel
/-- TableAdded -/
theorem c10 {g ts : List Nat} {bad : Nat} {H : Heap} {K : AV → Heap → Prop} (hg : Led g) (ht : ts.length = 8) (ht2 : ∀ x ∈ ts, x < 256) (hbad : bad < 256) (hk : K (.bool true) H) : ACalls Tryd.prog 10 [.agg (u8s g), .agg (u8s ts), .int .u8 (bad : Int)] H K := by
  apply W10_ok
  unfold W10
  have hb := gsz_bd g
  simp only [letO_some, cellsOf?_agg, cellsOf?_int, cellsOf?_bool, cellsOf?_imm, cellsOf?_ref, cellsOf?_nils, faddr_iptr, faddr_ptr, List.drop_succ_cons, List.drop_zero, List.take_succ_cons, List.take_zero, load1_iptr, loadN_iptr, List.length_cons, List.length_nil, Nat.le_refl, if_true, List.getElem?_cons_zero, List.getElem?_cons_succ, List.getD_cons_zero, List.getD_cons_succ, extrF_tup, binF_add, binF_sub, binF_mul, binF_eql, binF_neq, binF_lss, binF_leq, binF_gtr, binF_geq, true_and, hg.all]
  refine c58 hg ?_
  try simp only [letO_some, cellsOf?_agg, cellsOf?_int, cellsOf?_bool, cellsOf?_imm, cellsOf?_ref, cellsOf?_nils, faddr_iptr, faddr_ptr, List.drop_succ_cons, List.drop_zero, List.take_succ_cons, List.take_zero, load1_iptr, loadN_iptr, List.length_cons, List.length_nil, Nat.le_refl, if_true, List.getElem?_cons_zero, List.getElem?_cons_succ, List.getD_cons_zero, List.getD_cons_succ, extrF_tup, binF_add, binF_sub, binF_mul, binF_eql, binF_neq, binF_lss, binF_leq, binF_gtr, binF_geq, true_and]
  refine c45 hb ?_
  try simp only [letO_some, cellsOf?_agg, cellsOf?_int, cellsOf?_bool, cellsOf?_imm, cellsOf?_ref, cellsOf?_nils, faddr_iptr, faddr_ptr, List.drop_succ_cons, List.drop_zero, List.take_succ_cons, List.take_zero, load1_iptr, loadN_iptr, List.length_cons, List.length_nil, Nat.le_refl, if_true, List.getElem?_cons_zero, List.getElem?_cons_succ, List.getD_cons_zero, List.getD_cons_succ, extrF_tup, binF_add, binF_sub, binF_mul, binF_eql, binF_neq, binF_lss, binF_leq, binF_gtr, binF_geq, true_and]
  refine c49 ⟨hb.1, by omega⟩ fun bo cells H1 hP0 => ?_
  have h1 := hg.lt 1
  have hrm := rem_nat (k := .i64) (t := 3) (a := gv g 1) (b := 9) (by omega)
  simp only [letO_some, cellsOf?_agg, cellsOf?_int, cellsOf?_bool, cellsOf?_imm, cellsOf?_ref, cellsOf?_nils, faddr_iptr, faddr_ptr, List.drop_succ_cons, List.drop_zero, List.take_succ_cons, List.take_zero, load1_iptr, loadN_iptr, List.length_cons, List.length_nil, Nat.le_refl, if_true, List.getElem?_cons_zero, List.getElem?_cons_succ, List.getD_cons_zero, List.getD_cons_succ, extrF_tup, binF_add, binF_sub, binF_mul, binF_eql, binF_neq, binF_lss, binF_leq, binF_gtr, binF_geq, true_and, hg.load (show 1 < 27 by omega), conv53 (show (0 : Int) ≤ gv g 1 ∧ (gv g 1 : Int) < 256 by omega)]
  rw [show (9 : Int) = ((9 : Nat) : Int) by rfl, hrm]
  have hk8 : gv g 1 % 9 ≤ 8 := by omega
  generalize gv g 1 % 9 = k at *
  have hslc : slcArr 8 1 (.iptr ((u8s g).drop 19)) none (some (.int .i64 (k : Int))) none = some (.imm k (k == 8) (((u8s g).drop 19).take k)) := by
    have e : natOf (some (.int .i64 (k : Int))) 8 = some k := by simp [natOf]
    have e3 : natOf none 0 = some 0 := rfl
    simp only [slcArr, e, e3, Option.bind_some]
    rw [if_pos ⟨by omega, by omega⟩]
    simp
  have hli : ∀ f cs, lenA (.imm k f cs) = some (.int .i64 (k : Int)) := fun _ _ => rfl
  simp only [letO_some, cellsOf?_agg, cellsOf?_int, cellsOf?_bool, cellsOf?_imm, cellsOf?_ref, cellsOf?_nils, faddr_iptr, faddr_ptr, List.drop_succ_cons, List.drop_zero, List.take_succ_cons, List.take_zero, load1_iptr, loadN_iptr, List.length_cons, List.length_nil, Nat.le_refl, if_true, List.getElem?_cons_zero, List.getElem?_cons_succ, List.getD_cons_zero, List.getD_cons_succ, extrF_tup, binF_add, binF_sub, binF_mul, binF_eql, binF_neq, binF_lss, binF_leq, binF_gtr, binF_geq, true_and, hslc, hli]
  have hPlen : ((plansS (gsz g)).map up).length = (plansS (gsz g)).length := by simp
  have hPL : ∀ H : Heap, lenA (tl ((plansS (gsz g)).map up)) = some (.int .i64 (plansS (gsz g)).length) := fun H => by rw [(RT.tl H _).len, hPlen]
  have hpos := plansS_pos hb
  refine ⟨fun L H' => ∃ (i : Nat) (X : AV) (m : Int) (Hx B : Heap), eqt L [X, .int .i64 (adM ts i), .int .i64 m, .int .i64 i] ∧ i ≤ k ∧ H.le Hx ∧ Grow 2 Hx B X i ((adS g ts i).flatMap shC) ∧ PT B H' bo cells (adT g ts i) ∧ (X = .nils ∨ isOwn X) ∧ Mx (gsz g) (adT g ts i) m, fun L _ => (k - iv L 3).toNat,
    ⟨0, .nils, 0, H, H, rfl, by omega, Heap.le_refl _, Grow.nils 2 H, hP0, .inl rfl, Mx.zero _⟩, ?_⟩
  rintro L H2 ⟨i, X, m, Hx, B, rfl, hi, hlx, hgr, hP, hX, hM⟩
  try simp only [letO_some, cellsOf?_agg, cellsOf?_int, cellsOf?_bool, cellsOf?_imm, cellsOf?_ref, cellsOf?_nils, faddr_iptr, faddr_ptr, List.drop_succ_cons, List.drop_zero, List.take_succ_cons, List.take_zero, load1_iptr, loadN_iptr, List.length_cons, List.length_nil, Nat.le_refl, if_true, List.getElem?_cons_zero, List.getElem?_cons_succ, List.getD_cons_zero, List.getD_cons_succ, extrF_tup, binF_add, binF_sub, binF_mul, binF_eql, binF_neq, binF_lss, binF_leq, binF_gtr, binF_geq, true_and]
  refine condA_t (fun hlt => ?_) (fun hge => ?_)
  · have a1 : i < k := by omega
    have hx := hg.lt (19 + i)
    have hel : ((((u8s g).drop 19).take k).drop (i * 1))[0]? = some (.int .u8 (gv g (19 + i) : Int)) := by
      rw [List.getElem?_drop, Nat.mul_one, Nat.add_zero, List.getElem?_take_of_lt a1, List.getElem?_drop]
      exact hg.at (by omega)
    have hrm2 := rem_nat (k := .i64) (t := 3) (a := gv g (19 + i)) (b := (plansS (gsz g)).length) (by omega)
    simp only [idx_imm a1, letO_some, cellsOf?_agg, cellsOf?_int, cellsOf?_bool, cellsOf?_imm, cellsOf?_ref, cellsOf?_nils, faddr_iptr, faddr_ptr, List.drop_succ_cons, List.drop_zero, List.take_succ_cons, List.take_zero, load1_iptr, loadN_iptr, List.length_cons, List.length_nil, Nat.le_refl, if_true, List.getElem?_cons_zero, List.getElem?_cons_succ, List.getD_cons_zero, List.getD_cons_succ, extrF_tup, binF_add, binF_sub, binF_mul, binF_eql, binF_neq, binF_lss, binF_leq, binF_gtr, binF_geq, true_and, hel, conv53 (show (0 : Int) ≤ gv g (19 + i) ∧ (gv g (19 + i) : Int) < 256 by omega), hPL H2, hrm2]
    have hml := Nat.mod_lt (gv g (19 + i)) hpos
    refine ReadsC.get (Heap.le_refl H2) (n := (plansS (gsz g)).length) (cells := ((plansS (gsz g)).map up).map sl) ⟨by simp, by simp [tl]⟩ (x := sl (up (pick g i))) (by omega) (by omega) ?_ ?_
    · rw [Int.toNat_natCast]
      simp [pick, List.getD_eq_getElem?_getD, hml]
    have hpl := pick_plan g i
    have htl : gv ts i < 256 := by
      have : gv ts i ∈ ts := getD_mem (by omega)
      exact ht2 _ this
    have hte : ((u8s ts).drop i)[0]? = some (.int .u8 (gv ts i : Int)) := by
      rw [List.getElem?_drop, Nat.add_zero]
      simp [u8s, gv, List.getD_eq_getElem?_getD, show i < ts.length by omega]
    have hrm3 := rem_nat (k := .i64) (t := 3) (a := gv ts i) (b := 4) (by omega)
    have hadx : (1 : Int) + ((gv ts i % 4 : Nat) : Int) = adX ts i := by unfold adX; omega
    have hxb := adX_bd ts i
    simp only [idxArr_iptr (show i < 8 by omega), letO_some, cellsOf?_agg, cellsOf?_int, cellsOf?_bool, cellsOf?_imm, cellsOf?_ref, cellsOf?_nils, faddr_iptr, faddr_ptr, List.drop_succ_cons, List.drop_zero, List.take_succ_cons, List.take_zero, load1_iptr, loadN_iptr, List.length_cons, List.length_nil, Nat.le_refl, if_true, List.getElem?_cons_zero, List.getElem?_cons_succ, List.getD_cons_zero, List.getD_cons_succ, extrF_tup, binF_add, binF_sub, binF_mul, binF_eql, binF_neq, binF_lss, binF_leq, binF_gtr, binF_geq, true_and, hte, conv53 (show (0 : Int) ≤ gv ts i ∧ (gv ts i : Int) < 256 by omega)]
    rw [show (4 : Int) = ((4 : Nat) : Int) by rfl, hrm3]
    simp only [letO_some, cellsOf?_agg, cellsOf?_int, cellsOf?_bool, cellsOf?_imm, cellsOf?_ref, cellsOf?_nils, faddr_iptr, faddr_ptr, List.drop_succ_cons, List.drop_zero, List.take_succ_cons, List.take_zero, load1_iptr, loadN_iptr, List.length_cons, List.length_nil, Nat.le_refl, if_true, List.getElem?_cons_zero, List.getElem?_cons_succ, List.getD_cons_zero, List.getD_cons_succ, extrF_tup, binF_add, binF_sub, binF_mul, binF_eql, binF_neq, binF_lss, binF_leq, binF_gtr, binF_geq, true_and, hadx]
    rw [wrap_i64 (n := adX ts i) (by omega) (by omega)]
    have hne : up (pick g i) ≠ [] := by
      intro h
      have := congrArg List.length h
      rw [up_length, hpl.1] at this
      simp at this; omega
    refine c59p (Reads.sl _ _) hne (by rw [up_length, hpl.1]; omega) ⟨Heap.le_refl _, ?_⟩
    simp only [b49 (show cellsOf? (sl (up (pick g i))) = some [sl (up (pick g i))] from rfl) cellsOf?_int, letO_some, cellsOf?_agg, cellsOf?_int, cellsOf?_bool, cellsOf?_imm, cellsOf?_ref, cellsOf?_nils, faddr_iptr, faddr_ptr, List.drop_succ_cons, List.drop_zero, List.take_succ_cons, List.take_zero, load1_iptr, loadN_iptr, List.length_cons, List.length_nil, Nat.le_refl, if_true, List.getElem?_cons_zero, List.getElem?_cons_succ, List.getD_cons_zero, List.getD_cons_succ, extrF_tup, binF_add, binF_sub, binF_mul, binF_eql, binF_neq, binF_lss, binF_leq, binF_gtr, binF_geq, true_and]
    refine alloc_store_le (cs := [sl (up (pick g i)), .int .i64 (adX ts i)]) (Heap.le_refl _) rfl rfl rfl rfl fun b15 hb15 => ?_
    have hPx := PT.rebase (c := [sl (up (pick g i)), .int .i64 (adX ts i)]) hP (Heap.le_refl _) hP.le hP.out (fun _ _ h _ => h) hb15
    have hb15B := none_of_le hP.le hb15
    have hb15x := none_of_le hgr.le hb15B
    have hgr2 := alloc_growT (cs := [sl (up (pick g i)), .int .i64 (adX ts i)]) hgr hb15B
    have hlx2 := Heap.le_trans hlx (Heap.le_new (c := [sl (up (pick g i)), .int .i64 (adX ts i)]) hb15x)
    have h15 : (Hx.put b15 [sl (up (pick g i)), .int .i64 (adX ts i)]) b15 = some [sl (up (pick g i)), .int .i64 (adX ts i)] := Heap.put_same
    have h15' : (H2.put b15 [sl (up (pick g i)), .int .i64 (adX ts i)]) b15 = some [sl (up (pick g i)), .int .i64 (adX ts i)] := Heap.put_same
    generalize H2.put b15 [sl (up (pick g i)), .int .i64 (adX ts i)] = H3 at *
    generalize B.put b15 [sl (up (pick g i)), .int .i64 (adX ts i)] = B3 at *
    generalize Hx.put b15 [sl (up (pick g i)), .int .i64 (adX ts i)] = Hx3 at *
    have f0 : faddr 0 (.ptr b15 0) = some (.ptr b15 0) := rfl
    have f1 : faddr 1 (.ptr b15 0) = some (.ptr b15 1) := rfl
    have lN : loadN 2 (.ptr b15 0) H3 = some (.agg [sl (up (pick g i)), .int .i64 (adX ts i)]) := by
      simp [loadN, cellsAt?, h15']
    obtain ⟨Hl, hgl, hHl, hol, hrl⟩ := grow_under hX hgr2 hPx
    simp only [lN, l42, letO_some, cellsOf?_agg, cellsOf?_int, cellsOf?_bool, cellsOf?_imm, cellsOf?_ref, cellsOf?_nils, faddr_iptr, faddr_ptr, List.drop_succ_cons, List.drop_zero, List.take_succ_cons, List.take_zero, load1_iptr, loadN_iptr, List.length_cons, List.length_nil, Nat.le_refl, if_true, List.getElem?_cons_zero, List.getElem?_cons_succ, List.getD_cons_zero, List.getD_cons_succ, extrF_tup, binF_add, binF_sub, binF_mul, binF_eql, binF_neq, binF_lss, binF_leq, binF_gtr, binF_geq, true_and]
    refine appendA_growR hgl (m := 1) (new := [sl (up (pick g i)), .int .i64 (adX ts i)]) (by simp [srcOf]) rfl rfl (by omega) (by omega) (by omega) fun v' H7 hg7 ho7 => ?_
    obtain ⟨b7, hb7, rfl, rfl⟩ := hg7.own ho7
    have hcs : (adS g ts i).flatMap shC ++ [sl (up (pick g i)), .int .i64 (adX ts i)] = (adS g ts (i + 1)).flatMap shC := by rw [adS_succ]; simp [shC]
    rw [hcs]
    have hP7 := PT.rebase (c := (adS g ts (i + 1)).flatMap shC) hPx hgr2.le hHl hol hrl hb7
    have hb7x := none_of_le hHl hb7
    have hg8 : Grow 2 Hx3 (Hx3.put b7 ((adS g ts (i + 1)).flatMap shC)) (.ref 2 b7 0 (i + 1) none) (i + 1) ((adS g ts (i + 1)).flatMap shC) :=
      Grow.ref hb7x (by rw [rows_len shC_len]; simp)
    have h15b := (Heap.le_new (c := (adS g ts (i + 1)).flatMap shC) hb7x) _ _ h15
    generalize Hl.put b7 ((adS g ts (i + 1)).flatMap shC) = H8 at *
    generalize Hx3.put b7 ((adS g ts (i + 1)).flatMap shC) = B8 at *
    have l0 : ∀ {H'}, B8.le H' → load1 (.ptr b15 0) H' = some (sl (up (pick g i))) := fun h => load1_at (h _ _ h15b) rfl
    have l1 : ∀ {H'}, B8.le H' → load1 (.ptr b15 1) H' = some (.int .i64 (adX ts i)) := fun h => load1_at (h _ _ h15b) rfl
    have hm := adM_bd ts i
    have hsq := adT_sq g ts i
    have hlenp : lenA (sl (up (pick g i))) = some (.int .i64 (gsz g : Nat)) := by rw [(Reads.sl Heap.none _).len, up_length, hpl.1]
    simp only [letO_some, cellsOf?_agg, cellsOf?_int, cellsOf?_bool, cellsOf?_imm, cellsOf?_ref, cellsOf?_nils, faddr_iptr, faddr_ptr, List.drop_succ_cons, List.drop_zero, List.take_succ_cons, List.take_zero, load1_iptr, loadN_iptr, List.length_cons, List.length_nil, Nat.le_refl, if_true, List.getElem?_cons_zero, List.getElem?_cons_succ, List.getD_cons_zero, List.getD_cons_succ, extrF_tup, binF_add, binF_sub, binF_mul, binF_eql, binF_neq, binF_lss, binF_leq, binF_gtr, binF_geq, true_and, f0, f1, l0 hP7.le, l1 hP7.le, hlenp]
    rw [wrap_i64 (n := adM ts i + adX ts i) (by omega) (by omega)]
    have hfk := hsq.fit hpl
    refine ⟨fun L H' => ∃ (r : Nat) (m' : Int), eqt L [.int .i64 m', .int .i64 r] ∧ r ≤ gsz g ∧ PT B8 H' bo cells (takeK (adT g ts i) (up (pick g i)) (-adX ts i) r) ∧ Mx (gsz g) (takeK (adT g ts i) (up (pick g i)) (-adX ts i) r) m', fun L _ => (gsz g - iv L 1).toNat,
      ⟨0, m, rfl, by omega, by rw [takeK_zero]; exact hP7, by rw [takeK_zero]; exact hM⟩, ?_⟩
    rintro L H4 ⟨r, m', rfl, hr, hPj, hMj⟩
    try simp only [letO_some, cellsOf?_agg, cellsOf?_int, cellsOf?_bool, cellsOf?_imm, cellsOf?_ref, cellsOf?_nils, faddr_iptr, faddr_ptr, List.drop_succ_cons, List.drop_zero, List.take_succ_cons, List.take_zero, load1_iptr, loadN_iptr, List.length_cons, List.length_nil, Nat.le_refl, if_true, List.getElem?_cons_zero, List.getElem?_cons_succ, List.getD_cons_zero, List.getD_cons_succ, extrF_tup, binF_add, binF_sub, binF_mul, binF_eql, binF_neq, binF_lss, binF_leq, binF_gtr, binF_geq, true_and]
    refine condA_t (fun hltj => ?_) (fun hgej => ?_)
    · have b2 : r < gsz g := by omega
      have hjl : r < (adT g ts i).length := by rw [hsq.len]; omega
      refine (Reads.sl H4 (up (pick g i))).get (Heap.le_refl _) (by omega) (by rw [up_length, hpl.1]; omega) ?_
      rw [Int.toNat_natCast, up_getD]
      have hfj := hfk.2 r (by rw [up_length, hpl.1]; exact b2)
      rw [up_getN] at hfj
      have hpc : (pick g i).getD r 0 < gsz g := hpl.2 _ (getD_mem (by rw [hpl.1]; exact b2))
      have hrow : (takeK (adT g ts i) (up (pick g i)) (-adX ts i) r).getD r [] = row (adT g ts i) r := by rw [takeK_get hjl, if_neg (by omega)]
      obtain ⟨w, q, q1, q2, q3, q4, q5⟩ := PT.cell none hPj (r := r) (c := (pick g i).getD r 0) (by simpa using hjl) (by rw [hrow]; exact hfj.2)
      rw [takeK_length, hsq.len] at q1
      rw [hrow] at q4 q5
      rw [show (row (adT g ts i) r).getD ((pick g i).getD r 0) 0 = cell (adT g ts i) r ((pick g i).getD r 0) from rfl] at q4
      have hcb := adT_bd g ts i r ((pick g i).getD r 0)
      have hckk : cell (takeK (adT g ts i) (up (pick g i)) (-adX ts i) r) r ((pick g i).getD r 0) = cell (adT g ts i) r ((pick g i).getD r 0) := by
        unfold cell
        rw [show row (takeK (adT g ts i) (up (pick g i)) (-adX ts i) r) r = row (adT g ts i) r from hrow]
      have hsqk : Sq (gsz g) (takeK (adT g ts i) (up (pick g i)) (-adX ts i) r) := ⟨by rw [takeK_length, hsq.len], fun r' hr' => by
        rw [show row (takeK (adT g ts i) (up (pick g i)) (-adX ts i) r) r' = (takeK (adT g ts i) (up (pick g i)) (-adX ts i) r).getD r' [] from rfl, takeK_get (by rw [hsq.len]; exact hr')]
        split
        · rw [List.length_set]; exact hsq.rowl r' hr'
        · exact hsq.rowl r' hr'⟩
      have hMs := hMj.step (r := r) (c := (pick g i).getD r 0) (y := cell (adT g ts i) r ((pick g i).getD r 0) + adX ts i) hsqk b2 hpc (by rw [hckk]; omega)
      have hst := takeK_step (t := adT g ts i) (p := up (pick g i)) (x := -adX ts i) (i := r) hjl
      rw [up_getN, show cell (adT g ts i) r ((pick g i).getD r 0) - -adX ts i = cell (adT g ts i) r ((pick g i).getD r 0) + adX ts i by omega] at hst
      rw [show row (takeK (adT g ts i) (up (pick g i)) (-adX ts i) r) r = row (adT g ts i) r from hrow, hst] at hMs
      simp only [q1, q2, q3, q4, letO_some, cellsOf?_agg, cellsOf?_int, cellsOf?_bool, cellsOf?_imm, cellsOf?_ref, cellsOf?_nils, faddr_iptr, faddr_ptr, List.drop_succ_cons, List.drop_zero, List.take_succ_cons, List.take_zero, load1_iptr, loadN_iptr, List.length_cons, List.length_nil, Nat.le_refl, if_true, List.getElem?_cons_zero, List.getElem?_cons_succ, List.getD_cons_zero, List.getD_cons_succ, extrF_tup, binF_add, binF_sub, binF_mul, binF_eql, binF_neq, binF_lss, binF_leq, binF_gtr, binF_geq, true_and, f1, l1 hPj.le]
      rw [wrap_i64 (n := cell (adT g ts i) r ((pick g i).getD r 0) + adX ts i) (by omega) (by omega)]
      refine q5 _ _ fun H5 hP5 => ?_
      rw [hst] at hP5
      have hrow5 : (takeK (adT g ts i) (up (pick g i)) (-adX ts i) (r + 1)).getD r [] = (row (adT g ts i) r).set ((pick g i).getD r 0) (cell (adT g ts i) r ((pick g i).getD r 0) + adX ts i) := by
        rw [takeK_get hjl, if_pos (by omega), up_getN, show cell (adT g ts i) r ((pick g i).getD r 0) - -adX ts i = cell (adT g ts i) r ((pick g i).getD r 0) + adX ts i by omega]
      obtain ⟨w2, q', z1, z2, z3, z4, _⟩ := PT.cell none hP5 (r := r) (c := (pick g i).getD r 0) (by simpa using hjl) (by rw [hrow5, List.length_set]; exact hfj.2)
      rw [takeK_length, hsq.len] at z1
      rw [hrow5, List.getD_eq_getElem?_getD, List.getElem?_set_self (by exact hfj.2)] at z4
      simp only [Option.getD_some] at z4
      have hmax : max2F (.int .i64 m') (.int .i64 (cell (adT g ts i) r ((pick g i).getD r 0) + adX ts i)) = some (.int .i64 (if cell (adT g ts i) r ((pick g i).getD r 0) + adX ts i > m' then cell (adT g ts i) r ((pick g i).getD r 0) + adX ts i else m')) := rfl
      simp only [z1, z2, z3, z4, letO_some, cellsOf?_agg, cellsOf?_int, cellsOf?_bool, cellsOf?_imm, cellsOf?_ref, cellsOf?_nils, faddr_iptr, faddr_ptr, List.drop_succ_cons, List.drop_zero, List.take_succ_cons, List.take_zero, load1_iptr, loadN_iptr, List.length_cons, List.length_nil, Nat.le_refl, if_true, List.getElem?_cons_zero, List.getElem?_cons_succ, List.getD_cons_zero, List.getD_cons_succ, extrF_tup, binF_add, binF_sub, binF_mul, binF_eql, binF_neq, binF_lss, binF_leq, binF_gtr, binF_geq, true_and, hmax]
      rw [wrap_i64 (by omega) (by omega)]
      exact ⟨⟨r + 1, _, rfl, by omega, hP5, hMs⟩, by simp <;> omega⟩
    have hre : r = gsz g := by omega
    subst hre
    have e4 : takeK (adT g ts i) (up (pick g i)) (-adX ts i) (gsz g) = adT g ts (i + 1) := by rw [adT_succ, takeT, up_length, hpl.1]
    rw [e4] at hPj hMj
    rw [wrap_i64 (by omega) (by omega), ← adM_succ]
    refine ⟨⟨i + 1, _, m', Hx3, B8, rfl, by omega, hlx2, hg8, hPj, .inr trivial, hMj⟩, ?_⟩
    show ((k : Int) - ((i : Int) + 1)).toNat < ((k : Int) - (i : Int)).toNat
    omega
  have hie : i = k := by omega
  subst hie
  have hRX := hgr.readsC.le hP.le
  have hSle : (adS g ts i).length = i := adS_length g ts i
  have hRS : ∀ {Hz}, H2.le Hz → RS Hz X (shU (adS g ts i)) := fun {Hz} hz => by
    refine ⟨(adS g ts i).flatMap shC, by rw [show (shU (adS g ts i)).length = i by simp [shU]]; exact hRX.le hz, fun j hj => ?_⟩
    have hj2 : j < (adS g ts i).length := by simpa [shU] using hj
    have hx : (adS g ts i)[j]? = some (adS g ts i)[j] := by simp [hj2]
    have e : (shU (adS g ts i)).getD j ([], 0) = (up (adS g ts i)[j].1, (adS g ts i)[j].2) := by rw [shU, List.getD_eq_getElem?_getD, List.getElem?_map, hx]; rfl
    rw [e]
    exact ⟨sl (up (adS g ts i)[j].1), by rw [rows_get shC_len hx]; rfl, Reads.sl _ _⟩
  have hle2 := Heap.le_trans hlx (Heap.le_trans hgr.le hP.le)
  have hpll : ∀ s ∈ shU (adS g ts i), s.1.length < 2 ^ 63 := fun s hs => by
    obtain ⟨s0, hs0, rfl⟩ := List.mem_map.1 hs
    obtain ⟨j, _, rfl⟩ := List.mem_map.1 hs0
    simp only [up_length, (pick_plan g j).1]; omega
  have hsl2 : (shU (adS g ts i)).length = i := by simp [shU]
  try simp only [letO_some, cellsOf?_agg, cellsOf?_int, cellsOf?_bool, cellsOf?_imm, cellsOf?_ref, cellsOf?_nils, faddr_iptr, faddr_ptr, List.drop_succ_cons, List.drop_zero, List.take_succ_cons, List.take_zero, load1_iptr, loadN_iptr, List.length_cons, List.length_nil, Nat.le_refl, if_true, List.getElem?_cons_zero, List.getElem?_cons_succ, List.getD_cons_zero, List.getD_cons_succ, extrF_tup, binF_add, binF_sub, binF_mul, binF_eql, binF_neq, binF_lss, binF_leq, binF_gtr, binF_geq, true_and]
  refine c42 (hRS (Heap.le_refl _)) (by rw [hsl2]; omega) hpll ?_
  rw [ad_sum hk8 hM]
  have hck := ad_chk hb (adT_sq g ts i) (fun r c => (adT_bd g ts i r c).1) hM
  have fin : ∀ {Hz}, H2.le Hz → endK (.bool true) Hz K := fun {Hz} hz => endK_pub (Pub.drop (Heap.le_trans hle2 hz)) (endK_ret hk)
  by_cases hm9 : 9 < m
  · have e1 : decide (((9 : Nat) : Int) < m) = true := decide_eq_true hm9
    have hls : lenA (tl []) = some (.int .i64 0) := rfl
    simp only [if_pos hm9, letO_some, cellsOf?_agg, cellsOf?_int, cellsOf?_bool, cellsOf?_imm, cellsOf?_ref, cellsOf?_nils, faddr_iptr, faddr_ptr, List.drop_succ_cons, List.drop_zero, List.take_succ_cons, List.take_zero, load1_iptr, loadN_iptr, List.length_cons, List.length_nil, Nat.le_refl, if_true, List.getElem?_cons_zero, List.getElem?_cons_succ, List.getD_cons_zero, List.getD_cons_succ, extrF_tup, binF_add, binF_sub, binF_mul, binF_eql, binF_neq, binF_lss, binF_leq, binF_gtr, binF_geq, true_and, e1, condA_tt, beq_self_eq_true, gval_bool, Int.reduceBNe, Int.reduceBEq, pickF_true, pickF_false, reduceIte, Bool.true_eq_false, Bool.false_eq_true, if_false, condA_tt, condA_ff, condG_tt, condG_ff, condG_tt', condG_ff', condG_undef, gval_undef, hls]
    refine exJ ?_
    refine c17 ?_
    try simp only [letO_some, cellsOf?_agg, cellsOf?_int, cellsOf?_bool, cellsOf?_imm, cellsOf?_ref, cellsOf?_nils, faddr_iptr, faddr_ptr, List.drop_succ_cons, List.drop_zero, List.take_succ_cons, List.take_zero, load1_iptr, loadN_iptr, List.length_cons, List.length_nil, Nat.le_refl, if_true, List.getElem?_cons_zero, List.getElem?_cons_succ, List.getD_cons_zero, List.getD_cons_succ, extrF_tup, binF_add, binF_sub, binF_mul, binF_eql, binF_neq, binF_lss, binF_leq, binF_gtr, binF_geq, true_and, gval_bool, Int.reduceBNe, Int.reduceBEq, pickF_true, pickF_false, reduceIte, Bool.true_eq_false, Bool.false_eq_true, if_false, condA_tt, condA_ff, condG_tt, condG_ff, condG_tt', condG_ff', condG_undef, gval_undef]
    exact fin (Heap.le_refl _)
  have hchk := hck.2 (by omega)
  have hsl : ∀ l ∈ adT g ts i, l.length < 2 ^ 63 := fun l hl => Nat.lt_of_le_of_lt (Nat.le_trans (Nat.le_of_eq ((chkT_ok hchk).2.2 l hl).1) (chkT_ok hchk).2.1) (by decide)
  have e1 : decide (((9 : Nat) : Int) < m) = false := decide_eq_false hm9
  have hRW := hP.rt none
  rw [(adT_sq g ts i).len] at hRW
  simp only [if_neg hm9, letO_some, cellsOf?_agg, cellsOf?_int, cellsOf?_bool, cellsOf?_imm, cellsOf?_ref, cellsOf?_nils, faddr_iptr, faddr_ptr, List.drop_succ_cons, List.drop_zero, List.take_succ_cons, List.take_zero, load1_iptr, loadN_iptr, List.length_cons, List.length_nil, Nat.le_refl, if_true, List.getElem?_cons_zero, List.getElem?_cons_succ, List.getD_cons_zero, List.getD_cons_succ, extrF_tup, binF_add, binF_sub, binF_mul, binF_eql, binF_neq, binF_lss, binF_leq, binF_gtr, binF_geq, true_and, e1, condA_ff, bne_self_eq_false, gval_bool, Int.reduceBNe, Int.reduceBEq, pickF_true, pickF_false, reduceIte, Bool.true_eq_false, Bool.false_eq_true, if_false, condA_tt, condA_ff, condG_tt, condG_ff, condG_tt', condG_ff', condG_undef, gval_undef]
  refine exJ ?_
  refine c29 (RT.tl _ _) hRW (by rw [(adT_sq g ts i).len]; omega) hsl ?_
  simp only [decide_true, not_v, Bool.not_true, letO_some, cellsOf?_agg, cellsOf?_int, cellsOf?_bool, cellsOf?_imm, cellsOf?_ref, cellsOf?_nils, faddr_iptr, faddr_ptr, List.drop_succ_cons, List.drop_zero, List.take_succ_cons, List.take_zero, load1_iptr, loadN_iptr, List.length_cons, List.length_nil, Nat.le_refl, if_true, List.getElem?_cons_zero, List.getElem?_cons_succ, List.getD_cons_zero, List.getD_cons_succ, extrF_tup, binF_add, binF_sub, binF_mul, binF_eql, binF_neq, binF_lss, binF_leq, binF_gtr, binF_geq, true_and, gval_bool, Int.reduceBNe, Int.reduceBEq, pickF_true, pickF_false, reduceIte, Bool.true_eq_false, Bool.false_eq_true, if_false, condA_tt, condA_ff, condG_tt, condG_ff, condG_tt', condG_ff', condG_undef, gval_undef]
  refine c18 (RT.tl _ _) (by rw [(adT_sq g ts i).len]; omega) hsl ?_
  rw [ad_even hchk]
  simp only [letO_some, cellsOf?_agg, cellsOf?_int, cellsOf?_bool, cellsOf?_imm, cellsOf?_ref, cellsOf?_nils, faddr_iptr, faddr_ptr, List.drop_succ_cons, List.drop_zero, List.take_succ_cons, List.take_zero, load1_iptr, loadN_iptr, List.length_cons, List.length_nil, Nat.le_refl, if_true, List.getElem?_cons_zero, List.getElem?_cons_succ, List.getD_cons_zero, List.getD_cons_succ, extrF_tup, binF_add, binF_sub, binF_mul, binF_eql, binF_neq, binF_lss, binF_leq, binF_gtr, binF_geq, true_and, gval_bool, Int.reduceBNe, Int.reduceBEq, pickF_true, pickF_false, reduceIte, Bool.true_eq_false, Bool.false_eq_true, if_false, condA_tt, condA_ff, condG_tt, condG_ff, condG_tt', condG_ff', condG_undef, gval_undef, bne_self_eq_false, hRX.len]
  by_cases hi0 : i = 0
  · have e2 : ((i : Int) == 0) = true := by rw [hi0]; rfl
    simp only [e2, condA_tt]
    refine c17 ?_
    try simp only [letO_some, cellsOf?_agg, cellsOf?_int, cellsOf?_bool, cellsOf?_imm, cellsOf?_ref, cellsOf?_nils, faddr_iptr, faddr_ptr, List.drop_succ_cons, List.drop_zero, List.take_succ_cons, List.take_zero, load1_iptr, loadN_iptr, List.length_cons, List.length_nil, Nat.le_refl, if_true, List.getElem?_cons_zero, List.getElem?_cons_succ, List.getD_cons_zero, List.getD_cons_succ, extrF_tup, binF_add, binF_sub, binF_mul, binF_eql, binF_neq, binF_lss, binF_leq, binF_gtr, binF_geq, true_and, gval_bool, Int.reduceBNe, Int.reduceBEq, pickF_true, pickF_false, reduceIte, Bool.true_eq_false, Bool.false_eq_true, if_false, condA_tt, condA_ff, condG_tt, condG_ff, condG_tt', condG_ff', condG_undef, gval_undef]
    exact fin (Heap.le_refl _)
  have e2 : ((i : Int) == 0) = false := by rw [beq_eq_false_iff_ne]; omega
  have hrm4 := rem_nat (k := .i64) (t := 3) (a := bad) (b := i) hi0
  have hjl := Nat.mod_lt bad (show i > 0 by omega)
  simp only [e2, condA_ff, conv53 (show (0 : Int) ≤ bad ∧ (bad : Int) < 256 by omega), hrm4, letO_some, cellsOf?_agg, cellsOf?_int, cellsOf?_bool, cellsOf?_imm, cellsOf?_ref, cellsOf?_nils, faddr_iptr, faddr_ptr, List.drop_succ_cons, List.drop_zero, List.take_succ_cons, List.take_zero, load1_iptr, loadN_iptr, List.length_cons, List.length_nil, Nat.le_refl, if_true, List.getElem?_cons_zero, List.getElem?_cons_succ, List.getD_cons_zero, List.getD_cons_succ, extrF_tup, binF_add, binF_sub, binF_mul, binF_eql, binF_neq, binF_lss, binF_leq, binF_gtr, binF_geq, true_and, hRX.len]
  generalize bad % i = j at *
  have hsc : ((adS g ts i).flatMap shC).all isScalar = true := by
    rw [List.all_eq_true]
    intro x hx
    obtain ⟨s, _, hs⟩ := List.mem_flatMap.1 hx
    have : x = sl (up s.1) ∨ x = .int .i64 s.2 := by simpa [shC] using hs
    rcases this with rfl | rfl <;> rfl
  refine c60 hRX hsc ⟨by omega, by omega⟩ fun bw hbw => ?_
  have hcw : (H2.put bw ((adS g ts i).flatMap shC)) bw = some ((adS g ts i).flatMap shC) := Heap.put_same
  have hl3 := Heap.le_new (c := (adS g ts i).flatMap shC) hbw
  generalize H2.put bw ((adS g ts i).flatMap shC) = H3 at *
  rw [sh_shV] at hcw
  obtain ⟨V, hV⟩ : ∃ V : List (AV × Int), V = (adS g ts i).map fun q => (sl (up q.1), q.2) := ⟨_, rfl⟩
  have hVl : V.length = i := by rw [hV]; simp
  rw [← hV] at hcw
  have hVc : (V.flatMap shV).length = i * 2 := by rw [rows_len shV_len, hVl]
  have hq := rem_nat (k := .u8) (t := 5) (a := bad / 8) (b := 4) (by omega)
  have hdj : ((j : Int) < (i : Int)) := by omega
  have hVg : ∀ q (h1 : q < V.length) (h2 : q < (shU (adS g ts i)).length) (Hz : Heap), V[q].2 = (shU (adS g ts i))[q].2 ∧ Reads Hz V[q].1 (shU (adS g ts i))[q].1 := fun q h1 h2 Hz => by
    subst hV
    simp only [shU, List.getElem_map]
    exact ⟨trivial, Reads.sl _ _⟩
  have hplj := planE_plan ⟨gsz g, by omega⟩ (pick g j) (pick_mem g j)
  have hSj : (shU (adS g ts i))[j]'(by rw [hsl2]; exact hjl) = (up (pick g j), adX ts j) := by simp [shU, adS]
  have hVj : V[j]'(by omega) = (sl (up (pick g j)), adX ts j) := by subst hV; simp [adS]
  have hidx : idx 2 (.ref 2 bw 0 i none) (.int .i64 (j : Int)) = some (.ptr bw (0 + j * 2)) := idx_ref hjl
  have hRSs : ∀ {Hz : Heap} {a : AV} {l : List Int} {y : Int}, Hz bw = some ((V.set j (a, y)).flatMap shV) → Reads Hz a l → RS Hz (.ref 2 bw 0 i none) ((shU (adS g ts i)).set j (l, y)) := fun {Hz a l y} hz ha => by
    have := RS_block (ss := (shU (adS g ts i)).set j (l, y)) hz (by simp [hVl, hsl2]) fun q h1 h2 => by
      rw [List.length_set] at h1 h2
      rw [List.getElem_set, List.getElem_set]
      split
      · exact ⟨rfl, ha⟩
      · exact hVg q h1 h2 Hz
    rw [List.length_set, hsl2] at this
    exact this
  try simp only [letO_some, cellsOf?_agg, cellsOf?_int, cellsOf?_bool, cellsOf?_imm, cellsOf?_ref, cellsOf?_nils, faddr_iptr, faddr_ptr, List.drop_succ_cons, List.drop_zero, List.take_succ_cons, List.take_zero, load1_iptr, loadN_iptr, List.length_cons, List.length_nil, Nat.le_refl, if_true, List.getElem?_cons_zero, List.getElem?_cons_succ, List.getD_cons_zero, List.getD_cons_succ, extrF_tup, binF_add, binF_sub, binF_mul, binF_eql, binF_neq, binF_lss, binF_leq, binF_gtr, binF_geq, true_and]
  refine ⟨fun L H' => ∃ (s : List Int × Int) (e : Int), eqt L [.int .i64 e] ∧ H2.le H' ∧ RS H' (.ref 2 bw 0 i none) ((shU (adS g ts i)).set j s) ∧ s.1.length < 2 ^ 63 ∧ (sumE (gsz g) ((shU (adS g ts i)).set j s)).2 = e, ?_, ?_⟩
  · have hlp : ∀ {Hz : Heap} {c : List AV}, H2.le Hz → H2.le (Hz.put bw c) := fun {Hz c} hz z cz hcz => by
      have : z ≠ bw := by rintro rfl; rw [hbw] at hcz; cases hcz
      rw [Heap.put_ne this]; exact hz _ _ hcz
    have e8 : binF Tryd.prog .quo 5 (.int .u8 (bad : Int)) (.int .u8 8) = some (.int .u8 ((bad / 8 : Nat) : Int)) := quo_u8 (b := 8) (by decide) hbad
    have hq' : binF Tryd.prog .rem 5 (.int .u8 ((bad / 8 : Nat) : Int)) (.int .u8 4) = some (.int .u8 ((bad / 8 % 4 : Nat) : Int)) := hq
    simp only [e8, hq', letO_some, cellsOf?_agg, cellsOf?_int, cellsOf?_bool, cellsOf?_imm, cellsOf?_ref, cellsOf?_nils, faddr_iptr, faddr_ptr, List.drop_succ_cons, List.drop_zero, List.take_succ_cons, List.take_zero, load1_iptr, loadN_iptr, List.length_cons, List.length_nil, Nat.le_refl, if_true, List.getElem?_cons_zero, List.getElem?_cons_succ, List.getD_cons_zero, List.getD_cons_succ, extrF_tup, binF_add, binF_sub, binF_mul, binF_eql, binF_neq, binF_lss, binF_leq, binF_gtr, binF_geq, true_and]
    have h4 : bad / 8 % 4 = 0 ∨ bad / 8 % 4 = 1 ∨ bad / 8 % 4 = 2 ∨ bad / 8 % 4 = 3 := by omega
    generalize bad / 8 % 4 = q at *
    have f1 : faddr 1 (.ptr bw (0 + j * 2)) = some (.ptr bw (0 + j * 2 + 1)) := rfl
    have f0 : faddr 0 (.ptr bw (0 + j * 2)) = some (.ptr bw (0 + j * 2)) := rfl
    have hjV : j < V.length := by omega
    have hld : ∀ {Hz : Heap}, H3.le Hz → load1 (.ptr bw (0 + j * 2)) Hz = some (sl (up (pick g j))) := fun {Hz} hz => by
      refine load1_at (hz _ _ hcw) ?_
      rw [Nat.zero_add, show j * 2 = j * 2 + 0 by omega, rows_at shV_len (x := V[j]) (by simp [hjV]) (Nat.zero_lt_succ 1), hVj]; rfl
    have hne : up (pick g j) ≠ [] := by
      intro h
      have := congrArg List.length h
      rw [up_length, (pick_plan g j).1] at this
      simp at this; omega
    have hpn : (up (pick g j)).length = gsz g := by rw [up_length, (pick_plan g j).1]
    have times : ∀ y : Int, (y < 1 ∨ 36 < y) → storeA 1 (.ptr bw (0 + j * 2 + 1)) (.int .i64 y) (fun H' => ∃ (s : List Int × Int) (e : Int), eqt [AV.int .i64 1] [.int .i64 e] ∧ H2.le H' ∧ RS H' (.ref 2 bw 0 i none) ((shU (adS g ts i)).set j s) ∧ s.1.length < 2 ^ 63 ∧ (sumE (gsz g) ((shU (adS g ts i)).set j s)).2 = e) H3 := fun y hy => by
      refine storeA_of (cs := [.int .i64 y]) hcw rfl rfl rfl (by rw [List.length_singleton, hVc]; omega) ?_
      rw [Nat.zero_add, splice_one (by rw [hVc]; omega), shV_set1 hjV, hVj]
      exact ⟨(up (pick g j), y), 1, rfl, hlp hl3, hRSs Heap.put_same (Reads.sl _ _), by simp only [hpn]; omega, ad_wrong hk8 hjl (wrong_times hplj hy) (by decide)⟩
    rcases h4 with rfl | rfl | rfl | rfl
    · have q0 : (((0 : Nat) : Int) == 0) = true := rfl
      simp only [q0, condA_tt, hidx, letO_some, f1]
      exact times 0 (.inl (by omega))
    · have q0 : (((1 : Nat) : Int) == 0) = false := rfl
      have q1 : (((1 : Nat) : Int) == 1) = true := rfl
      simp only [q0, q1, condA_tt, condA_ff, hidx, letO_some, f1]
      exact times 37 (.inr (by omega))
    · have q0 : (((2 : Nat) : Int) == 0) = false := rfl
      have q1 : (((2 : Nat) : Int) == 1) = false := rfl
      have q2 : (((2 : Nat) : Int) == 2) = true := rfl
      simp only [q0, q1, q2, condA_tt, condA_ff, hidx, letO_some, f0, hld (Heap.le_refl _)]
      refine c59 (Reads.sl _ _) hne (by omega) fun b hb' => ?_
      simp only [l23 cellsOf?_int, letO_some, hpn]
      refine appendA_oneR (Grow.ref hb' (by rw [ints_length, hpn]; omega)) (by omega) fun v' H6 hg6 ho6 => ?_
      obtain ⟨b6, hb6, rfl, rfl⟩ := hg6.own ho6
      have hle6 := Heap.le_new (c := ints (up (pick g j) ++ [0])) hb6
      have hbe : (H3.put b6 (ints (up (pick g j) ++ [0]))) b6 = some (ints (up (pick g j) ++ [0])) := Heap.put_same
      have hne6 : b6 ≠ bw := by rintro rfl; rw [hcw] at hb6; cases hb6
      generalize H3.put b6 (ints (up (pick g j) ++ [0])) = H6 at *
      refine storeA_of (cs := [.ref 1 b6 0 (gsz g + 1) none]) (hle6 _ _ hcw) rfl rfl rfl (by rw [List.length_singleton, hVc]; omega) ?_
      rw [Nat.zero_add, splice_one (by rw [hVc]; omega), shV_set0 hjV, hVj]
      have hl1 : (up (pick g j) ++ [0]).length = gsz g + 1 := by rw [List.length_append, hpn]; rfl
      refine ⟨(up (pick g j) ++ [0], adX ts j), 5, rfl, hlp (Heap.le_trans hl3 hle6), hRSs Heap.put_same ?_, by simp only [hl1]; omega, ad_wrong hk8 hjl (wrong_plan ?_ (by decide)) (by decide)⟩
      · exact ⟨rfl, hl1.symm, _, (by rw [Heap.put_ne hne6]; exact hbe), by rw [ints_length, hl1]; omega, by rw [List.drop_zero, List.take_of_length_le (by rw [ints_length, hl1]; omega)]⟩
      · unfold planE
        rw [if_pos (by rw [hl1]; omega)]
    · have q0 : (((3 : Nat) : Int) == 0) = false := rfl
      have q1 : (((3 : Nat) : Int) == 1) = false := rfl
      have q2 : (((3 : Nat) : Int) == 2) = false := rfl
      have q3 : (((3 : Nat) : Int) == 3) = true := rfl
      simp only [q0, q1, q2, q3, condA_tt, condA_ff, hidx, letO_some, f0, hld (Heap.le_refl _)]
      refine c59 (Reads.sl _ _) hne (by omega) fun b6 hb6 => ?_
      have hle6 := Heap.le_new (c := ints (up (pick g j))) hb6
      have hbe : (H3.put b6 (ints (up (pick g j)))) b6 = some (ints (up (pick g j))) := Heap.put_same
      have hne6 : b6 ≠ bw := by rintro rfl; rw [hcw] at hb6; cases hb6
      have hb62 := none_of_le hl3 hb6
      generalize H3.put b6 (ints (up (pick g j))) = H6 at *
      simp only [hpn, letO_some]
      refine storeA_of (cs := [.ref 1 b6 0 (gsz g) none]) (hle6 _ _ hcw) rfl rfl rfl (by rw [List.length_singleton, hVc]; omega) ?_
      rw [Nat.zero_add, splice_one (by rw [hVc]; omega), shV_set0 hjV, hVj]
      have hc7 : (H6.put bw ((V.set j (.ref 1 b6 0 (gsz g) none, adX ts j)).flatMap shV)) bw = some ((V.set j (.ref 1 b6 0 (gsz g) none, adX ts j)).flatMap shV) := Heap.put_same
      have hb7 : (H6.put bw ((V.set j (.ref 1 b6 0 (gsz g) none, adX ts j)).flatMap shV)) b6 = some (ints (up (pick g j))) := by rw [Heap.put_ne hne6]; exact hbe
      have hl7 : H2.le (H6.put bw ((V.set j (.ref 1 b6 0 (gsz g) none, adX ts j)).flatMap shV)) := hlp (Heap.le_trans hl3 hle6)
      generalize H6.put bw ((V.set j (.ref 1 b6 0 (gsz g) none, adX ts j)).flatMap shV) = H7 at *
      have hld7 : load1 (.ptr bw (j * 2)) H7 = some (.ref 1 b6 0 (gsz g) none) := by
        refine load1_at hc7 ?_
        rw [show j * 2 = j * 2 + 0 by omega, rows_at shV_len (x := (.ref 1 b6 0 (gsz g) none, adX ts j)) (by simp [hjV]) (Nat.zero_lt_succ 1)]; rfl
      have hix : idx 1 (.ref 1 b6 0 (gsz g) none) (.int .i64 0) = some (.ptr b6 (0 + 0 * 1)) := idx_ref (i := 0) (by omega)
      have hfz : faddr 0 (.ptr bw (j * 2)) = some (.ptr bw (j * 2)) := rfl
      simp only [Nat.zero_add, hfz, hld7, hix, letO_some]
      refine storeA_of (cs := [.int .i64 (gsz g : Int)]) hb7 rfl rfl rfl (by rw [List.length_singleton, ints_length, hpn]; omega) ?_
      rw [Nat.zero_mul, splice_one (by rw [ints_length, hpn]; omega)]
      have hse : (ints (up (pick g j))).set 0 (.int .i64 (gsz g : Int)) = ints ((up (pick g j)).set 0 (gsz g : Int)) := by simp [ints, List.map_set]
      rw [hse]
      have hl1 : ((up (pick g j)).set 0 (gsz g : Int)).length = gsz g := by rw [List.length_set, hpn]
      refine ⟨((up (pick g j)).set 0 (gsz g : Int), adX ts j), 2, rfl, fun z cz hz => ?_, hRSs (a := .ref 1 b6 0 (gsz g) none) ?_ ?_, by simp only [hl1]; omega, ad_wrong hk8 hjl (wrong_plan (plan_out ⟨gsz g, by omega⟩ (by simp only; omega) _ (pick_mem g j)) (by decide)) (by decide)⟩
      · have : z ≠ b6 := by rintro rfl; rw [hb62] at hz; cases hz
        rw [Heap.put_ne this]; exact hl7 _ _ hz
      · rw [Heap.put_ne (Ne.symm hne6)]; exact hc7
      · exact ⟨rfl, hl1.symm, _, Heap.put_same, by rw [ints_length, hl1]; omega, by rw [List.drop_zero, List.take_of_length_le (by rw [ints_length, hl1]; omega)]⟩
  rintro L H5 ⟨s, e, rfl, hl5, hR5, hs5, he5⟩
  try simp only [letO_some, cellsOf?_agg, cellsOf?_int, cellsOf?_bool, cellsOf?_imm, cellsOf?_ref, cellsOf?_nils, faddr_iptr, faddr_ptr, List.drop_succ_cons, List.drop_zero, List.take_succ_cons, List.take_zero, load1_iptr, loadN_iptr, List.length_cons, List.length_nil, Nat.le_refl, if_true, List.getElem?_cons_zero, List.getElem?_cons_succ, List.getD_cons_zero, List.getD_cons_succ, extrF_tup, binF_add, binF_sub, binF_mul, binF_eql, binF_neq, binF_lss, binF_leq, binF_gtr, binF_geq, true_and]
  refine c42 hR5 (by rw [List.length_set, hsl2]; omega) (fun s' hs' => by
    rcases List.mem_or_eq_of_mem_set hs' with h | rfl
    · exact hpll _ h
    · exact hs5) ?_
  simp only [he5, letO_some, cellsOf?_agg, cellsOf?_int, cellsOf?_bool, cellsOf?_imm, cellsOf?_ref, cellsOf?_nils, faddr_iptr, faddr_ptr, List.drop_succ_cons, List.drop_zero, List.take_succ_cons, List.take_zero, load1_iptr, loadN_iptr, List.length_cons, List.length_nil, Nat.le_refl, if_true, List.getElem?_cons_zero, List.getElem?_cons_succ, List.getD_cons_zero, List.getD_cons_succ, extrF_tup, binF_add, binF_sub, binF_mul, binF_eql, binF_neq, binF_lss, binF_leq, binF_gtr, binF_geq, true_and, gval_bool, Int.reduceBNe, Int.reduceBEq, pickF_true, pickF_false, reduceIte, Bool.true_eq_false, Bool.false_eq_true, if_false, condA_tt, condA_ff, condG_tt, condG_ff, condG_tt', condG_ff', condG_undef, gval_undef, beq_self_eq_true]
  refine exJ ?_
  refine c17 ?_
  try simp only [letO_some, cellsOf?_agg, cellsOf?_int, cellsOf?_bool, cellsOf?_imm, cellsOf?_ref, cellsOf?_nils, faddr_iptr, faddr_ptr, List.drop_succ_cons, List.drop_zero, List.take_succ_cons, List.take_zero, load1_iptr, loadN_iptr, List.length_cons, List.length_nil, Nat.le_refl, if_true, List.getElem?_cons_zero, List.getElem?_cons_succ, List.getD_cons_zero, List.getD_cons_succ, extrF_tup, binF_add, binF_sub, binF_mul, binF_eql, binF_neq, binF_lss, binF_leq, binF_gtr, binF_geq, true_and, gval_bool, Int.reduceBNe, Int.reduceBEq, pickF_true, pickF_false, reduceIte, Bool.true_eq_false, Bool.false_eq_true, if_false, condA_tt, condA_ff, condG_tt, condG_ff, condG_tt', condG_ff', condG_undef, gval_undef]
  exact fin hl5
end Go.Proofs.YtbofkeoebnjjkaaDoor
namespace Go.Proofs.YtbofkeoebnjjkaaDoor.tableAdded
open Go.Av Tab
theorem law {g ts : List Nat} {bad : Nat} (h0 : g.length = 27) (h1 : ∀ x ∈ g, x < 256) (h2 : ts.length = 8) (h3 : ∀ x ∈ ts, x < 256) (h4 : bad < 256) : ACalls Tryd.prog 10 [.agg (g.map fun (x : Nat) => .int .u8 (x : Int)), .agg (ts.map fun (x : Nat) => .int .u8 (x : Int)), .int .u8 (bad : Int)] Heap.none fun r _ => r = .bool true :=
  c10 ⟨h0, h1⟩ h2 h3 h4 rfl
end Go.Proofs.YtbofkeoebnjjkaaDoor.tableAdded

/- From a walk to a tied row: what the listed variables hold. -/
set_option linter.unusedVariables false
namespace Go.Proofs.YtbofkeoebnjjkaaDoor
open Go.ChangeShapes Go.WideShapes Go.ChangeAt Go.RowKit Go.Av

theorem ownK : ownKnob Tryd.prog.godebug = none := by kernel_rfl
theorem laidOutK : laidOutB Tryd.prog = true := by kernel_rfl
theorem g64 : Tryd.prog.globalNamed "math/bits.deBruijn64tab" = some 1 := by kernel_rfl
theorem g64t : (Tryd.prog.globals[1]?).map (·.type) = some 123 := by kernel_rfl
theorem u123 : Tryd.prog.underlying 123 = some (.array 64 5) := by kernel_rfl
theorem u5 : Tryd.prog.underlying 5 = some (.int .u8) := by kernel_rfl
theorem k5 : Tryd.prog.cellsOf 5 = 1 := by kernel_rfl
theorem k123 : Tryd.prog.cellsOf 123 = 64 := by kernel_rfl
abbrev laidL : List (String × DataW Unit) := [("math/bits.deBruijn32tab", Rows.laid_math_bits_deBruijn32tab), ("math/bits.deBruijn64tab", Rows.laid_math_bits_deBruijn64tab)]
def vals64 : List Int := [0, 1, 56, 2, 57, 49, 28, 3, 61, 58, 42, 50, 38, 29, 17, 4, 62, 47, 59, 36, 45, 43, 51, 22, 53, 39, 33, 30, 24, 18, 12, 5, 63, 55, 48, 27, 60, 41, 37, 16, 46, 35, 44, 21, 52, 32, 23, 11, 54, 26, 40, 15, 34, 20, 31, 10, 25, 14, 19, 9, 13, 8, 7, 6]
theorem laid64 : (Rows.laid_math_bits_deBruijn64tab : DataW Unit) = .agg (vals64.map fun n => .lit (.int .u8 n)) := by rfl
theorem tz64_eq : tz64 = vals64.map (.int .u8) := by rfl
/-- WHAT THE CONDITION GIVES A WALK. -/
theorem glb_of_laid {W : World} (h : laidMetH Tryd.prog laidL W) : Glb Tryd.prog (E0 W) := by
  rw [MakeChecks.laidMetH_plain _ _ _ (by kernel_rfl)] at h
  obtain ⟨ps, h1, _⟩ := h
  obtain ⟨_, _, _, _, _, _, _, _, _, _, h2, _⟩ := h1
  obtain ⟨g, t, cs, fuel, p, q, e1, e2, e3, e4, _, _⟩ := h2
  obtain rfl : (1 : Nat) = g := Option.some.inj (g64.symm.trans e1)
  obtain rfl : 123 = t := Option.some.inj (g64t.symm.trans e2)
  intro g cells hg
  unfold globs at hg
  rw [g64] at hg
  split at hg
  · rename_i hh
    cases hh
    cases hg
    obtain ⟨xs, m, _, hx, hl, hxl, hel⟩ := DataW.trod_array u123 e4
    rw [k123] at hl
    have hcs : ∀ i, i < 64 → cs[i]? = some (.int .u8 (vals64.getD i 0)) := by
      intro i hi
      have h5 := hel i hi
      rw [k5, Nat.mul_one] at h5
      have hxi : xs[i]? = some xs[i] := by simp [hxl, hi]
      rw [hxi] at h5
      obtain ⟨n, hn, hx5, _⟩ := DataW.trod_int u5 h5
      have hval : n = vals64.getD i 0 := by
        have h6 : (xs.map (·.1))[i]? = some (DataW.lit (.int .u8 n)) := by
          rw [List.getElem?_map, hxi, hx5]; rfl
        have h7 : (xs.map (·.1)) = vals64.map fun n => DataW.lit (.int .u8 n) := by
          have := congrArg Prod.fst hx
          rw [laid64] at this
          injection this with this
          exact this.symm
        rw [h7, List.getElem?_map] at h6
        have h8 : vals64[i]? = some (vals64.getD i 0) := by
          have : i < vals64.length := hi
          rw [List.getD_eq_getElem?_getD, List.getElem?_eq_getElem this]; rfl
        rw [h8] at h6
        simp only [Option.map_some, Option.some.injEq, DataW.lit.injEq, Lit.int.injEq, true_and] at h6
        exact h6.symm
      have h9 : ((cs.toList.drop i).take 1)[0]? = some (.int .u8 n) := by rw [hn]; rfl
      rw [List.getElem?_take_of_lt (by omega), List.getElem?_drop, Nat.add_zero] at h9
      rw [← hval]
      simpa using h9
    -- the block
    have hblk : ∃ T fr, W.heap[1]? = some (.cells cs T fr) := by
      unfold World.var? at e3
      rw [g64] at e3
      simp only [Option.bind_some] at e3
      split at e3
      · rename_i c T fr hh
        cases e3
        exact ⟨T, fr, hh⟩
      · cases e3
    obtain ⟨T, fr, hblk⟩ := hblk
    refine Rep.iptr tz64 1 0 cs T fr (fun i => .int .u8 (vals64.getD i 0)) hblk (fun i hi => ?_) (fun i hi => ?_)
    · rw [Nat.zero_add]; exact hcs i hi
    · have h1 : i < vals64.length := hi
      have : tz64[i] = .int .u8 (vals64.getD i 0) := by
        have e : tz64[i]? = some (.int .u8 (vals64.getD i 0)) := by
          rw [tz64_eq, List.getElem?_map, List.getD_eq_getElem?_getD, List.getElem?_eq_getElem h1]; rfl
        rw [List.getElem?_eq_getElem hi] at e
        exact Option.some.inj e
      exact Eq.mpr (congrArg (fun z => Rep (E0 W) z (Value.int .u8 (vals64.getD i 0))) this) (Rep.int _ _)
  · cases hg
end Go.Proofs.YtbofkeoebnjjkaaDoor

/- A world that meets the condition; the row's builder. -/
set_option linter.unusedVariables false
namespace Go.Proofs.YtbofkeoebnjjkaaDoor
open Go.ChangeShapes Go.WideShapes Go.ChangeAt Go.RowKit Go.Av

def vals32 : List Int := [0, 1, 28, 2, 29, 14, 24, 3, 30, 22, 20, 15, 25, 17, 4, 8, 31, 27, 13, 23, 21, 19, 16, 7, 26, 12, 18, 6, 11, 5, 10, 9]
/-- A world that meets the condition: the settled one, the two tables laid. -/
noncomputable def laidWorld (os : Os) (blocks : Array Obj) : World :=
  let w0 := World.holding Tryd.prog os ⟨blocks, #[], []⟩
  { w0 with heap := (w0.heap.modify 0 fun
      | .cells _ t frozen => .cells (vals32.map (Value.int .u8)).toArray t frozen
      | o => o).modify 1 fun
      | .cells _ t frozen => .cells (vals64.map (Value.int .u8)).toArray t frozen
      | o => o }
set_option maxRecDepth 100000 in
theorem laidWorld_met0 (os : Os) (args : Array Value) : laidMetH Tryd.prog laidL ((laidWorld os #[]).forCall (fun _ _ => 0) ⟨#[], args, []⟩).memory :=
  laidMetH_of_parts (laidMet_of_run3 80 (by kernel_rfl) (by kernel_rfl) (by kernel_rfl)) (by kernel_rfl)
end Go.Proofs.YtbofkeoebnjjkaaDoor

/- MADE BY PROGRAM (rowt.py): the row and the tied card of TableAdded. -/
namespace Go.Proofs.YtbofkeoebnjjkaaDoor.tableAdded
open Go.ChangeShapes Go.WideShapes Go.ChangeAt Go.RowKit Go.Av
set_option linter.unusedVariables false

set_option maxRecDepth 100000 in
theorem lifted (os : Os) (started : os.Started) (H : Type) (enc : TypeId × Value → H) :
    ReturnsInHanded {} Tryd.checked os 10 .any (fun w args => (Rows.tableAddedSpec.pre enc Tryd.prog Tryd.f10 [] false w args ∧ laidMetH Tryd.prog laidL w) ∧ sizedMet enc Tryd.prog Tryd.f10 (OpenSpec.ofChange Rows.tableAddedSpec) false w args)
      (Rows.tableAddedSpec.post enc Tryd.prog Tryd.f10 false true false false) := by
  refine returnsInHanded_of_change_and (C := Tryd.checked) (X := fun w _ => laidMetH Tryd.prog laidL w) (fun _ _ _ hh h => h.of_heap hh) ownK started (by kernel_rfl) Tryd.func10
    (ChangeSpec.witness_at (enc := enc) (C := Tryd.checked) (os := os) (X := fun w _ => laidMetH Tryd.prog laidL w) false (laidWorld os #[]) #[.agg #[.int .u8 0, .int .u8 0, .int .u8 0, .int .u8 0, .int .u8 0, .int .u8 0, .int .u8 0, .int .u8 0, .int .u8 0, .int .u8 0, .int .u8 0, .int .u8 0, .int .u8 0, .int .u8 0, .int .u8 0, .int .u8 0, .int .u8 0, .int .u8 0, .int .u8 0, .int .u8 0, .int .u8 0, .int .u8 0, .int .u8 0, .int .u8 0, .int .u8 0, .int .u8 0, .int .u8 0], .agg #[.int .u8 0, .int .u8 0, .int .u8 0, .int .u8 0, .int .u8 0, .int .u8 0, .int .u8 0, .int .u8 0], .int .u8 0] 8 rfl (by kernel_rfl) (by kernel_rfl) (by kernel_rfl) (by kernel_rfl) (by kernel_rfl) (laidWorld_met0 os _)) ?_
  intro W base args ds gs before hval0 hW hcnd _ hL _
  have hval : ∀ (j : Nat) t v, Tryd.f10.params[j]? = some t → args[j]? = some v → Value.okWide Tryd.prog W .any base t v := hval0
  have hW' := hW
  obtain ⟨p, q, hA0, hV, rfl, hfz, hnd⟩ := hW
  have hA : DataW.TrodAll enc Tryd.prog W 0 (fun _ => true) true Tryd.f10.params.toList args.toList ds p := hA0
  have hA1 := hA
  rw [Tryd.params10] at hA hval
  obtain ⟨rfl, rfl⟩ := trodVars_none hV
  clear hA0 hval0
  simp only [List.append_nil] at hW'
  have hlt : ∀ x ∈ p, x.block < W.heap.size := fun x hx => by simpa using hW'.lt x hx
  obtain ⟨v0, v1, v2, d0, d1, d2, p0, p1, p2, rfl, rfl, rfl, h0, h1, h2⟩ := trodAll_three hA
  obtain ⟨g0, gl0, gx0, r0⟩ := rep_row (E := E0 W) (n := 27) (u := 5) (.inl ⟨_, Tryd.underlying57⟩) (by kernel_rfl) (by kernel_rfl) Tryd.underlying5 (hval 0 57 v0 rfl rfl)
  obtain ⟨a1, al1, ax1, r1⟩ := rep_row (E := E0 W) (n := 8) (u := 5) (.inr ⟨_, _, Tryd.underlying55⟩) (by kernel_rfl) (by kernel_rfl) Tryd.underlying5 (hval 1 55 v1 rfl rfl)
  obtain ⟨b2, rfl, bx2⟩ := rep_u8 Tryd.underlying5 (hval 2 5 v2 rfl rfl)
  refine ((law gl0 gx0 al1 ax1 bx2).2 (E0 W) W [v0, v1, .int .u8 (b2 : Int)] (glb_of_laid hL) (st0 W) (RepL.cons r0 (RepL.cons r1 (RepL.cons (.int _ _) (RepL.nil _))))).mono ?_
  rintro e W' ⟨r, v, E', H', rfl, hr, _, hx, rfl⟩
  cases hr
  exact ⟨_, rfl, _, _, _, [], _, [], hW', trodAll_cons_mk (shut_bool Tryd.underlying4 _) trodAll_mk0, hx.trodAll laidOutK (by kernel_rfl) hA1 hlt, rfl, hx.kept _, fun h => by cases h⟩

theorem over : Rows.tableAddedRow.holds Tryd.pinned (OpenSpec.ofChange Rows.tableAddedSpec) :=
  OpenClaim.holds_of_wide 10 Tryd.f10 rfl rfl rfl rfl rfl rfl rfl ⟨rfl, rfl, rfl, rfl, rfl⟩ rfl rfl rfl rfl rfl (by kernel_rfl) Tryd.func10 (by kernel_rfl)
    (of_decide_eq_true (by kernel_rfl)) (by unfold Func.isWrapper; first | (rw [if_pos (by decide +kernel)]; kernel_rfl) | (rw [if_neg (by decide +kernel)]; exact ⟨rfl, rfl⟩))
    (fun os started H enc _ => lifted os started H enc)

theorem carded : Rows.TableAddedCardSaid :=
  Claim7.holds_tied_plain_at .later [] [.data, .data] true (true, "29ac6a78e3fa4d425541ea16beb52bdc0cb68dcf07b6d1720047e0e447a29f7d") false
    over (fun _ h => by cases h) (by kernel_rfl) (fun _ h => by cases h) tableAdded_row_tie rfl ⟨rfl, rfl⟩ (by kernel_rfl) rfl
    (fun f fn hf hfn => by
      obtain rfl : f = 10 := Option.some.inj ((show Tryd.prog.funcNamed "headword/headwordlaw11.TableAdded" = some 10 by kernel_rfl).symm.trans hf) |>.symm
      obtain rfl : fn = Tryd.f10 := (Option.some.inj (Tryd.func10.symm.trans hfn)).symm
      exact ⟨by kernel_rfl, fun j t ht => by
        rw [Tryd.params10] at ht
        have hm := Array.mem_of_getElem? ht
        rcases (show t = 57 ∨ t = 55 ∨ t = 5 by simpa [or_assoc] using hm) with rfl | rfl | rfl
        · exact (show Tryd.prog.wantsStandIn 57 = false by kernel_rfl)
        · exact (show Tryd.prog.wantsStandIn 55 = false by kernel_rfl)
        · exact (show Tryd.prog.wantsStandIn 5 = false by kernel_rfl)⟩)
    (by kernel_rfl)
#print axioms carded
end Go.Proofs.YtbofkeoebnjjkaaDoor.tableAdded
