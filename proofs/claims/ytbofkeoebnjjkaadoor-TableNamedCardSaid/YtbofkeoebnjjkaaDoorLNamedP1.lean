import Derived.Test.YtbofkeoebnjjkaaDoorConB
import Derived.Test.YtbofkeoebnjjkaaDoorConA
import Derived.Test.YtbofkeoebnjjkaaDoorLNamedW
/- The contracts that TableNamed uses. Conditions: each theorem names its own. -/
namespace Go.Proofs.YtbofkeoebnjjkaaDoor
open Go.Av Tab
set_option linter.unusedVariables false
set_option linter.unusedSimpArgs false
set_option maxRecDepth 4000

/-- ref.in -/
theorem c78 {n lo hi : Int} {H : Heap} {K : AV → Heap → Prop} (hk : K (.bool (decide (lo ≤ n ∧ n ≤ hi))) H) : ACalls Tryd.prog 78 [.int .i64 n, .int .i64 lo, .int .i64 hi] H K := by
  apply W78_ok
  unfold W78
  try simp only [letO_some, cellsOf?_agg, cellsOf?_int, cellsOf?_bool, cellsOf?_imm, cellsOf?_ref, cellsOf?_nils, faddr_iptr, faddr_ptr, List.drop_succ_cons, List.drop_zero, List.take_succ_cons, List.take_zero, load1_iptr, loadN_iptr, List.length_cons, List.length_nil, Nat.le_refl, if_true, List.getElem?_cons_zero, List.getElem?_cons_succ, List.getD_cons_zero, List.getD_cons_succ, extrF_tup, binF_add, binF_sub, binF_mul, binF_eql, binF_neq, binF_lss, binF_leq, binF_gtr, binF_geq, true_and]
  by_cases h : lo ≤ n
  · simp only [h, decide_true, gval_bool, Int.reduceBNe, Int.reduceBEq, pickF_true, pickF_false, reduceIte, Bool.true_eq_false, Bool.false_eq_true, if_false, condA_tt, condA_ff, condG_tt, condG_ff, condG_tt', condG_ff', condG_undef, gval_undef, letO_some, cellsOf?_agg, cellsOf?_int, cellsOf?_bool, cellsOf?_imm, cellsOf?_ref, cellsOf?_nils, faddr_iptr, faddr_ptr, List.drop_succ_cons, List.drop_zero, List.take_succ_cons, List.take_zero, load1_iptr, loadN_iptr, List.length_cons, List.length_nil, Nat.le_refl, if_true, List.getElem?_cons_zero, List.getElem?_cons_succ, List.getD_cons_zero, List.getD_cons_succ, extrF_tup, binF_add, binF_sub, binF_mul, binF_eql, binF_neq, binF_lss, binF_leq, binF_gtr, binF_geq, true_and]
    simp only [h, true_and] at hk
    exact endK_ret hk
  · simp only [h, decide_false, gval_bool, Int.reduceBNe, Int.reduceBEq, pickF_true, pickF_false, reduceIte, Bool.true_eq_false, Bool.false_eq_true, if_false, condA_tt, condA_ff, condG_tt, condG_ff, condG_tt', condG_ff', condG_undef, gval_undef, letO_some, cellsOf?_agg, cellsOf?_int, cellsOf?_bool, cellsOf?_imm, cellsOf?_ref, cellsOf?_nils, faddr_iptr, faddr_ptr, List.drop_succ_cons, List.drop_zero, List.take_succ_cons, List.take_zero, load1_iptr, loadN_iptr, List.length_cons, List.length_nil, Nat.le_refl, if_true, List.getElem?_cons_zero, List.getElem?_cons_succ, List.getD_cons_zero, List.getD_cons_succ, extrF_tup, binF_add, binF_sub, binF_mul, binF_eql, binF_neq, binF_lss, binF_leq, binF_gtr, binF_geq, true_and]
    simp only [h, false_and, decide_false] at hk
    exact endK_ret hk
/-- ref.has -/
theorem c89 {v : AV} {l : List Int} {x : Int} {H : Heap} {K : AV → Heap → Prop} (hv : Reads H v l) (hl : l.length < 2 ^ 63) (hk : K (.bool (decide (x ∈ l))) H) : ACalls Tryd.prog 89 [v, .int .i64 x] H K := by
  apply W89_ok
  unfold W89
  try simp only [letO_some, cellsOf?_agg, cellsOf?_int, cellsOf?_bool, cellsOf?_imm, cellsOf?_ref, cellsOf?_nils, faddr_iptr, faddr_ptr, List.drop_succ_cons, List.drop_zero, List.take_succ_cons, List.take_zero, load1_iptr, loadN_iptr, List.length_cons, List.length_nil, Nat.le_refl, if_true, List.getElem?_cons_zero, List.getElem?_cons_succ, List.getD_cons_zero, List.getD_cons_succ, extrF_tup, binF_add, binF_sub, binF_mul, binF_eql, binF_neq, binF_lss, binF_leq, binF_gtr, binF_geq, true_and, hv.len]
  refine ⟨fun L H' => ∃ i : Nat, eqt L [.int .i64 i] ∧ i ≤ l.length ∧ eqt H' H ∧ x ∉ l.take i, fun L _ => (l.length - iv L 0).toNat, ⟨0, rfl, by omega, rfl, by simp⟩, ?_⟩
  rintro L H' ⟨i, rfl, hi, rfl, he⟩
  try simp only [letO_some, cellsOf?_agg, cellsOf?_int, cellsOf?_bool, cellsOf?_imm, cellsOf?_ref, cellsOf?_nils, faddr_iptr, faddr_ptr, List.drop_succ_cons, List.drop_zero, List.take_succ_cons, List.take_zero, load1_iptr, loadN_iptr, List.length_cons, List.length_nil, Nat.le_refl, if_true, List.getElem?_cons_zero, List.getElem?_cons_succ, List.getD_cons_zero, List.getD_cons_succ, extrF_tup, binF_add, binF_sub, binF_mul, binF_eql, binF_neq, binF_lss, binF_leq, binF_gtr, binF_geq, true_and]
  refine condA_t (fun hlt => ?_) (fun hge => ?_)
  · refine hv.get (Heap.le_refl _) (by omega) (by omega) ?_
    rw [Int.toNat_natCast]
    have a1 : i < l.length := by omega
    have g1 : l.getD i 0 = l[i] := by simp [List.getD_eq_getElem?_getD, a1]
    rw [g1]
    try simp only [letO_some, cellsOf?_agg, cellsOf?_int, cellsOf?_bool, cellsOf?_imm, cellsOf?_ref, cellsOf?_nils, faddr_iptr, faddr_ptr, List.drop_succ_cons, List.drop_zero, List.take_succ_cons, List.take_zero, load1_iptr, loadN_iptr, List.length_cons, List.length_nil, Nat.le_refl, if_true, List.getElem?_cons_zero, List.getElem?_cons_succ, List.getD_cons_zero, List.getD_cons_succ, extrF_tup, binF_add, binF_sub, binF_mul, binF_eql, binF_neq, binF_lss, binF_leq, binF_gtr, binF_geq, true_and]
    by_cases hx : l[i] = x
    · have e : (l[i] == x) = true := by rw [hx]; exact beq_self_eq_true _
      simp only [e, condA_tt]
      rw [decide_eq_true (by rw [← hx]; simp)] at hk
      exact endK_ret hk
    · have e : (l[i] == x) = false := by rw [beq_eq_false_iff_ne]; exact hx
      simp only [e, condA_ff]
      rw [wrap_i64 (by omega) (by omega)]
      refine ⟨⟨i + 1, rfl, by omega, rfl, ?_⟩, by simp <;> omega⟩
      rw [List.take_add_one, List.getElem?_eq_getElem a1]
      simp only [Option.toList, List.mem_append, List.mem_singleton, not_or]
      exact ⟨he, fun h => hx h.symm⟩
  · have hie : i = l.length := by omega
    subst hie
    rw [List.take_length] at he
    rw [decide_eq_false he] at hk
    exact endK_ret hk
/-- ref.planned -/
theorem c80 {v : AV} {p : List Int} {n : Nat} {H : Heap} {K : AV → Heap → Prop} (hv : Reads H v p) (hl : p.length < 2 ^ 63) (hk : K (.int .i64 (planE n p)) H) : ACalls Tryd.prog 80 [.int .i64 n, v] H K := by
  apply W80_ok
  unfold W80
  simp only [letO_some, cellsOf?_agg, cellsOf?_int, cellsOf?_bool, cellsOf?_imm, cellsOf?_ref, cellsOf?_nils, faddr_iptr, faddr_ptr, List.drop_succ_cons, List.drop_zero, List.take_succ_cons, List.take_zero, load1_iptr, loadN_iptr, List.length_cons, List.length_nil, Nat.le_refl, if_true, List.getElem?_cons_zero, List.getElem?_cons_succ, List.getD_cons_zero, List.getD_cons_succ, extrF_tup, binF_add, binF_sub, binF_mul, binF_eql, binF_neq, binF_lss, binF_leq, binF_gtr, binF_geq, true_and, hv.len]
  by_cases hlen : p.length = n
  · have e1 : (((p.length : Nat) : Int) != (n : Int)) = false := by rw [hlen]; simp
    simp only [e1, condA_ff]
    rw [planE, if_neg (by omega)] at hk
    refine ⟨fun L H' => ∃ i : Nat, eqt L [.int .i64 i] ∧ i ≤ p.length ∧ eqt H' H ∧ planS n [] p = planS n (p.take i) (p.drop i), fun L _ => (p.length - iv L 0).toNat, ⟨0, rfl, by omega, rfl, by simp⟩, ?_⟩
    rintro L H' ⟨i, rfl, hi, rfl, he⟩
    try simp only [letO_some, cellsOf?_agg, cellsOf?_int, cellsOf?_bool, cellsOf?_imm, cellsOf?_ref, cellsOf?_nils, faddr_iptr, faddr_ptr, List.drop_succ_cons, List.drop_zero, List.take_succ_cons, List.take_zero, load1_iptr, loadN_iptr, List.length_cons, List.length_nil, Nat.le_refl, if_true, List.getElem?_cons_zero, List.getElem?_cons_succ, List.getD_cons_zero, List.getD_cons_succ, extrF_tup, binF_add, binF_sub, binF_mul, binF_eql, binF_neq, binF_lss, binF_leq, binF_gtr, binF_geq, true_and]
    refine condA_t (fun hlt => ?_) (fun hge => ?_)
    · refine hv.get (Heap.le_refl _) (by omega) (by omega) ?_
      rw [Int.toNat_natCast]
      have a1 : i < p.length := by omega
      have g1 : p.getD i 0 = p[i] := by simp [List.getD_eq_getElem?_getD, a1]
      rw [g1]
      rw [List.drop_eq_getElem_cons a1, planS] at he
      rw [he] at hk
      try simp only [letO_some, cellsOf?_agg, cellsOf?_int, cellsOf?_bool, cellsOf?_imm, cellsOf?_ref, cellsOf?_nils, faddr_iptr, faddr_ptr, List.drop_succ_cons, List.drop_zero, List.take_succ_cons, List.take_zero, load1_iptr, loadN_iptr, List.length_cons, List.length_nil, Nat.le_refl, if_true, List.getElem?_cons_zero, List.getElem?_cons_succ, List.getD_cons_zero, List.getD_cons_succ, extrF_tup, binF_add, binF_sub, binF_mul, binF_eql, binF_neq, binF_lss, binF_leq, binF_gtr, binF_geq, true_and]
      rw [wrap_i64 (by omega) (by omega)]
      refine c78 ?_
      try simp only [not_v, letO_some, cellsOf?_agg, cellsOf?_int, cellsOf?_bool, cellsOf?_imm, cellsOf?_ref, cellsOf?_nils, faddr_iptr, faddr_ptr, List.drop_succ_cons, List.drop_zero, List.take_succ_cons, List.take_zero, load1_iptr, loadN_iptr, List.length_cons, List.length_nil, Nat.le_refl, if_true, List.getElem?_cons_zero, List.getElem?_cons_succ, List.getD_cons_zero, List.getD_cons_succ, extrF_tup, binF_add, binF_sub, binF_mul, binF_eql, binF_neq, binF_lss, binF_leq, binF_gtr, binF_geq, true_and]
      by_cases hbad : p[i] < 0 ∨ (n : Int) ≤ p[i]
      · rw [if_pos hbad] at hk
        have e2 : decide (0 ≤ p[i] ∧ p[i] ≤ (n : Int) - 1) = false := decide_eq_false (by omega)
        simp only [e2, Bool.not_false, condA_tt]
        exact endK_ret hk
      · rw [if_neg hbad] at hk
        have e2 : decide (0 ≤ p[i] ∧ p[i] ≤ (n : Int) - 1) = true := decide_eq_true (by omega)
        obtain ⟨y, hy, hry⟩ := slc_pre hv (k := i) (by omega)
        simp only [e2, Bool.not_true, condA_ff, hy, letO_some]
        refine hv.get (Heap.le_refl _) (by omega) (by omega) ?_
        rw [Int.toNat_natCast, g1]
        refine c89 hry (by rw [List.length_take]; omega) ?_
        by_cases hin : p[i] ∈ p.take i
        · rw [if_pos hin] at hk
          simp only [letO_some, cellsOf?_agg, cellsOf?_int, cellsOf?_bool, cellsOf?_imm, cellsOf?_ref, cellsOf?_nils, faddr_iptr, faddr_ptr, List.drop_succ_cons, List.drop_zero, List.take_succ_cons, List.take_zero, load1_iptr, loadN_iptr, List.length_cons, List.length_nil, Nat.le_refl, if_true, List.getElem?_cons_zero, List.getElem?_cons_succ, List.getD_cons_zero, List.getD_cons_succ, extrF_tup, binF_add, binF_sub, binF_mul, binF_eql, binF_neq, binF_lss, binF_leq, binF_gtr, binF_geq, true_and, hin, decide_true, condA_tt]
          exact endK_ret hk
        · simp only [letO_some, cellsOf?_agg, cellsOf?_int, cellsOf?_bool, cellsOf?_imm, cellsOf?_ref, cellsOf?_nils, faddr_iptr, faddr_ptr, List.drop_succ_cons, List.drop_zero, List.take_succ_cons, List.take_zero, load1_iptr, loadN_iptr, List.length_cons, List.length_nil, Nat.le_refl, if_true, List.getElem?_cons_zero, List.getElem?_cons_succ, List.getD_cons_zero, List.getD_cons_succ, extrF_tup, binF_add, binF_sub, binF_mul, binF_eql, binF_neq, binF_lss, binF_leq, binF_gtr, binF_geq, true_and, hin, decide_false, condA_ff]
          rw [wrap_i64 (by omega) (by omega)]
          refine ⟨⟨i + 1, rfl, by omega, rfl, ?_⟩, by simp <;> omega⟩
          rw [he, if_neg hbad, if_neg hin, List.take_add_one, List.getElem?_eq_getElem a1]; rfl
    · have hie : i = p.length := by omega
      subst hie
      rw [List.drop_length, planS] at he
      rw [he] at hk
      exact endK_ret hk
  · have e1 : (((p.length : Nat) : Int) != (n : Int)) = true := by rw [bne_iff_ne]; omega
    simp only [e1, condA_tt]
    rw [planE, if_pos hlen] at hk
    exact endK_ret hk
theorem chkRows_snoc {n : Nat} : ∀ (u : Tb) (l : List Int), chkRows n u = 0 → l.length = n → l.any badC = false → chkRows n (u ++ [l]) = 0 := by
  intro u
  induction u with
  | nil => intro l _ h2 h3; simp [chkRows, h2, h3]
  | cons m u ih =>
    intro l h1 h2 h3
    rw [chkRows] at h1
    rw [List.cons_append, chkRows]
    split at h1
    · cases h1
    · rename_i q1
      rw [if_neg q1]
      split at h1
      · cases h1
      · rename_i q2
        rw [if_neg q2]
        exact ih l h1 h2 h3
/-- ref.Check -/
theorem c31 {v : AV} {t : Tbl} {H : Heap} {K : AV → Heap → Prop} (hv : RT H v t) (hl : t.length < 2 ^ 63) (hl2 : ∀ l ∈ t, l.length < 2 ^ 63) (hk : K (.int .i64 (chkT t)) H) : ACalls Tryd.prog 31 [v] H K := by
  apply W31_ok
  unfold W31
  simp only [letO_some, cellsOf?_agg, cellsOf?_int, cellsOf?_bool, cellsOf?_imm, cellsOf?_ref, cellsOf?_nils, faddr_iptr, faddr_ptr, List.drop_succ_cons, List.drop_zero, List.take_succ_cons, List.take_zero, load1_iptr, loadN_iptr, List.length_cons, List.length_nil, Nat.le_refl, if_true, List.getElem?_cons_zero, List.getElem?_cons_succ, List.getD_cons_zero, List.getD_cons_succ, extrF_tup, binF_add, binF_sub, binF_mul, binF_eql, binF_neq, binF_lss, binF_leq, binF_gtr, binF_geq, true_and, hv.len]
  by_cases h0 : t.length = 0
  · have e1 : (((t.length : Nat) : Int) == 0) = true := by simp [h0]
    simp only [e1, condA_tt]
    rw [chkT, if_pos h0] at hk
    exact endK_ret hk
  have e1 : (((t.length : Nat) : Int) == 0) = false := by rw [beq_eq_false_iff_ne]; omega
  simp only [e1, condA_ff]
  by_cases h4 : 4 < t.length
  · have e2 : decide ((4 : Int) < ((t.length : Nat) : Int)) = true := by simp; omega
    simp only [e2, condA_tt]
    rw [chkT, if_neg h0, if_pos h4] at hk
    exact endK_ret hk
  have e2 : decide ((4 : Int) < ((t.length : Nat) : Int)) = false := by simp; omega
  simp only [e2, condA_ff]
  rw [chkT, if_neg h0, if_neg h4] at hk
  refine ⟨fun L H' => ∃ i : Nat, eqt L [.int .i64 i] ∧ i ≤ t.length ∧ eqt H' H ∧ chkRows t.length (t.take i) = 0, fun L _ => (t.length - iv L 0).toNat, ⟨0, rfl, by omega, rfl, by simp [chkRows]⟩, ?_⟩
  rintro L H' ⟨i, rfl, hi, rfl, he⟩
  try simp only [letO_some, cellsOf?_agg, cellsOf?_int, cellsOf?_bool, cellsOf?_imm, cellsOf?_ref, cellsOf?_nils, faddr_iptr, faddr_ptr, List.drop_succ_cons, List.drop_zero, List.take_succ_cons, List.take_zero, load1_iptr, loadN_iptr, List.length_cons, List.length_nil, Nat.le_refl, if_true, List.getElem?_cons_zero, List.getElem?_cons_succ, List.getD_cons_zero, List.getD_cons_succ, extrF_tup, binF_add, binF_sub, binF_mul, binF_eql, binF_neq, binF_lss, binF_leq, binF_gtr, binF_geq, true_and]
  refine condA_t (fun hlt => ?_) (fun hge => ?_)
  · refine hv.get (Heap.le_refl _) (by omega) (by omega) fun a ha => ?_
    rw [Int.toNat_natCast] at ha
    have a1 : i < t.length := by omega
    have g1 : t.getD i [] = t[i] := by simp [List.getD_eq_getElem?_getD, a1]
    rw [g1] at ha
    have hk2 := hk
    rw [chkRows_take t i he, List.drop_eq_getElem_cons a1, chkRows] at hk2
    simp only [ha.len, letO_some, cellsOf?_agg, cellsOf?_int, cellsOf?_bool, cellsOf?_imm, cellsOf?_ref, cellsOf?_nils, faddr_iptr, faddr_ptr, List.drop_succ_cons, List.drop_zero, List.take_succ_cons, List.take_zero, load1_iptr, loadN_iptr, List.length_cons, List.length_nil, Nat.le_refl, if_true, List.getElem?_cons_zero, List.getElem?_cons_succ, List.getD_cons_zero, List.getD_cons_succ, extrF_tup, binF_add, binF_sub, binF_mul, binF_eql, binF_neq, binF_lss, binF_leq, binF_gtr, binF_geq, true_and]
    by_cases hlen : t[i].length = t.length
    · have e3 : (((t[i].length : Nat) : Int) != ((t.length : Nat) : Int)) = false := by simp; omega
      simp only [e3, condA_ff, letO_some]
      rw [if_neg (by omega)] at hk2
      refine ⟨fun L H'' => ∃ j : Nat, eqt L [.int .i64 j] ∧ j ≤ t[i].length ∧ eqt H'' H' ∧ (t[i].take j).any badC = false, fun L _ => (t[i].length - iv L 0).toNat, ⟨0, rfl, by omega, rfl, by simp⟩, ?_⟩
      rintro L H'' ⟨j, rfl, hj, rfl, hb⟩
      try simp only [letO_some, cellsOf?_agg, cellsOf?_int, cellsOf?_bool, cellsOf?_imm, cellsOf?_ref, cellsOf?_nils, faddr_iptr, faddr_ptr, List.drop_succ_cons, List.drop_zero, List.take_succ_cons, List.take_zero, load1_iptr, loadN_iptr, List.length_cons, List.length_nil, Nat.le_refl, if_true, List.getElem?_cons_zero, List.getElem?_cons_succ, List.getD_cons_zero, List.getD_cons_succ, extrF_tup, binF_add, binF_sub, binF_mul, binF_eql, binF_neq, binF_lss, binF_leq, binF_gtr, binF_geq, true_and]
      refine hv.get (Heap.le_refl _) (by omega) (by omega) fun a ha => ?_
      rw [Int.toNat_natCast, g1] at ha
      simp only [ha.len, letO_some, cellsOf?_agg, cellsOf?_int, cellsOf?_bool, cellsOf?_imm, cellsOf?_ref, cellsOf?_nils, faddr_iptr, faddr_ptr, List.drop_succ_cons, List.drop_zero, List.take_succ_cons, List.take_zero, load1_iptr, loadN_iptr, List.length_cons, List.length_nil, Nat.le_refl, if_true, List.getElem?_cons_zero, List.getElem?_cons_succ, List.getD_cons_zero, List.getD_cons_succ, extrF_tup, binF_add, binF_sub, binF_mul, binF_eql, binF_neq, binF_lss, binF_leq, binF_gtr, binF_geq, true_and]
      refine condA_t (fun hlt2 => ?_) (fun hge2 => ?_)
      · refine hv.get (Heap.le_refl _) (by omega) (by omega) fun a ha => ?_
        rw [Int.toNat_natCast, g1] at ha
        try simp only [letO_some, cellsOf?_agg, cellsOf?_int, cellsOf?_bool, cellsOf?_imm, cellsOf?_ref, cellsOf?_nils, faddr_iptr, faddr_ptr, List.drop_succ_cons, List.drop_zero, List.take_succ_cons, List.take_zero, load1_iptr, loadN_iptr, List.length_cons, List.length_nil, Nat.le_refl, if_true, List.getElem?_cons_zero, List.getElem?_cons_succ, List.getD_cons_zero, List.getD_cons_succ, extrF_tup, binF_add, binF_sub, binF_mul, binF_eql, binF_neq, binF_lss, binF_leq, binF_gtr, binF_geq, true_and]
        refine ha.get (Heap.le_refl _) (by omega) (by omega) ?_
        rw [Int.toNat_natCast]
        have b1 : j < t[i].length := by omega
        have g2 : t[i].getD j 0 = t[i][j] := by simp [List.getD_eq_getElem?_getD, b1]
        rw [g2]
        refine c78 ?_
        try simp only [not_v, letO_some, cellsOf?_agg, cellsOf?_int, cellsOf?_bool, cellsOf?_imm, cellsOf?_ref, cellsOf?_nils, faddr_iptr, faddr_ptr, List.drop_succ_cons, List.drop_zero, List.take_succ_cons, List.take_zero, load1_iptr, loadN_iptr, List.length_cons, List.length_nil, Nat.le_refl, if_true, List.getElem?_cons_zero, List.getElem?_cons_succ, List.getD_cons_zero, List.getD_cons_succ, extrF_tup, binF_add, binF_sub, binF_mul, binF_eql, binF_neq, binF_lss, binF_leq, binF_gtr, binF_geq, true_and]
        by_cases hbad : 0 ≤ t[i][j] ∧ t[i][j] ≤ 9
        · simp only [hbad, and_self, decide_true, Bool.not_true, condA_ff]
          rw [wrap_i64 (by omega) (by omega)]
          refine ⟨⟨j + 1, rfl, by omega, rfl, ?_⟩, by simp <;> omega⟩
          rw [List.take_add_one, List.getElem?_eq_getElem b1, List.any_append, hb]
          simp [badC]; omega
        · simp only [hbad, decide_false, Bool.not_false, condA_tt]
          rw [if_pos (List.any_eq_true.2 ⟨t[i][j], by simp, by simp [badC]; omega⟩)] at hk2
          exact endK_ret hk2
      · have hje : j = t[i].length := by omega
        subst hje
        rw [List.take_length] at hb
        rw [if_neg (by simp [hb])] at hk2
        rw [wrap_i64 (by omega) (by omega)]
        refine ⟨⟨i + 1, rfl, by omega, rfl, ?_⟩, by simp <;> omega⟩
        rw [List.take_add_one]
        have : t[i]?.toList = [t[i]] := by simp [a1]
        rw [this]
        exact chkRows_snoc _ _ he hlen hb
    · have e3 : (((t[i].length : Nat) : Int) != ((t.length : Nat) : Int)) = true := by simp; omega
      simp only [e3, condA_tt, letO_some]
      rw [if_pos hlen] at hk2
      exact endK_ret hk2
  · have hil : i = t.length := by omega
    subst hil
    rw [List.take_length] at he
    rw [he] at hk
    exact endK_ret hk
/-- The sum of a column, as far as some row. -/
def colS (t : Tb) (k i : Nat) : Int := ((List.range i).map fun r => cell t r k).sum
def rowS (t : Tb) (k i : Nat) : Int := ((List.range i).map fun c => cell t k c).sum
theorem colS_bd {t : Tb} (hc : chkT t = 0) (k i : Nat) : 0 ≤ colS t k i ∧ colS t k i ≤ 9 * i := by
  induction i with
  | zero => simp [colS]
  | succ i ih =>
    have := cell_rng hc i k
    simp only [colS, List.range_succ, List.map_append, List.sum_append, List.map_cons, List.map_nil, List.sum_cons, List.sum_nil] at ih ⊢
    omega
theorem rowS_bd {t : Tb} (hc : chkT t = 0) (k i : Nat) : 0 ≤ rowS t k i ∧ rowS t k i ≤ 9 * i := by
  induction i with
  | zero => simp [rowS]
  | succ i ih =>
    have := cell_rng hc k i
    simp only [rowS, List.range_succ, List.map_append, List.sum_append, List.map_cons, List.map_nil, List.sum_cons, List.sum_nil] at ih ⊢
    omega
theorem colS_succ (t : Tb) (k i : Nat) : colS t k (i + 1) = colS t k i + cell t i k := by simp [colS, List.range_succ]
theorem rowS_succ (t : Tb) (k i : Nat) : rowS t k (i + 1) = rowS t k i + cell t k i := by simp [rowS, List.range_succ]
theorem rowS_row {t : Tb} (hc : chkT t = 0) {k : Nat} (hk : k < t.length) : rowS t k t.length = (row t k).sum := by
  unfold rowS
  congr 1
  refine List.ext_getElem (by simp [row_len hc hk]) fun i h1 h2 => ?_
  have : i < (row t k).length := h2
  simp [cell, List.getD_eq_getElem?_getD, this]
theorem colS_turn {t : Tb} {k : Nat} (hk : k < t.length) : colS t k t.length = (row (turnE t) k).sum := by
  unfold colS
  congr 1
  simp [row, turnE, List.getD_eq_getElem?_getD, hk]
/-- ref.sums -/
theorem c72 {v : AV} {t : Tbl} {k : Nat} {H : Heap} {K : AV → Heap → Prop} (hc : chkT t = 0) (hv : RT H v t) (hkn : k < t.length) (hk : K (.tup [.int .i64 (rowS t k t.length), .int .i64 (colS t k t.length)]) H) : ACalls Tryd.prog 72 [v, .int .i64 k] H K := by
  apply W72_ok
  unfold W72
  obtain ⟨n1, n2, hrows⟩ := chkT_ok hc
  simp only [letO_some, cellsOf?_agg, cellsOf?_int, cellsOf?_bool, cellsOf?_imm, cellsOf?_ref, cellsOf?_nils, faddr_iptr, faddr_ptr, List.drop_succ_cons, List.drop_zero, List.take_succ_cons, List.take_zero, load1_iptr, loadN_iptr, List.length_cons, List.length_nil, Nat.le_refl, if_true, List.getElem?_cons_zero, List.getElem?_cons_succ, List.getD_cons_zero, List.getD_cons_succ, extrF_tup, binF_add, binF_sub, binF_mul, binF_eql, binF_neq, binF_lss, binF_leq, binF_gtr, binF_geq, true_and, hv.len]
  refine ⟨fun L H' => ∃ i : Nat, eqt L [.int .i64 (rowS t k i), .int .i64 (colS t k i), .int .i64 i] ∧ i ≤ t.length ∧ eqt H' H, fun L _ => (t.length - iv L 2).toNat, ⟨0, rfl, by omega, rfl⟩, ?_⟩
  rintro L H' ⟨i, rfl, hi, rfl⟩
  try simp only [letO_some, cellsOf?_agg, cellsOf?_int, cellsOf?_bool, cellsOf?_imm, cellsOf?_ref, cellsOf?_nils, faddr_iptr, faddr_ptr, List.drop_succ_cons, List.drop_zero, List.take_succ_cons, List.take_zero, load1_iptr, loadN_iptr, List.length_cons, List.length_nil, Nat.le_refl, if_true, List.getElem?_cons_zero, List.getElem?_cons_succ, List.getD_cons_zero, List.getD_cons_succ, extrF_tup, binF_add, binF_sub, binF_mul, binF_eql, binF_neq, binF_lss, binF_leq, binF_gtr, binF_geq, true_and]
  refine condA_t (fun hlt => ?_) (fun hge => ?_)
  · have a1 : i < t.length := by omega
    have l1 : (t.getD k []).length = t.length := row_len hc hkn
    have l2 : (t.getD i []).length = t.length := row_len hc a1
    refine hv.get (Heap.le_refl _) (by omega) (by omega) fun a ha => ?_
    rw [Int.toNat_natCast] at ha
    try simp only [letO_some, cellsOf?_agg, cellsOf?_int, cellsOf?_bool, cellsOf?_imm, cellsOf?_ref, cellsOf?_nils, faddr_iptr, faddr_ptr, List.drop_succ_cons, List.drop_zero, List.take_succ_cons, List.take_zero, load1_iptr, loadN_iptr, List.length_cons, List.length_nil, Nat.le_refl, if_true, List.getElem?_cons_zero, List.getElem?_cons_succ, List.getD_cons_zero, List.getD_cons_succ, extrF_tup, binF_add, binF_sub, binF_mul, binF_eql, binF_neq, binF_lss, binF_leq, binF_gtr, binF_geq, true_and]
    refine ha.get (Heap.le_refl _) (by omega) (by omega) ?_
    rw [Int.toNat_natCast]
    have b1 := rowS_bd hc k i
    have b2 := colS_bd hc k i
    have b3 := cell_rng hc k i
    have b4 := cell_rng hc i k
    try simp only [letO_some, cellsOf?_agg, cellsOf?_int, cellsOf?_bool, cellsOf?_imm, cellsOf?_ref, cellsOf?_nils, faddr_iptr, faddr_ptr, List.drop_succ_cons, List.drop_zero, List.take_succ_cons, List.take_zero, load1_iptr, loadN_iptr, List.length_cons, List.length_nil, Nat.le_refl, if_true, List.getElem?_cons_zero, List.getElem?_cons_succ, List.getD_cons_zero, List.getD_cons_succ, extrF_tup, binF_add, binF_sub, binF_mul, binF_eql, binF_neq, binF_lss, binF_leq, binF_gtr, binF_geq, true_and]
    rw [show (t.getD k []).getD i 0 = cell t k i from rfl, wrap_i64 (by omega) (by omega), ← rowS_succ]
    refine hv.get (Heap.le_refl _) (by omega) (by omega) fun a ha => ?_
    rw [Int.toNat_natCast] at ha
    try simp only [letO_some, cellsOf?_agg, cellsOf?_int, cellsOf?_bool, cellsOf?_imm, cellsOf?_ref, cellsOf?_nils, faddr_iptr, faddr_ptr, List.drop_succ_cons, List.drop_zero, List.take_succ_cons, List.take_zero, load1_iptr, loadN_iptr, List.length_cons, List.length_nil, Nat.le_refl, if_true, List.getElem?_cons_zero, List.getElem?_cons_succ, List.getD_cons_zero, List.getD_cons_succ, extrF_tup, binF_add, binF_sub, binF_mul, binF_eql, binF_neq, binF_lss, binF_leq, binF_gtr, binF_geq, true_and]
    refine ha.get (Heap.le_refl _) (by omega) (by omega) ?_
    rw [Int.toNat_natCast]
    try simp only [letO_some, cellsOf?_agg, cellsOf?_int, cellsOf?_bool, cellsOf?_imm, cellsOf?_ref, cellsOf?_nils, faddr_iptr, faddr_ptr, List.drop_succ_cons, List.drop_zero, List.take_succ_cons, List.take_zero, load1_iptr, loadN_iptr, List.length_cons, List.length_nil, Nat.le_refl, if_true, List.getElem?_cons_zero, List.getElem?_cons_succ, List.getD_cons_zero, List.getD_cons_succ, extrF_tup, binF_add, binF_sub, binF_mul, binF_eql, binF_neq, binF_lss, binF_leq, binF_gtr, binF_geq, true_and]
    rw [show (t.getD i []).getD k 0 = cell t i k from rfl, wrap_i64 (n := colS t k i + _) (by omega) (by omega), ← colS_succ, wrap_i64 (by omega) (by omega)]
    exact ⟨⟨i + 1, rfl, by omega, rfl⟩, by simp <;> omega⟩
  · have hie : i = t.length := by omega
    subst hie
    exact endK_ret hk
/-- What even tables are, row by row. -/
theorem evenE_iff {t : Tb} (hc : chkT t = 0) : evenE t = if ∀ k, k < t.length → rowS t k t.length = rowS t 0 t.length ∧ colS t k t.length = rowS t 0 t.length then (rowS t 0 t.length, 0) else (0, 17) := by
  obtain ⟨n1, n2, hrows⟩ := chkT_ok hc
  rw [evenE, if_neg (by simp [hc]), ← rowS_row hc (by omega)]
  have h : ((turnE t ++ t).all fun l => decide (l.sum = rowS t 0 t.length)) = true ↔ ∀ k, k < t.length → rowS t k t.length = rowS t 0 t.length ∧ colS t k t.length = rowS t 0 t.length := by
    rw [List.all_append, Bool.and_eq_true, List.all_eq_true, List.all_eq_true]
    constructor
    · rintro ⟨h1, h2⟩ k hk
      refine ⟨?_, ?_⟩
      · rw [rowS_row hc hk]; exact of_decide_eq_true (h2 _ (row_mem hk))
      · rw [colS_turn hk]; exact of_decide_eq_true (h1 _ (row_mem (by simpa using hk)))
    · intro h
      refine ⟨fun l hl => ?_, fun l hl => ?_⟩
      · obtain ⟨k, hk, rfl⟩ := List.getElem_of_mem hl
        have hk' : k < t.length := by simpa using hk
        have := (h k hk').2
        rw [colS_turn hk'] at this
        have e : row (turnE t) k = (turnE t)[k] := by simp only [row, List.getD_eq_getElem?_getD, List.getElem?_eq_getElem hk, Option.getD_some]
        rw [← e]; exact decide_eq_true this
      · obtain ⟨k, hk, rfl⟩ := List.getElem_of_mem hl
        have := (h k hk).1
        rw [rowS_row hc hk] at this
        have e : row t k = t[k] := by simp only [row, List.getD_eq_getElem?_getD, List.getElem?_eq_getElem hk, Option.getD_some]
        rw [← e]; exact decide_eq_true this
  by_cases hx : ∀ k, k < t.length → rowS t k t.length = rowS t 0 t.length ∧ colS t k t.length = rowS t 0 t.length
  · rw [if_pos (h.2 hx), if_pos hx]
  · rw [if_neg (fun h' => hx (h.1 h')), if_neg hx]
/-- ref.Even -/
theorem c19 {v : AV} {t : Tbl} {H : Heap} {K : AV → Heap → Prop} (hv : RT H v t) (hl : t.length < 2 ^ 63) (hl2 : ∀ l ∈ t, l.length < 2 ^ 63) (hk : K (.tup [.int .i64 (evenE t).1, .int .i64 (evenE t).2]) H) : ACalls Tryd.prog 19 [v] H K := by
  apply W19_ok
  unfold W19
  try simp only [letO_some, cellsOf?_agg, cellsOf?_int, cellsOf?_bool, cellsOf?_imm, cellsOf?_ref, cellsOf?_nils, faddr_iptr, faddr_ptr, List.drop_succ_cons, List.drop_zero, List.take_succ_cons, List.take_zero, load1_iptr, loadN_iptr, List.length_cons, List.length_nil, Nat.le_refl, if_true, List.getElem?_cons_zero, List.getElem?_cons_succ, List.getD_cons_zero, List.getD_cons_succ, extrF_tup, binF_add, binF_sub, binF_mul, binF_eql, binF_neq, binF_lss, binF_leq, binF_gtr, binF_geq, true_and]
  refine c31 hv hl hl2 ?_
  try simp only [letO_some, cellsOf?_agg, cellsOf?_int, cellsOf?_bool, cellsOf?_imm, cellsOf?_ref, cellsOf?_nils, faddr_iptr, faddr_ptr, List.drop_succ_cons, List.drop_zero, List.take_succ_cons, List.take_zero, load1_iptr, loadN_iptr, List.length_cons, List.length_nil, Nat.le_refl, if_true, List.getElem?_cons_zero, List.getElem?_cons_succ, List.getD_cons_zero, List.getD_cons_succ, extrF_tup, binF_add, binF_sub, binF_mul, binF_eql, binF_neq, binF_lss, binF_leq, binF_gtr, binF_geq, true_and]
  by_cases hc : chkT t = 0
  · have e1 : (chkT t != 0) = false := by rw [hc]; rfl
    simp only [e1, condA_ff]
    obtain ⟨n1, n2, hrows⟩ := chkT_ok hc
    refine c72 (k := 0) hc hv (by omega) ?_
    rw [evenE_iff hc] at hk
    simp only [letO_some, cellsOf?_agg, cellsOf?_int, cellsOf?_bool, cellsOf?_imm, cellsOf?_ref, cellsOf?_nils, faddr_iptr, faddr_ptr, List.drop_succ_cons, List.drop_zero, List.take_succ_cons, List.take_zero, load1_iptr, loadN_iptr, List.length_cons, List.length_nil, Nat.le_refl, if_true, List.getElem?_cons_zero, List.getElem?_cons_succ, List.getD_cons_zero, List.getD_cons_succ, extrF_tup, binF_add, binF_sub, binF_mul, binF_eql, binF_neq, binF_lss, binF_leq, binF_gtr, binF_geq, true_and, hv.len]
    refine ⟨fun L H' => ∃ i : Nat, eqt L [.int .i64 i] ∧ i ≤ t.length ∧ eqt H' H ∧ ∀ k, k < i → rowS t k t.length = rowS t 0 t.length ∧ colS t k t.length = rowS t 0 t.length, fun L _ => (t.length - iv L 0).toNat, ⟨0, rfl, by omega, rfl, fun k hk => by omega⟩, ?_⟩
    rintro L H' ⟨i, rfl, hi, rfl, he⟩
    try simp only [letO_some, cellsOf?_agg, cellsOf?_int, cellsOf?_bool, cellsOf?_imm, cellsOf?_ref, cellsOf?_nils, faddr_iptr, faddr_ptr, List.drop_succ_cons, List.drop_zero, List.take_succ_cons, List.take_zero, load1_iptr, loadN_iptr, List.length_cons, List.length_nil, Nat.le_refl, if_true, List.getElem?_cons_zero, List.getElem?_cons_succ, List.getD_cons_zero, List.getD_cons_succ, extrF_tup, binF_add, binF_sub, binF_mul, binF_eql, binF_neq, binF_lss, binF_leq, binF_gtr, binF_geq, true_and]
    refine condA_t (fun hlt => ?_) (fun hge => ?_)
    · have a1 : i < t.length := by omega
      refine c72 hc hv a1 ?_
      try simp only [letO_some, cellsOf?_agg, cellsOf?_int, cellsOf?_bool, cellsOf?_imm, cellsOf?_ref, cellsOf?_nils, faddr_iptr, faddr_ptr, List.drop_succ_cons, List.drop_zero, List.take_succ_cons, List.take_zero, load1_iptr, loadN_iptr, List.length_cons, List.length_nil, Nat.le_refl, if_true, List.getElem?_cons_zero, List.getElem?_cons_succ, List.getD_cons_zero, List.getD_cons_succ, extrF_tup, binF_add, binF_sub, binF_mul, binF_eql, binF_neq, binF_lss, binF_leq, binF_gtr, binF_geq, true_and]
      by_cases h1 : rowS t i t.length = rowS t 0 t.length
      · have e2 : (rowS t i t.length != rowS t 0 t.length) = false := by rw [h1]; simp
        simp only [e2, gval_bool, Int.reduceBNe, Int.reduceBEq, pickF_true, pickF_false, reduceIte, Bool.true_eq_false, Bool.false_eq_true, if_false, condA_tt, condA_ff, condG_tt, condG_ff, condG_tt', condG_ff', condG_undef, gval_undef, letO_some, cellsOf?_agg, cellsOf?_int, cellsOf?_bool, cellsOf?_imm, cellsOf?_ref, cellsOf?_nils, faddr_iptr, faddr_ptr, List.drop_succ_cons, List.drop_zero, List.take_succ_cons, List.take_zero, load1_iptr, loadN_iptr, List.length_cons, List.length_nil, Nat.le_refl, if_true, List.getElem?_cons_zero, List.getElem?_cons_succ, List.getD_cons_zero, List.getD_cons_succ, extrF_tup, binF_add, binF_sub, binF_mul, binF_eql, binF_neq, binF_lss, binF_leq, binF_gtr, binF_geq, true_and]
        by_cases h2 : colS t i t.length = rowS t 0 t.length
        · have e3 : (colS t i t.length != rowS t 0 t.length) = false := by rw [h2]; simp
          simp only [e3, condA_ff]
          rw [wrap_i64 (by omega) (by omega)]
          refine ⟨⟨i + 1, rfl, by omega, rfl, fun k hk => ?_⟩, by simp <;> omega⟩
          by_cases hki : k = i
          · subst hki; exact ⟨h1, h2⟩
          · exact he k (by omega)
        · have e3 : (colS t i t.length != rowS t 0 t.length) = true := by rw [bne_iff_ne]; exact h2
          simp only [e3, condA_tt]
          rw [if_neg fun h => h2 (h i a1).2] at hk
          exact endK_ret hk
      · have e2 : (rowS t i t.length != rowS t 0 t.length) = true := by rw [bne_iff_ne]; exact h1
        simp only [e2, gval_bool, Int.reduceBNe, Int.reduceBEq, pickF_true, pickF_false, reduceIte, Bool.true_eq_false, Bool.false_eq_true, if_false, condA_tt, condA_ff, condG_tt, condG_ff, condG_tt', condG_ff', condG_undef, gval_undef, letO_some, cellsOf?_agg, cellsOf?_int, cellsOf?_bool, cellsOf?_imm, cellsOf?_ref, cellsOf?_nils, faddr_iptr, faddr_ptr, List.drop_succ_cons, List.drop_zero, List.take_succ_cons, List.take_zero, load1_iptr, loadN_iptr, List.length_cons, List.length_nil, Nat.le_refl, if_true, List.getElem?_cons_zero, List.getElem?_cons_succ, List.getD_cons_zero, List.getD_cons_succ, extrF_tup, binF_add, binF_sub, binF_mul, binF_eql, binF_neq, binF_lss, binF_leq, binF_gtr, binF_geq, true_and]
        rw [if_neg fun h => h1 (h i a1).1] at hk
        exact endK_ret hk
    · have hie : i = t.length := by omega
      subst hie
      rw [if_pos he] at hk
      exact endK_ret hk
  · have e1 : (chkT t != 0) = true := by simp [hc]
    simp only [e1, condA_tt]
    rw [evenE, if_pos hc] at hk
    exact endK_ret hk
/-- The smallest number at a plan. -/
def leastK (t : Tb) (p : List Int) : Nat → Int
  | 0 => cell t 0 (p.getD 0 0).toNat
  | i + 1 => if cell t i (p.getD i 0).toNat < leastK t p i then cell t i (p.getD i 0).toNat else leastK t p i
theorem leastK_one (t : Tb) (p : List Int) : leastK t p 1 = leastK t p 0 := by simp [leastK]
/-- ref.least -/
theorem c81 {v u : AV} {t : Tbl} {p : List Int} {H : Heap} {K : AV → Heap → Prop} (hc : chkT t = 0) (hv : RT H v t) (hu : Reads H u p) (hpl : p.length = t.length) (hp : ∀ c ∈ p, 0 ≤ c ∧ c < t.length) (hk : K (.int .i64 (leastK t p p.length)) H) : ACalls Tryd.prog 81 [v, u] H K := by
  apply W81_ok
  unfold W81
  obtain ⟨n1, n2, hrows⟩ := chkT_ok hc
  have hget : ∀ i, i < p.length → p.getD i 0 ∈ p := fun i hi => by rw [List.getD_eq_getElem?_getD]; simp [hi]
  have hcell : ∀ (H' : Heap) (i : Nat) (k : AV → Prop), H.le H' → i < p.length → k (.int .i64 (cell t i (p.getD i 0).toNat)) →
      letO (idx 1 v (.int .i64 (i : Int))) fun q => letO (load1 q H') fun a => letO (idx 1 u (.int .i64 (i : Int))) fun q2 => letO (load1 q2 H') fun c => letO (idx 1 a c) fun q3 => letO (load1 q3 H') k := by
    intro H' i k hle hi hk
    have l1 : (t.getD i []).length = t.length := row_len hc (by omega)
    have hr := hp _ (hget i hi)
    refine hv.get hle (by omega) (by omega) fun a ha => ?_
    rw [Int.toNat_natCast] at ha
    refine hu.get hle (by omega) (by omega) ?_
    rw [Int.toNat_natCast]
    refine ha.get hle (by omega) (by omega) ?_
    exact hk
  try simp only [letO_some, cellsOf?_agg, cellsOf?_int, cellsOf?_bool, cellsOf?_imm, cellsOf?_ref, cellsOf?_nils, faddr_iptr, faddr_ptr, List.drop_succ_cons, List.drop_zero, List.take_succ_cons, List.take_zero, load1_iptr, loadN_iptr, List.length_cons, List.length_nil, Nat.le_refl, if_true, List.getElem?_cons_zero, List.getElem?_cons_succ, List.getD_cons_zero, List.getD_cons_succ, extrF_tup, binF_add, binF_sub, binF_mul, binF_eql, binF_neq, binF_lss, binF_leq, binF_gtr, binF_geq, true_and]
  refine hcell H 0 _ (Heap.le_refl _) (by omega) ?_
  try simp only [letO_some, cellsOf?_agg, cellsOf?_int, cellsOf?_bool, cellsOf?_imm, cellsOf?_ref, cellsOf?_nils, faddr_iptr, faddr_ptr, List.drop_succ_cons, List.drop_zero, List.take_succ_cons, List.take_zero, load1_iptr, loadN_iptr, List.length_cons, List.length_nil, Nat.le_refl, if_true, List.getElem?_cons_zero, List.getElem?_cons_succ, List.getD_cons_zero, List.getD_cons_succ, extrF_tup, binF_add, binF_sub, binF_mul, binF_eql, binF_neq, binF_lss, binF_leq, binF_gtr, binF_geq, true_and, hu.len]
  refine ⟨fun L H' => ∃ i : Nat, eqt L [.int .i64 (leastK t p i), .int .i64 i] ∧ 1 ≤ i ∧ i ≤ p.length ∧ eqt H' H, fun L _ => (p.length - iv L 1).toNat, ⟨1, by rw [leastK_one]; rfl, by omega, by omega, rfl⟩, ?_⟩
  rintro L H' ⟨i, rfl, h1, hi, rfl⟩
  try simp only [letO_some, cellsOf?_agg, cellsOf?_int, cellsOf?_bool, cellsOf?_imm, cellsOf?_ref, cellsOf?_nils, faddr_iptr, faddr_ptr, List.drop_succ_cons, List.drop_zero, List.take_succ_cons, List.take_zero, load1_iptr, loadN_iptr, List.length_cons, List.length_nil, Nat.le_refl, if_true, List.getElem?_cons_zero, List.getElem?_cons_succ, List.getD_cons_zero, List.getD_cons_succ, extrF_tup, binF_add, binF_sub, binF_mul, binF_eql, binF_neq, binF_lss, binF_leq, binF_gtr, binF_geq, true_and]
  refine condA_t (fun hlt => ?_) (fun hge => ?_)
  · refine hcell H' i _ (Heap.le_refl _) (by omega) ?_
    try simp only [min2F, letO_some, cellsOf?_agg, cellsOf?_int, cellsOf?_bool, cellsOf?_imm, cellsOf?_ref, cellsOf?_nils, faddr_iptr, faddr_ptr, List.drop_succ_cons, List.drop_zero, List.take_succ_cons, List.take_zero, load1_iptr, loadN_iptr, List.length_cons, List.length_nil, Nat.le_refl, if_true, List.getElem?_cons_zero, List.getElem?_cons_succ, List.getD_cons_zero, List.getD_cons_succ, extrF_tup, binF_add, binF_sub, binF_mul, binF_eql, binF_neq, binF_lss, binF_leq, binF_gtr, binF_geq, true_and]
    rw [wrap_i64 (by omega) (by omega)]
    exact ⟨⟨i + 1, rfl, by omega, by omega, rfl⟩, by simp <;> omega⟩
  · have hie : i = p.length := by omega
    subst hie
    exact endK_ret hk
theorem leastK_le {t : Tb} {p : List Int} : ∀ (i : Nat), ∀ r, r < i → leastK t p i ≤ cell t r (p.getD r 0).toNat
  | 0, r, h => by omega
  | i + 1, r, h => by
    unfold leastK
    by_cases hr : r = i
    · subst hr; split <;> omega
    · have := leastK_le (t := t) (p := p) i r (by omega)
      split <;> omega
theorem leastK_in {t : Tb} {p : List Int} : ∀ (i : Nat), 1 ≤ i → ∃ r, r < i ∧ leastK t p i = cell t r (p.getD r 0).toNat
  | 0, h => by omega
  | 1, h => ⟨0, by omega, by rw [leastK_one]; rfl⟩
  | i + 2, h => by
    obtain ⟨r, h1, h2⟩ := leastK_in (t := t) (p := p) (i + 1) (by omega)
    rw [leastK]
    split
    · exact ⟨i + 1, by omega, rfl⟩
    · exact ⟨r, by omega, h2⟩
theorem zeroAt_iff {t : Tb} : ∀ (p : List Int) (r : Nat), zeroAt t r p = true ↔ ∃ i, i < p.length ∧ cell t (r + i) (p.getD i 0).toNat = 0
  | [], r => by simp [zeroAt]
  | c :: p, r => by
    rw [zeroAt, Bool.or_eq_true, zeroAt_iff p (r + 1)]
    constructor
    · rintro (h | ⟨i, h1, h2⟩)
      · exact ⟨0, by simp, by simpa using h⟩
      · exact ⟨i + 1, by simp; omega, by rw [List.getD_cons_succ, show r + (i + 1) = r + 1 + i by omega]; exact h2⟩
    · rintro ⟨i, h1, h2⟩
      cases i with
      | zero => exact .inl (by simpa using h2)
      | succ i => exact .inr ⟨i, by simpa using h1, by rw [List.getD_cons_succ, show r + (i + 1) = r + 1 + i by omega] at h2; exact h2⟩
theorem least_zero {t : Tb} (hc : chkT t = 0) {p : List Int} (hp : 1 ≤ p.length) : leastK t p p.length = 0 ↔ zeroAt t 0 p = true := by
  rw [zeroAt_iff]
  constructor
  · intro h
    obtain ⟨r, h1, h2⟩ := leastK_in (t := t) (p := p) p.length hp
    exact ⟨r, h1, by rw [Nat.zero_add, ← h2, h]⟩
  · rintro ⟨i, h1, h2⟩
    rw [Nat.zero_add] at h2
    have := leastK_le (t := t) (p := p) p.length i h1
    obtain ⟨r, h3, h4⟩ := leastK_in (t := t) (p := p) p.length hp
    have := (cell_rng hc r (p.getD r 0).toNat).1
    omega
/-- ref.Within -/
theorem c33 {v u : AV} {t : Tbl} {p : List Int} {H : Heap} {K : AV → Heap → Prop} (hv : RT H v t) (hu : Reads H u p) (hl : t.length < 2 ^ 63) (hl2 : ∀ l ∈ t, l.length < 2 ^ 63) (hl3 : p.length < 2 ^ 63) (hk : K (.int .i64 (withE t p)) H) : ACalls Tryd.prog 33 [v, u] H K := by
  apply W33_ok
  unfold W33
  try simp only [letO_some, cellsOf?_agg, cellsOf?_int, cellsOf?_bool, cellsOf?_imm, cellsOf?_ref, cellsOf?_nils, faddr_iptr, faddr_ptr, List.drop_succ_cons, List.drop_zero, List.take_succ_cons, List.take_zero, load1_iptr, loadN_iptr, List.length_cons, List.length_nil, Nat.le_refl, if_true, List.getElem?_cons_zero, List.getElem?_cons_succ, List.getD_cons_zero, List.getD_cons_succ, extrF_tup, binF_add, binF_sub, binF_mul, binF_eql, binF_neq, binF_lss, binF_leq, binF_gtr, binF_geq, true_and]
  refine c31 hv hl hl2 ?_
  try simp only [letO_some, cellsOf?_agg, cellsOf?_int, cellsOf?_bool, cellsOf?_imm, cellsOf?_ref, cellsOf?_nils, faddr_iptr, faddr_ptr, List.drop_succ_cons, List.drop_zero, List.take_succ_cons, List.take_zero, load1_iptr, loadN_iptr, List.length_cons, List.length_nil, Nat.le_refl, if_true, List.getElem?_cons_zero, List.getElem?_cons_succ, List.getD_cons_zero, List.getD_cons_succ, extrF_tup, binF_add, binF_sub, binF_mul, binF_eql, binF_neq, binF_lss, binF_leq, binF_gtr, binF_geq, true_and]
  refine ⟨fun L H' => eqt L [.int .i64 (if chkT t ≠ 0 then chkT t else planE t.length p)] ∧ eqt H' H, ?_, ?_⟩
  · by_cases hc : chkT t = 0
    · have e1 : (chkT t == 0) = true := by rw [hc]; rfl
      simp only [e1, condA_tt, hv.len, letO_some]
      refine c80 hu hl3 ?_
      try simp only [letO_some, cellsOf?_agg, cellsOf?_int, cellsOf?_bool, cellsOf?_imm, cellsOf?_ref, cellsOf?_nils, faddr_iptr, faddr_ptr, List.drop_succ_cons, List.drop_zero, List.take_succ_cons, List.take_zero, load1_iptr, loadN_iptr, List.length_cons, List.length_nil, Nat.le_refl, if_true, List.getElem?_cons_zero, List.getElem?_cons_succ, List.getD_cons_zero, List.getD_cons_succ, extrF_tup, binF_add, binF_sub, binF_mul, binF_eql, binF_neq, binF_lss, binF_leq, binF_gtr, binF_geq, true_and]
      rw [if_neg (by simp [hc])]
      exact ⟨rfl, rfl⟩
    · have e1 : (chkT t == 0) = false := by rw [beq_eq_false_iff_ne]; exact hc
      simp only [e1, condA_ff]
      rw [if_pos hc]
      exact ⟨rfl, rfl⟩
  rintro L H' ⟨rfl, rfl⟩
  try simp only [letO_some, cellsOf?_agg, cellsOf?_int, cellsOf?_bool, cellsOf?_imm, cellsOf?_ref, cellsOf?_nils, faddr_iptr, faddr_ptr, List.drop_succ_cons, List.drop_zero, List.take_succ_cons, List.take_zero, load1_iptr, loadN_iptr, List.length_cons, List.length_nil, Nat.le_refl, if_true, List.getElem?_cons_zero, List.getElem?_cons_succ, List.getD_cons_zero, List.getD_cons_succ, extrF_tup, binF_add, binF_sub, binF_mul, binF_eql, binF_neq, binF_lss, binF_leq, binF_gtr, binF_geq, true_and]
  refine ⟨fun L H'' => eqt L [.int .i64 (withE t p)] ∧ eqt H'' H', ?_, ?_⟩
  · by_cases hx : (if chkT t ≠ 0 then chkT t else planE t.length p) = 0
    · have hc : chkT t = 0 := by
        by_cases hc : chkT t = 0
        · exact hc
        · rw [if_pos hc] at hx; exact hx
      rw [if_neg (by simp [hc])] at hx
      have hpl : p.length = t.length ∧ planS t.length [] p = 0 := by
        have := hx
        unfold planE at this
        split at this
        · cases this
        · exact ⟨by omega, this⟩
      have n1 := (chkT_ok hc).1
      simp only [hc, hx, ne_eq, not_true_eq_false, if_false, beq_self_eq_true, gval_bool, Int.reduceBNe, Int.reduceBEq, pickF_true, pickF_false, reduceIte, Bool.true_eq_false, Bool.false_eq_true, if_false, condA_tt, condA_ff, condG_tt, condG_ff, condG_tt', condG_ff', condG_undef, gval_undef, letO_some, cellsOf?_agg, cellsOf?_int, cellsOf?_bool, cellsOf?_imm, cellsOf?_ref, cellsOf?_nils, faddr_iptr, faddr_ptr, List.drop_succ_cons, List.drop_zero, List.take_succ_cons, List.take_zero, load1_iptr, loadN_iptr, List.length_cons, List.length_nil, Nat.le_refl, if_true, List.getElem?_cons_zero, List.getElem?_cons_succ, List.getD_cons_zero, List.getD_cons_succ, extrF_tup, binF_add, binF_sub, binF_mul, binF_eql, binF_neq, binF_lss, binF_leq, binF_gtr, binF_geq, true_and]
      refine exJ ?_
      refine c81 hc hv hu hpl.1 (planS_rng hpl.2) ?_
      try simp only [gval_bool, Int.reduceBNe, Int.reduceBEq, pickF_true, pickF_false, reduceIte, Bool.true_eq_false, Bool.false_eq_true, if_false, condA_tt, condA_ff, condG_tt, condG_ff, condG_tt', condG_ff', condG_undef, gval_undef, letO_some, cellsOf?_agg, cellsOf?_int, cellsOf?_bool, cellsOf?_imm, cellsOf?_ref, cellsOf?_nils, faddr_iptr, faddr_ptr, List.drop_succ_cons, List.drop_zero, List.take_succ_cons, List.take_zero, load1_iptr, loadN_iptr, List.length_cons, List.length_nil, Nat.le_refl, if_true, List.getElem?_cons_zero, List.getElem?_cons_succ, List.getD_cons_zero, List.getD_cons_succ, extrF_tup, binF_add, binF_sub, binF_mul, binF_eql, binF_neq, binF_lss, binF_leq, binF_gtr, binF_geq, true_and]
      rw [withE, if_neg (by simp [hc]), if_neg (by simp [hx])]
      by_cases hz : leastK t p p.length = 0
      · have e : (leastK t p p.length == 0) = true := by rw [hz]; rfl
        rw [if_pos ((least_zero hc (by omega)).1 hz)]
        simp only [e, condA_tt]
        exact ⟨rfl, rfl⟩
      · have e : (leastK t p p.length == 0) = false := by rw [beq_eq_false_iff_ne]; exact hz
        rw [if_neg fun h => hz ((least_zero hc (by omega)).2 h)]
        simp only [e, condA_ff]
        rw [← hx]
        exact ⟨rfl, rfl⟩
    · have e1 : ((if chkT t ≠ 0 then chkT t else planE t.length p) == 0) = false := by rw [beq_eq_false_iff_ne]; exact hx
      simp only [e1, gval_bool, Int.reduceBNe, Int.reduceBEq, pickF_true, pickF_false, reduceIte, Bool.true_eq_false, Bool.false_eq_true, if_false, condA_tt, condA_ff, condG_tt, condG_ff, condG_tt', condG_ff', condG_undef, gval_undef, letO_some, cellsOf?_agg, cellsOf?_int, cellsOf?_bool, cellsOf?_imm, cellsOf?_ref, cellsOf?_nils, faddr_iptr, faddr_ptr, List.drop_succ_cons, List.drop_zero, List.take_succ_cons, List.take_zero, load1_iptr, loadN_iptr, List.length_cons, List.length_nil, Nat.le_refl, if_true, List.getElem?_cons_zero, List.getElem?_cons_succ, List.getD_cons_zero, List.getD_cons_succ, extrF_tup, binF_add, binF_sub, binF_mul, binF_eql, binF_neq, binF_lss, binF_leq, binF_gtr, binF_geq, true_and]
      refine exU ?_
      try simp only [gval_bool, Int.reduceBNe, Int.reduceBEq, pickF_true, pickF_false, reduceIte, Bool.true_eq_false, Bool.false_eq_true, if_false, condA_tt, condA_ff, condG_tt, condG_ff, condG_tt', condG_ff', condG_undef, gval_undef, letO_some, cellsOf?_agg, cellsOf?_int, cellsOf?_bool, cellsOf?_imm, cellsOf?_ref, cellsOf?_nils, faddr_iptr, faddr_ptr, List.drop_succ_cons, List.drop_zero, List.take_succ_cons, List.take_zero, load1_iptr, loadN_iptr, List.length_cons, List.length_nil, Nat.le_refl, if_true, List.getElem?_cons_zero, List.getElem?_cons_succ, List.getD_cons_zero, List.getD_cons_succ, extrF_tup, binF_add, binF_sub, binF_mul, binF_eql, binF_neq, binF_lss, binF_leq, binF_gtr, binF_geq, true_and]
      refine ⟨?_, rfl⟩
      unfold eqt
      congr 2
      rw [withE]
      by_cases hc : chkT t = 0
      · rw [if_neg (by simp [hc])] at hx
        rw [if_neg (by simp [hc]), if_neg (by simp [hc]), if_pos hx]
      · rw [if_pos hc, if_pos hc]
  · rintro L H'' ⟨rfl, rfl⟩
    try simp only [letO_some, cellsOf?_agg, cellsOf?_int, cellsOf?_bool, cellsOf?_imm, cellsOf?_ref, cellsOf?_nils, faddr_iptr, faddr_ptr, List.drop_succ_cons, List.drop_zero, List.take_succ_cons, List.take_zero, load1_iptr, loadN_iptr, List.length_cons, List.length_nil, Nat.le_refl, if_true, List.getElem?_cons_zero, List.getElem?_cons_succ, List.getD_cons_zero, List.getD_cons_succ, extrF_tup, binF_add, binF_sub, binF_mul, binF_eql, binF_neq, binF_lss, binF_leq, binF_gtr, binF_geq, true_and]
    exact endK_ret hk
/-- large -/
theorem c16 {v : AV} {t : Tbl} {H : Heap} {K : AV → Heap → Prop} (hv : RT H v t) (hl : t.length < 2 ^ 63) (hk : ∀ b : Bool, (b = false → t.length ≤ 20 ∧ ∀ l ∈ t, l.length ≤ 20) → K (.bool b) H) : ACalls Tryd.prog 16 [v] H K := by
  apply W16_ok
  unfold W16
  simp only [letO_some, cellsOf?_agg, cellsOf?_int, cellsOf?_bool, cellsOf?_imm, cellsOf?_ref, cellsOf?_nils, faddr_iptr, faddr_ptr, List.drop_succ_cons, List.drop_zero, List.take_succ_cons, List.take_zero, load1_iptr, loadN_iptr, List.length_cons, List.length_nil, Nat.le_refl, if_true, List.getElem?_cons_zero, List.getElem?_cons_succ, List.getD_cons_zero, List.getD_cons_succ, extrF_tup, binF_add, binF_sub, binF_mul, binF_eql, binF_neq, binF_lss, binF_leq, binF_gtr, binF_geq, true_and, hv.len]
  refine condA_t (fun hlt => endK_ret (hk true (by simp))) (fun hge => ?_)
  refine ⟨fun L H' => ∃ i : Nat, eqt L [.int .i64 i] ∧ i ≤ t.length ∧ eqt H' H ∧ ∀ l ∈ t.take i, l.length ≤ 20, fun L _ => (t.length - iv L 0).toNat, ⟨0, rfl, by omega, rfl, by simp⟩, ?_⟩
  rintro L H' ⟨i, rfl, hi, rfl, he⟩
  try simp only [letO_some, cellsOf?_agg, cellsOf?_int, cellsOf?_bool, cellsOf?_imm, cellsOf?_ref, cellsOf?_nils, faddr_iptr, faddr_ptr, List.drop_succ_cons, List.drop_zero, List.take_succ_cons, List.take_zero, load1_iptr, loadN_iptr, List.length_cons, List.length_nil, Nat.le_refl, if_true, List.getElem?_cons_zero, List.getElem?_cons_succ, List.getD_cons_zero, List.getD_cons_succ, extrF_tup, binF_add, binF_sub, binF_mul, binF_eql, binF_neq, binF_lss, binF_leq, binF_gtr, binF_geq, true_and]
  refine condA_t (fun hlt => ?_) (fun hge2 => ?_)
  · refine hv.get (Heap.le_refl _) (by omega) (by omega) fun a ha => ?_
    rw [Int.toNat_natCast] at ha
    have a1 : i < t.length := by omega
    have g1 : t.getD i [] = t[i] := by simp [List.getD_eq_getElem?_getD, a1]
    rw [g1] at ha
    simp only [ha.len, letO_some, cellsOf?_agg, cellsOf?_int, cellsOf?_bool, cellsOf?_imm, cellsOf?_ref, cellsOf?_nils, faddr_iptr, faddr_ptr, List.drop_succ_cons, List.drop_zero, List.take_succ_cons, List.take_zero, load1_iptr, loadN_iptr, List.length_cons, List.length_nil, Nat.le_refl, if_true, List.getElem?_cons_zero, List.getElem?_cons_succ, List.getD_cons_zero, List.getD_cons_succ, extrF_tup, binF_add, binF_sub, binF_mul, binF_eql, binF_neq, binF_lss, binF_leq, binF_gtr, binF_geq, true_and]
    refine condA_t (fun hlt => endK_ret (hk true (by simp))) (fun hge3 => ?_)
    rw [wrap_i64 (by omega) (by omega)]
    refine ⟨⟨i + 1, rfl, by omega, rfl, fun l hl => ?_⟩, by simp <;> omega⟩
    rw [List.take_add_one, List.getElem?_eq_getElem a1] at hl
    rcases List.mem_append.1 hl with hl | hl
    · exact he l hl
    · simp at hl; subst hl; omega
  · have hie : i = t.length := by omega
    subst hie
    rw [List.take_length] at he
    exact endK_ret (hk false fun _ => ⟨by omega, he⟩)
end Go.Proofs.YtbofkeoebnjjkaaDoor

namespace Go.Proofs.YtbofkeoebnjjkaaDoor
open Go.Av Tab
set_option linter.unusedVariables false
set_option linter.unusedSimpArgs false
set_option maxRecDepth 4000

/-- All ways to go on with a plan. -/
def ext (n : Nat) : Nat → List Nat → List (List Nat)
  | 0, _ => [[]]
  | f + 1, E => (List.range n).flatMap fun c => if c ∈ E then [] else (ext n f (E ++ [c])).map (c :: ·)
def extTo (n f : Nat) (E : List Nat) (m : Nat) : List (List Nat) := (List.range m).flatMap fun c => if c ∈ E then [] else (ext n f (E ++ [c])).map (c :: ·)
theorem extTo_succ (n f : Nat) (E : List Nat) (m : Nat) : extTo n f E (m + 1) = extTo n f E m ++ if m ∈ E then [] else (ext n f (E ++ [m])).map (m :: ·) := by
  simp [extTo, List.range_succ]
theorem extTo_len {n f B : Nat} {E : List Nat} (h : ∀ c, (ext n f (E ++ [c])).length ≤ B) (m : Nat) : (extTo n f E m).length ≤ m * B := by
  induction m with
  | zero => simp [extTo]
  | succ m ih =>
    rw [extTo_succ, List.length_append, Nat.add_mul, Nat.one_mul]
    have := h m
    split
    · simp; omega
    · simp; omega
theorem ext_len {n : Nat} : ∀ (f : Nat) (E : List Nat), (ext n f E).length ≤ n ^ f
  | 0, E => by simp [ext]
  | f + 1, E => by
    have := extTo_len (n := n) (E := E) (fun c => ext_len f (E ++ [c])) n
    rw [Nat.pow_succ, Nat.mul_comm]
    exact this
/-- What 'plans' gives. -/
def plV (n f : Nat) (E : List Nat) (x : AV) : AV :=
  if f = 0 then .imm 1 false [x] else .imm (ext n f E).length false ((ext n f E).map fun G => sl (up (E ++ G)))
theorem mem_up {c : Nat} {E : List Nat} : (c : Int) ∈ up E ↔ c ∈ E := by
  simp only [up, List.mem_map]
  constructor
  · rintro ⟨a, h1, h2⟩
    obtain rfl : a = c := by omega
    exact h1
  · intro h; exact ⟨c, h, rfl⟩
/-- ref.plans -/
theorem c76 {n : Nat} (hn : n ≤ 4) : ∀ (f : Nat) (E : List Nat) (x : AV) (H : Heap) (K : AV → Heap → Prop), Reads H x (up E) → E.length + f = n →
    K (plV n f E x) H → ACalls Tryd.prog 76 [.int .i64 n, x] H K := by
  intro f
  induction f with
  | zero =>
    intro E x H K hx he hk
    apply W76_ok
    unfold W76
    have hxl := hx.len
    rw [up_length] at hxl
    have e1 : ((E.length : Int) == (n : Int)) = true := by rw [← he]; exact beq_self_eq_true _
    simp only [letO_some, cellsOf?_agg, cellsOf?_int, cellsOf?_bool, cellsOf?_imm, cellsOf?_ref, cellsOf?_nils, faddr_iptr, faddr_ptr, List.drop_succ_cons, List.drop_zero, List.take_succ_cons, List.take_zero, load1_iptr, loadN_iptr, List.length_cons, List.length_nil, Nat.le_refl, if_true, List.getElem?_cons_zero, List.getElem?_cons_succ, List.getD_cons_zero, List.getD_cons_succ, extrF_tup, binF_add, binF_sub, binF_mul, binF_eql, binF_neq, binF_lss, binF_leq, binF_gtr, binF_geq, true_and, hxl, e1, condA_tt, l22 hx.cells]
    rw [plV, if_pos rfl] at hk
    exact endK_weak (endK_ret hk)
  | succ f ih =>
    intro E x H K hx he hk
    apply W76_ok
    unfold W76
    have hxl := hx.len
    rw [up_length] at hxl
    have e1 : ((E.length : Int) == (n : Int)) = false := by rw [beq_eq_false_iff_ne]; omega
    simp only [letO_some, cellsOf?_agg, cellsOf?_int, cellsOf?_bool, cellsOf?_imm, cellsOf?_ref, cellsOf?_nils, faddr_iptr, faddr_ptr, List.drop_succ_cons, List.drop_zero, List.take_succ_cons, List.take_zero, load1_iptr, loadN_iptr, List.length_cons, List.length_nil, Nat.le_refl, if_true, List.getElem?_cons_zero, List.getElem?_cons_succ, List.getD_cons_zero, List.getD_cons_succ, extrF_tup, binF_add, binF_sub, binF_mul, binF_eql, binF_neq, binF_lss, binF_leq, binF_gtr, binF_geq, true_and, hxl, e1, condA_ff]
    rw [plV, if_neg (by omega)] at hk
    have hB : ∀ c, (ext n f (E ++ [c])).length ≤ 4 ^ 4 := fun c => by
      have h1 := ext_len (n := n) f (E ++ [c])
      have h2 : n ^ f ≤ 4 ^ f := Nat.pow_le_pow_left hn f
      have h3 : 4 ^ f ≤ 4 ^ 4 := Nat.pow_le_pow_right (by decide) (by omega)
      omega
    refine ⟨fun L H' => ∃ (m : Nat) (X : AV) (xs : List AV) (H1 : Heap), eqt L [X, .int .i64 m] ∧ m ≤ n ∧ H.le H1 ∧ Grow 1 H1 H' X xs.length xs ∧ ∀ H2, H1.le H2 → xs.map (conv H H2 1) = (extTo n f E m).map fun G => sl (up (E ++ G)), fun L _ => (n - iv L 1).toNat,
      ⟨0, .nils, [], H, rfl, by omega, Heap.le_refl _, Grow.nils 1 H, fun _ _ => by simp [extTo]⟩, ?_⟩
    intro L H' hI
    obtain ⟨m, X, xs, H1, rfl, hm, hle1, hg, hxs⟩ := hI
    have hleH : H.le H' := Heap.le_trans hle1 hg.le
    have hxslen : xs.length = (extTo n f E m).length := by
      have := congrArg List.length (hxs H1 (Heap.le_refl _)); simpa using this
    have hxb := extTo_len (n := n) (f := f) (E := E) hB m
    try simp only [letO_some, cellsOf?_agg, cellsOf?_int, cellsOf?_bool, cellsOf?_imm, cellsOf?_ref, cellsOf?_nils, faddr_iptr, faddr_ptr, List.drop_succ_cons, List.drop_zero, List.take_succ_cons, List.take_zero, load1_iptr, loadN_iptr, List.length_cons, List.length_nil, Nat.le_refl, if_true, List.getElem?_cons_zero, List.getElem?_cons_succ, List.getD_cons_zero, List.getD_cons_succ, extrF_tup, binF_add, binF_sub, binF_mul, binF_eql, binF_neq, binF_lss, binF_leq, binF_gtr, binF_geq, true_and]
    refine condA_t (fun hlt => ?_) (fun hgt => ?_)
    · have hmn : m < n := by omega
      have hxb2 : m * 4 ^ 4 ≤ 4 * 4 ^ 4 := Nat.mul_le_mul_right _ (by omega)
      refine ⟨fun L H'' => ∃ (X : AV) (xs : List AV) (H1 : Heap), eqt L [X] ∧ H.le H1 ∧ Grow 1 H1 H'' X xs.length xs ∧ ∀ H2, H1.le H2 → xs.map (conv H H2 1) = (extTo n f E (m + 1)).map fun G => sl (up (E ++ G)), ?_, ?_⟩
      · refine c89 (hx.le hleH) (by rw [up_length]; omega) ?_
        try simp only [not_v, letO_some, cellsOf?_agg, cellsOf?_int, cellsOf?_bool, cellsOf?_imm, cellsOf?_ref, cellsOf?_nils, faddr_iptr, faddr_ptr, List.drop_succ_cons, List.drop_zero, List.take_succ_cons, List.take_zero, load1_iptr, loadN_iptr, List.length_cons, List.length_nil, Nat.le_refl, if_true, List.getElem?_cons_zero, List.getElem?_cons_succ, List.getD_cons_zero, List.getD_cons_succ, extrF_tup, binF_add, binF_sub, binF_mul, binF_eql, binF_neq, binF_lss, binF_leq, binF_gtr, binF_geq, true_and]
        by_cases hin : m ∈ E
        · have e2 : decide ((m : Int) ∈ up E) = true := decide_eq_true (mem_up.2 hin)
          simp only [e2, Bool.not_true, condA_ff]
          have hx2 := extTo_succ n f E m
          rw [if_pos hin, List.append_nil] at hx2
          refine ⟨X, xs, H1, rfl, hle1, hg, ?_⟩
          rw [hx2]; exact hxs
        · have e2 : decide ((m : Int) ∈ up E) = false := decide_eq_false (fun h => hin (mem_up.1 h))
          simp only [e2, Bool.not_false, condA_tt, l23n, l23 cellsOf?_int, letO_some]
          refine appendA_grow (Grow.imm (H := H') (sz := 1) (n := 0) (cells := []) rfl) (reads_src (hx.le hleH)) (by simp [ints, isScalar]) (by simp) (by rw [up_length]; omega) (by rw [up_length]; omega) fun t36 H12 g36 => ?_
          rw [List.nil_append, Nat.zero_add, up_length] at g36
          refine appendA_oneR g36 (by omega) fun t39 H13 g39 o39 => ?_
          have hup : up E ++ [(m : Int)] = up (E ++ [m]) := by simp [up]
          rw [hup] at g39
          have hr39 := g39.reads
          obtain ⟨b13, hb13, rfl, rfl⟩ := g39.own o39
          have hle13 : H'.le (H'.put b13 (ints (up (E ++ [m])))) := Heap.le_put_self hb13
          refine ih (E ++ [m]) _ _ _ hr39 (by simp; omega) ?_
          have hb1 := fresh_of hg.le hb13
          have hbH := fresh_of hle1 hb1
          have hgX := alloc_grow (cs := ints (up (E ++ [m]))) hg hb13
          have hx2 := extTo_succ n f E m
          rw [if_neg hin] at hx2
          have hle1' : H.le (H1.put b13 (ints (up (E ++ [m])))) := Heap.le_trans hle1 (Heap.le_put_self hb1)
          by_cases hf0 : f = 0
          · subst hf0
            have hallv : plV n 0 (E ++ [m]) (.ref 1 b13 0 (E.length + 1) none) = .imm 1 false [.ref 1 b13 0 (E.length + 1) none] := by rw [plV, if_pos rfl]
            rw [hallv]
            refine appendA_grow hgX (m := 1) (new := [.ref 1 b13 0 (E.length + 1) none]) (by simp [srcOf]) rfl rfl (by omega) (by omega) fun v' H14 g14 => ?_
            refine ⟨v', xs ++ [.ref 1 b13 0 (E.length + 1) none], _, rfl, hle1', by simpa using g14, fun H2 hle2 => ?_⟩
            rw [List.map_append, hxs H2 (Heap.le_trans (Heap.le_put_self hb1) hle2), hx2, List.map_append]
            have := conv_own (l := up (E ++ [m])) hbH (hle2 _ _ Heap.put_same) 0 (n := E.length + 1) (by simp [up])
            simp only [ext, List.map_cons, List.map_nil]
            rw [this]
          · have hallv : plV n f (E ++ [m]) (.ref 1 b13 0 (E.length + 1) none) = .imm (ext n f (E ++ [m])).length false ((ext n f (E ++ [m])).map fun G => sl (up (E ++ [m] ++ G))) := by rw [plV, if_neg hf0]
            rw [hallv]
            have hBj := hB m
            refine appendA_grow hgX (m := (ext n f (E ++ [m])).length) (new := (ext n f (E ++ [m])).map fun G => sl (up (E ++ [m] ++ G))) (by simp [srcOf]) (by simp [isScalar, sl]) (by simp) (by omega) (by omega) fun v' H14 g14 => ?_
            refine ⟨v', xs ++ (ext n f (E ++ [m])).map fun G => sl (up (E ++ [m] ++ G)), _, rfl, hle1', by simpa using g14, fun H2 hle2 => ?_⟩
            rw [List.map_append, hxs H2 (Heap.le_trans (Heap.le_put_self hb1) hle2), hx2, List.map_append, List.map_map, List.map_map]
            congr 1
            refine List.map_congr_left fun G _ => ?_
            simp only [Function.comp, conv_sl]
            rw [List.append_assoc, List.singleton_append]
      · rintro L H'' ⟨X', xs', H1', rfl, h1, h2, h3⟩
        try simp only [letO_some, cellsOf?_agg, cellsOf?_int, cellsOf?_bool, cellsOf?_imm, cellsOf?_ref, cellsOf?_nils, faddr_iptr, faddr_ptr, List.drop_succ_cons, List.drop_zero, List.take_succ_cons, List.take_zero, load1_iptr, loadN_iptr, List.length_cons, List.length_nil, Nat.le_refl, if_true, List.getElem?_cons_zero, List.getElem?_cons_succ, List.getD_cons_zero, List.getD_cons_succ, extrF_tup, binF_add, binF_sub, binF_mul, binF_eql, binF_neq, binF_lss, binF_leq, binF_gtr, binF_geq, true_and]
        rw [wrap_i64 (by omega) (by omega)]
        exact ⟨⟨m + 1, X', xs', H1', rfl, by omega, h1, h2, h3⟩, by simp <;> omega⟩
    · have hm' : m = n := by omega
      subst hm'
      refine endK_all hleH 2 ?_
      rw [conv_grow hg hle1, hxs H' hg.le, hxslen]
      exact hk
/-- All plans of so many rows. -/
def plansS (n : Nat) : List (List Nat) := ext n n []
theorem c76n {n : Nat} {H : Heap} {K : AV → Heap → Prop} (hn : 1 ≤ n ∧ n ≤ 4) (hk : K (tl ((plansS n).map up)) H) : ACalls Tryd.prog 76 [.int .i64 n, .nils] H K := by
  refine c76 hn.2 n [] .nils H K rfl (by simp) ?_
  rw [plV, if_neg (by omega)]
  have e : (.imm (ext n n []).length false ((ext n n []).map fun G => sl (up ([] ++ G))) : AV) = tl ((plansS n).map up) := by
    simp [tl, plansS, Function.comp_def]
  rw [e]; exact hk
theorem ext_mem {n : Nat} : ∀ (f : Nat) (E G : List Nat), G ∈ ext n f E → G.length = f ∧ ∀ c ∈ G, c < n
  | 0, E, G, h => by simp [ext] at h; subst h; simp
  | f + 1, E, G, h => by
    simp only [ext, List.mem_flatMap, List.mem_range] at h
    obtain ⟨c, hc, h⟩ := h
    split at h
    · simp at h
    · obtain ⟨G', h1, rfl⟩ := List.mem_map.1 h
      obtain ⟨h2, h3⟩ := ext_mem f _ _ h1
      refine ⟨by simp [h2], fun x hx => ?_⟩
      rcases List.mem_cons.1 hx with rfl | hx
      · exact hc
      · exact h3 x hx
theorem plansS_mem {n : Nat} {p : List Nat} (h : p ∈ plansS n) : p.length = n ∧ ∀ c ∈ p, c < n := ext_mem n [] p h
theorem plansS_len {n : Nat} (hn : n ≤ 4) : (plansS n).length ≤ 256 := by
  have := ext_len (n := n) n []
  have h2 : n ^ n ≤ 4 ^ n := Nat.pow_le_pow_left hn n
  have h3 : 4 ^ n ≤ 4 ^ 4 := Nat.pow_le_pow_right (by decide) (by omega)
  unfold plansS
  omega
/-- The plans within a table. -/
def withinS (t : Tb) : List (List Nat) := (plansS t.length).filter fun p => decide (0 < leastK t (up p) t.length)
/-- ref.within -/
theorem c74 {v : AV} {t : Tbl} {H : Heap} {K : AV → Heap → Prop} (hc : chkT t = 0) (hv : RT H v t) (hk : K (tl ((withinS t).map up)) H) : ACalls Tryd.prog 74 [v] H K := by
  apply W74_ok
  unfold W74
  obtain ⟨n1, n2, hrows⟩ := chkT_ok hc
  simp only [letO_some, cellsOf?_agg, cellsOf?_int, cellsOf?_bool, cellsOf?_imm, cellsOf?_ref, cellsOf?_nils, faddr_iptr, faddr_ptr, List.drop_succ_cons, List.drop_zero, List.take_succ_cons, List.take_zero, load1_iptr, loadN_iptr, List.length_cons, List.length_nil, Nat.le_refl, if_true, List.getElem?_cons_zero, List.getElem?_cons_succ, List.getD_cons_zero, List.getD_cons_succ, extrF_tup, binF_add, binF_sub, binF_mul, binF_eql, binF_neq, binF_lss, binF_leq, binF_gtr, binF_geq, true_and, hv.len]
  refine c76n ⟨n1, n2⟩ ?_
  have hPl := plansS_len n2
  have hPR : RT H (tl ((plansS t.length).map up)) ((plansS t.length).map up) := RT.tl _ _
  have hPL : ((plansS t.length).map up).length = (plansS t.length).length := by simp
  generalize hP : plansS t.length = P at *
  simp only [letO_some, cellsOf?_agg, cellsOf?_int, cellsOf?_bool, cellsOf?_imm, cellsOf?_ref, cellsOf?_nils, faddr_iptr, faddr_ptr, List.drop_succ_cons, List.drop_zero, List.take_succ_cons, List.take_zero, load1_iptr, loadN_iptr, List.length_cons, List.length_nil, Nat.le_refl, if_true, List.getElem?_cons_zero, List.getElem?_cons_succ, List.getD_cons_zero, List.getD_cons_succ, extrF_tup, binF_add, binF_sub, binF_mul, binF_eql, binF_neq, binF_lss, binF_leq, binF_gtr, binF_geq, true_and, hPR.len]
  refine ⟨fun L H' => ∃ (i : Nat) (X : AV), eqt L [X, .int .i64 i] ∧ i ≤ P.length ∧ ∃ xs, Grow 1 H H' X xs.length xs ∧ xs = ((P.take i).filter fun p => decide (0 < leastK t (up p) t.length)).map fun p => sl (up p), fun L _ => (P.length - iv L 1).toNat, ⟨0, .nils, rfl, by omega, [], Grow.nils 1 H, by simp⟩, ?_⟩
  rintro L H' ⟨i, X, rfl, hi, xs, hg, rfl⟩
  have hle := hg.le
  rw [List.length_map] at hg
  try simp only [letO_some, cellsOf?_agg, cellsOf?_int, cellsOf?_bool, cellsOf?_imm, cellsOf?_ref, cellsOf?_nils, faddr_iptr, faddr_ptr, List.drop_succ_cons, List.drop_zero, List.take_succ_cons, List.take_zero, load1_iptr, loadN_iptr, List.length_cons, List.length_nil, Nat.le_refl, if_true, List.getElem?_cons_zero, List.getElem?_cons_succ, List.getD_cons_zero, List.getD_cons_succ, extrF_tup, binF_add, binF_sub, binF_mul, binF_eql, binF_neq, binF_lss, binF_leq, binF_gtr, binF_geq, true_and]
  refine condA_t (fun hlt => ?_) (fun hge => ?_)
  · have a1 : i < P.length := by omega
    have g1 : (P.map up).getD i [] = up P[i] := by simp [List.getD_eq_getElem?_getD, a1]
    have hpm : P[i] ∈ plansS t.length := by rw [hP]; exact List.getElem_mem a1
    obtain ⟨hpl, hpn⟩ := plansS_mem hpm
    have hget : ∀ (H' : Heap) (k : AV → Prop), k (sl (up P[i])) → letO (idx 1 (tl (P.map up)) (.int .i64 (i : Int))) fun q => letO (load1 q H') k := by
      intro H' k hk
      refine ReadsC.get (Heap.le_refl _) (n := P.length) (cells := (P.map up).map sl) ⟨by simp, by simp [tl]⟩ (x := sl (up P[i])) (by omega) (by omega) ?_ hk
      simp [a1]
    refine ⟨fun L H'' => ∃ X', eqt L [X'] ∧ ∃ xs, Grow 1 H H'' X' xs.length xs ∧ xs = ((P.take (i + 1)).filter fun p => decide (0 < leastK t (up p) t.length)).map fun p => sl (up p), ?_, ?_⟩
    · refine hget _ _ ?_
      refine c81 hc (hv.le hle) (Reads.sl _ _) (by rw [up_length, hpl]) (fun c hcm => ?_) ?_
      · obtain ⟨x, hx, rfl⟩ := List.mem_map.1 hcm
        have := hpn x hx; omega
      try simp only [letO_some, cellsOf?_agg, cellsOf?_int, cellsOf?_bool, cellsOf?_imm, cellsOf?_ref, cellsOf?_nils, faddr_iptr, faddr_ptr, List.drop_succ_cons, List.drop_zero, List.take_succ_cons, List.take_zero, load1_iptr, loadN_iptr, List.length_cons, List.length_nil, Nat.le_refl, if_true, List.getElem?_cons_zero, List.getElem?_cons_succ, List.getD_cons_zero, List.getD_cons_succ, extrF_tup, binF_add, binF_sub, binF_mul, binF_eql, binF_neq, binF_lss, binF_leq, binF_gtr, binF_geq, true_and]
      rw [up_length, hpl]
      have hstep : ((P.take (i + 1)).filter fun p => decide (0 < leastK t (up p) t.length)) = ((P.take i).filter fun p => decide (0 < leastK t (up p) t.length)) ++ if 0 < leastK t (up P[i]) t.length then [P[i]] else [] := by
        rw [List.take_add_one, List.getElem?_eq_getElem a1, List.filter_append]
        by_cases h : 0 < leastK t (up P[i]) t.length <;> simp [h]
      have hfl : ((P.take i).filter fun p => decide (0 < leastK t (up p) t.length)).length ≤ 256 := by
        refine Nat.le_trans (List.length_filter_le _ _) ?_
        rw [List.length_take]; omega
      refine condA_t (fun hpos => ?_) (fun hnp => ?_)
      · refine hget _ _ ?_
        simp only [l22 (show cellsOf? (sl (up P[i])) = some [sl (up P[i])] from rfl), letO_some]
        refine appendA_grow hg (m := 1) (new := [sl (up P[i])]) (by simp [srcOf]) rfl rfl (by omega) (by omega) fun v' H14 g14 => ?_
        refine ⟨v', rfl, _, ?_, rfl⟩
        rw [hstep, if_pos (by omega)]
        simpa using g14
      · refine ⟨X, rfl, _, ?_, rfl⟩
        rw [hstep, if_neg (by omega)]
        simpa using hg
    · rintro L H'' ⟨X', rfl, xs, h1, rfl⟩
      try simp only [letO_some, cellsOf?_agg, cellsOf?_int, cellsOf?_bool, cellsOf?_imm, cellsOf?_ref, cellsOf?_nils, faddr_iptr, faddr_ptr, List.drop_succ_cons, List.drop_zero, List.take_succ_cons, List.take_zero, load1_iptr, loadN_iptr, List.length_cons, List.length_nil, Nat.le_refl, if_true, List.getElem?_cons_zero, List.getElem?_cons_succ, List.getD_cons_zero, List.getD_cons_succ, extrF_tup, binF_add, binF_sub, binF_mul, binF_eql, binF_neq, binF_lss, binF_leq, binF_gtr, binF_geq, true_and]
      rw [wrap_i64 (by omega) (by omega)]
      exact ⟨⟨i + 1, X', rfl, by omega, _, h1, rfl⟩, by simp <;> omega⟩
  · have hie : i = P.length := by omega
    subst hie
    rw [List.take_length] at hg
    refine hg.end1 ?_
    have e : (.imm (P.filter fun p => decide (0 < leastK t (up p) t.length)).length false ((P.filter fun p => decide (0 < leastK t (up p) t.length)).map fun p => sl (up p)) : AV) = tl ((withinS t).map up) := by
      simp [tl, withinS, hP, Function.comp_def]
    rw [e]; exact hk
/-- ref.First -/
theorem c21 {v : AV} {t : Tbl} {H : Heap} {K : AV → Heap → Prop} (hv : RT H v t) (hl : t.length < 2 ^ 63) (hl2 : ∀ l ∈ t, l.length < 2 ^ 63)
    (hk : ∀ a, Reads H a (if chkT t ≠ 0 then [] else match withinS t with | [] => [] | p :: _ => up p) → K (.tup [a, .int .i64 (if chkT t ≠ 0 then chkT t else match withinS t with | [] => 12 | _ => 0)]) H) : ACalls Tryd.prog 21 [v] H K := by
  apply W21_ok
  unfold W21
  try simp only [letO_some, cellsOf?_agg, cellsOf?_int, cellsOf?_bool, cellsOf?_imm, cellsOf?_ref, cellsOf?_nils, faddr_iptr, faddr_ptr, List.drop_succ_cons, List.drop_zero, List.take_succ_cons, List.take_zero, load1_iptr, loadN_iptr, List.length_cons, List.length_nil, Nat.le_refl, if_true, List.getElem?_cons_zero, List.getElem?_cons_succ, List.getD_cons_zero, List.getD_cons_succ, extrF_tup, binF_add, binF_sub, binF_mul, binF_eql, binF_neq, binF_lss, binF_leq, binF_gtr, binF_geq, true_and]
  refine c31 hv hl hl2 ?_
  try simp only [letO_some, cellsOf?_agg, cellsOf?_int, cellsOf?_bool, cellsOf?_imm, cellsOf?_ref, cellsOf?_nils, faddr_iptr, faddr_ptr, List.drop_succ_cons, List.drop_zero, List.take_succ_cons, List.take_zero, load1_iptr, loadN_iptr, List.length_cons, List.length_nil, Nat.le_refl, if_true, List.getElem?_cons_zero, List.getElem?_cons_succ, List.getD_cons_zero, List.getD_cons_succ, extrF_tup, binF_add, binF_sub, binF_mul, binF_eql, binF_neq, binF_lss, binF_leq, binF_gtr, binF_geq, true_and]
  by_cases hc : chkT t = 0
  · have e1 : (chkT t != 0) = false := by rw [hc]; rfl
    simp only [e1, condA_ff, letO_some]
    rw [if_neg (by simp [hc]), if_neg (by simp [hc])] at hk
    refine c74 hc hv ?_
    have hL := (RT.tl H ((withinS t).map up)).len
    simp only [letO_some, cellsOf?_agg, cellsOf?_int, cellsOf?_bool, cellsOf?_imm, cellsOf?_ref, cellsOf?_nils, faddr_iptr, faddr_ptr, List.drop_succ_cons, List.drop_zero, List.take_succ_cons, List.take_zero, load1_iptr, loadN_iptr, List.length_cons, List.length_nil, Nat.le_refl, if_true, List.getElem?_cons_zero, List.getElem?_cons_succ, List.getD_cons_zero, List.getD_cons_succ, extrF_tup, binF_add, binF_sub, binF_mul, binF_eql, binF_neq, binF_lss, binF_leq, binF_gtr, binF_geq, true_and, hL]
    cases hw : withinS t with
    | nil =>
      have e2 : ((([] : List (List Nat)).map up).length : Int) = 0 := rfl
      rw [e2]
      simp only [beq_self_eq_true, condA_tt]
      rw [hw] at hk
      exact endK_ret (hk .nils rfl)
    | cons p r =>
      have e2 : ((((p :: r).map up).length : Int) == 0) = false := by rw [beq_eq_false_iff_ne]; simp; omega
      simp only [e2, condA_ff]
      rw [hw] at hk
      have : (tl ((p :: r).map up)) = .imm (r.length + 1) false (sl (up p) :: r.map fun p => sl (up p)) := by simp [tl, Function.comp_def]
      rw [this]
      refine ReadsC.get (H := H) (v := .imm (r.length + 1) false (sl (up p) :: r.map fun p => sl (up p))) (Heap.le_refl _) (n := r.length + 1) (cells := sl (up p) :: r.map fun p => sl (up p)) ⟨by simp, rfl, rfl⟩ (x := sl (up p)) (by omega) (by omega) rfl ?_
      try simp only [letO_some, cellsOf?_agg, cellsOf?_int, cellsOf?_bool, cellsOf?_imm, cellsOf?_ref, cellsOf?_nils, faddr_iptr, faddr_ptr, List.drop_succ_cons, List.drop_zero, List.take_succ_cons, List.take_zero, load1_iptr, loadN_iptr, List.length_cons, List.length_nil, Nat.le_refl, if_true, List.getElem?_cons_zero, List.getElem?_cons_succ, List.getD_cons_zero, List.getD_cons_succ, extrF_tup, binF_add, binF_sub, binF_mul, binF_eql, binF_neq, binF_lss, binF_leq, binF_gtr, binF_geq, true_and]
      exact endK_ret (hk _ (Reads.sl _ _))
  · have e1 : (chkT t != 0) = true := by simp [hc]
    simp only [e1, condA_tt, letO_some]
    rw [if_pos hc, if_pos hc] at hk
    exact endK_ret (hk .nils rfl)
/-- ref.Count -/
theorem c23 {v : AV} {t : Tbl} {H : Heap} {K : AV → Heap → Prop} (hv : RT H v t) (hl : t.length < 2 ^ 63) (hl2 : ∀ l ∈ t, l.length < 2 ^ 63)
    (hk : K (.tup [.int .i64 (if chkT t ≠ 0 then 0 else (withinS t).length), .int .i64 (chkT t)]) H) : ACalls Tryd.prog 23 [v] H K := by
  apply W23_ok
  unfold W23
  try simp only [letO_some, cellsOf?_agg, cellsOf?_int, cellsOf?_bool, cellsOf?_imm, cellsOf?_ref, cellsOf?_nils, faddr_iptr, faddr_ptr, List.drop_succ_cons, List.drop_zero, List.take_succ_cons, List.take_zero, load1_iptr, loadN_iptr, List.length_cons, List.length_nil, Nat.le_refl, if_true, List.getElem?_cons_zero, List.getElem?_cons_succ, List.getD_cons_zero, List.getD_cons_succ, extrF_tup, binF_add, binF_sub, binF_mul, binF_eql, binF_neq, binF_lss, binF_leq, binF_gtr, binF_geq, true_and]
  refine c31 hv hl hl2 ?_
  try simp only [letO_some, cellsOf?_agg, cellsOf?_int, cellsOf?_bool, cellsOf?_imm, cellsOf?_ref, cellsOf?_nils, faddr_iptr, faddr_ptr, List.drop_succ_cons, List.drop_zero, List.take_succ_cons, List.take_zero, load1_iptr, loadN_iptr, List.length_cons, List.length_nil, Nat.le_refl, if_true, List.getElem?_cons_zero, List.getElem?_cons_succ, List.getD_cons_zero, List.getD_cons_succ, extrF_tup, binF_add, binF_sub, binF_mul, binF_eql, binF_neq, binF_lss, binF_leq, binF_gtr, binF_geq, true_and]
  by_cases hc : chkT t = 0
  · have e1 : (chkT t != 0) = false := by rw [hc]; rfl
    simp only [e1, condA_ff, letO_some]
    rw [if_neg (by simp [hc]), hc] at hk
    refine c74 hc hv ?_
    have hL := (RT.tl H ((withinS t).map up)).len
    simp only [letO_some, cellsOf?_agg, cellsOf?_int, cellsOf?_bool, cellsOf?_imm, cellsOf?_ref, cellsOf?_nils, faddr_iptr, faddr_ptr, List.drop_succ_cons, List.drop_zero, List.take_succ_cons, List.take_zero, load1_iptr, loadN_iptr, List.length_cons, List.length_nil, Nat.le_refl, if_true, List.getElem?_cons_zero, List.getElem?_cons_succ, List.getD_cons_zero, List.getD_cons_succ, extrF_tup, binF_add, binF_sub, binF_mul, binF_eql, binF_neq, binF_lss, binF_leq, binF_gtr, binF_geq, true_and, hL, List.length_map]
    exact endK_ret hk
  · have e1 : (chkT t != 0) = true := by simp [hc]
    simp only [e1, condA_tt, letO_some]
    rw [if_pos hc] at hk
    exact endK_ret hk
end Go.Proofs.YtbofkeoebnjjkaaDoor

namespace Go.Proofs.YtbofkeoebnjjkaaDoor
open Tab
set_option linter.unusedVariables false
set_option linter.unusedSimpArgs false
set_option maxRecDepth 20000

/- Plans, each with a number of its own among those before: at most (n - 1) (n - 1) + 1. -/
def dimN (n : Nat) : Nat := (n - 1) * (n - 1) + 1
/-- A plan as bits: 1, and those of the first rows and columns. -/
def kap (n : Nat) (p : List Nat) : Nat := 1 + ((List.range (n - 1)).map fun r => if p.getD r 0 < n - 1 then 2 ^ (1 + (n - 1) * r + p.getD r 0) else 0).sum
def msk (n r c : Nat) : Nat :=
  if r < n - 1 then
    if c < n - 1 then 2 ^ (1 + (n - 1) * r + c) else 1 + ((List.range (n - 1)).map fun c => 2 ^ (1 + (n - 1) * r + c)).sum
  else if c < n - 1 then 1 + ((List.range (n - 1)).map fun r => 2 ^ (1 + (n - 1) * r + c)).sum
  else n % 2 + ((List.range ((n - 1) * (n - 1))).map fun i => 2 ^ (1 + i)).sum
/-- The parity of the common bits. -/
def par : Nat → Nat → Nat → Bool
  | 0, _, _ => false
  | w + 1, x, m => (x.testBit w && m.testBit w) ^^ par w x m
theorem kap_ok : ∀ n : Fin 5, ∀ p ∈ plansS n.val, kap n.val p < 2 ^ dimN n.val ∧ ∀ r : Fin 4, ∀ c : Fin 4, r.val < n.val → c.val < n.val → par 10 (kap n.val p) (msk n.val r.val c.val) = decide (p.getD r.val 0 = c.val) := by decide +kernel
theorem par_xor (m : Nat) : ∀ w x y, par w (x ^^^ y) m = (par w x m ^^ par w y m)
  | 0, _, _ => rfl
  | w + 1, x, y => by
    rw [par, par, par, par_xor m w x y, Nat.testBit_xor]
    generalize x.testBit w = a; generalize y.testBit w = b; generalize m.testBit w = c; generalize par w x m = d; generalize par w y m = e
    revert a b c d e; decide
theorem par_zero (m : Nat) : ∀ w, par w 0 m = false
  | 0 => rfl
  | w + 1 => by rw [par, par_zero m w, Nat.zero_testBit]; rfl
/-- Plans, each with a number that none after it has. -/
def Tri (n : Nat) : List ((Nat × Nat) × List Nat) → Prop
  | [] => True
  | x :: l => (x.2 ∈ plansS n ∧ x.1.1 < n ∧ x.1.2 < n ∧ x.2.getD x.1.1 0 = x.1.2 ∧ ∀ y ∈ l, y.2.getD x.1.1 0 ≠ x.1.2) ∧ Tri n l
def xsum (n : Nat) : List Bool → List ((Nat × Nat) × List Nat) → Nat
  | b :: S, x :: l => (if b = true then kap n x.2 else 0) ^^^ xsum n S l
  | _, _ => 0
theorem xsum_par {n : Nat} (hn : n ≤ 4) {r c : Nat} (hr : r < n) (hc : c < n) : ∀ (S : List Bool) (l : List ((Nat × Nat) × List Nat)), (∀ y ∈ l, y.2 ∈ plansS n ∧ y.2.getD r 0 ≠ c) → par 10 (xsum n S l) (msk n r c) = false
  | [], l, _ => by cases l <;> exact par_zero _ _
  | b :: S, [], _ => par_zero _ _
  | b :: S, x :: l, h => by
    rw [xsum, par_xor, xsum_par hn hr hc S l fun y hy => h y (by simp [hy])]
    obtain ⟨h1, h2⟩ := h x (by simp)
    cases b
    · rw [if_neg (by decide), par_zero]; rfl
    · have := ((kap_ok ⟨n, by omega⟩ x.2 h1).2 ⟨r, by omega⟩ ⟨c, by omega⟩ hr hc)
      simp only at this
      rw [if_pos rfl, this, decide_eq_false h2]; rfl
theorem Tri.plans {n : Nat} : ∀ {l : List ((Nat × Nat) × List Nat)}, Tri n l → ∀ y ∈ l, y.2 ∈ plansS n
  | x :: l, h, y, hy => by
    rcases List.mem_cons.1 hy with rfl | hy
    · exact h.1.1
    · exact h.2.plans y hy
theorem xsum_lt {n : Nat} (hn : n ≤ 4) : ∀ (S : List Bool) (l : List ((Nat × Nat) × List Nat)), (∀ y ∈ l, y.2 ∈ plansS n) → xsum n S l < 2 ^ dimN n
  | [], l, _ => by cases l <;> exact Nat.two_pow_pos _
  | b :: S, [], _ => Nat.two_pow_pos _
  | b :: S, x :: l, h => by
    rw [xsum]
    refine Nat.xor_lt_two_pow ?_ (xsum_lt hn S l fun y hy => h y (by simp [hy]))
    split
    · exact (kap_ok ⟨n, by omega⟩ x.2 (h x (by simp))).1
    · exact Nat.two_pow_pos _
theorem xor_can {a x y : Nat} (h : a ^^^ x = a ^^^ y) : x = y := by
  have : a ^^^ (a ^^^ x) = a ^^^ (a ^^^ y) := by rw [h]
  rwa [← Nat.xor_assoc, ← Nat.xor_assoc, Nat.xor_self, Nat.zero_xor, Nat.zero_xor] at this
theorem xsum_inj {n : Nat} (hn : n ≤ 4) : ∀ {l : List ((Nat × Nat) × List Nat)}, Tri n l → ∀ {S S' : List Bool}, S.length = l.length → S'.length = l.length → xsum n S l = xsum n S' l → S = S'
  | [], _, S, S', h, h', _ => by
    rw [List.length_nil, List.length_eq_zero_iff] at h h'; rw [h, h']
  | x :: l, ht, b :: S, b' :: S', h, h', he => by
    obtain ⟨⟨t1, t2, t3, t4, t5⟩, tt⟩ := ht
    rw [xsum, xsum] at he
    have hz : ∀ S, par 10 (xsum n S l) (msk n x.1.1 x.1.2) = false := fun S => xsum_par hn t2 t3 S l fun y hy => ⟨tt.plans y hy, t5 y hy⟩
    have hone : par 10 (kap n x.2) (msk n x.1.1 x.1.2) = true := by
      have := (kap_ok ⟨n, by omega⟩ x.2 t1).2 ⟨x.1.1, by omega⟩ ⟨x.1.2, by omega⟩ t2 t3
      simp only at this
      rw [this]; exact decide_eq_true t4
    have hb : ∀ b S, par 10 ((if b = true then kap n x.2 else 0) ^^^ xsum n S l) (msk n x.1.1 x.1.2) = b := by
      intro b S
      rw [par_xor, hz]
      cases b
      · rw [if_neg (by decide), par_zero]; rfl
      · rw [if_pos rfl, hone]; rfl
    have hbb : b = b' := by rw [← hb b S, ← hb b' S', he]
    subst hbb
    rw [xsum_inj hn tt (by simpa using h) (by simpa using h') (xor_can he)]
def bls : Nat → List (List Bool)
  | 0 => [[]]
  | k + 1 => (bls k).map (false :: ·) ++ (bls k).map (true :: ·)
theorem bls_length : ∀ k, (bls k).length = 2 ^ k
  | 0 => rfl
  | k + 1 => by rw [bls, List.length_append, List.length_map, List.length_map, bls_length k]; omega
theorem bls_mem : ∀ {k : Nat} {S : List Bool}, S ∈ bls k → S.length = k
  | 0, S, h => by simp [bls] at h; rw [h]; rfl
  | k + 1, S, h => by
    rw [bls, List.mem_append] at h
    rcases h with h | h <;> (obtain ⟨S', h1, rfl⟩ := List.mem_map.1 h; rw [List.length_cons, bls_mem h1])
theorem bls_pw : ∀ k, (bls k).Pairwise (· ≠ ·)
  | 0 => by simp [bls]
  | k + 1 => by
    rw [bls, List.pairwise_append]
    have h := bls_pw k
    refine ⟨List.pairwise_map.2 (h.imp fun h1 h2 => h1 (List.cons.inj h2).2), List.pairwise_map.2 (h.imp fun h1 h2 => h1 (List.cons.inj h2).2), ?_⟩
    intro a ha b hb he
    obtain ⟨a', _, rfl⟩ := List.mem_map.1 ha
    obtain ⟨b', _, rfl⟩ := List.mem_map.1 hb
    cases (List.cons.inj he).1
theorem pw_lt : ∀ (N : Nat) (l : List Nat), l.Pairwise (· ≠ ·) → (∀ x ∈ l, x < N) → l.length ≤ N
  | 0, [], _, _ => Nat.le_refl _
  | 0, x :: l, _, h => absurd (h x (by simp)) (Nat.not_lt_zero _)
  | N + 1, l, hp, h => by
    have h1 := pw_lt N (l.erase N) (hp.sublist List.erase_sublist) fun x hx => by
      have hx1 := h x (List.mem_of_mem_erase hx)
      have hne : x ≠ N := by
        rintro rfl
        exact (List.Nodup.mem_erase_iff hp).1 hx |>.1 rfl
      omega
    by_cases hm : N ∈ l
    · rw [List.length_erase_of_mem hm] at h1; omega
    · rw [List.erase_of_not_mem hm] at h1; omega
/-- At most so many. -/
theorem Tri.bound {n : Nat} (hn : n ≤ 4) {l : List ((Nat × Nat) × List Nat)} (h : Tri n l) : l.length ≤ dimN n := by
  have h1 := pw_lt (2 ^ dimN n) ((bls l.length).map fun S => xsum n S l) (by
    rw [List.pairwise_map]
    refine List.Pairwise.imp_of_mem ?_ (bls_pw l.length)
    intro a b ha hb hne he
    exact hne (xsum_inj hn h (bls_mem ha) (bls_mem hb) he)) (fun x hx => by
    obtain ⟨S, _, rfl⟩ := List.mem_map.1 hx
    exact xsum_lt hn S l h.plans)
  rw [List.length_map, bls_length] at h1
  exact (Nat.pow_le_pow_iff_right (by decide)).1 h1
end Go.Proofs.YtbofkeoebnjjkaaDoor

namespace Go.Proofs.YtbofkeoebnjjkaaDoor
open Go.Av Tab
set_option linter.unusedVariables false
set_option linter.unusedSimpArgs false
set_option maxRecDepth 4000

/-- A list of rows that is being built: nothing, or a block of one's own. -/
def BT (H H' : Heap) (X : AV) (t : Tbl) : Prop := (X = .nils ∧ H' = H ∧ t = []) ∨ ∃ bo cells, X = .ref 1 bo 0 t.length none ∧ PT H H' bo cells t
theorem BT.nil (H : Heap) : BT H H .nils [] := .inl ⟨rfl, rfl, rfl⟩
theorem BT.le {H H' : Heap} {X : AV} {t : Tbl} (h : BT H H' X t) : H.le H' := by
  rcases h with ⟨_, rfl, _⟩ | ⟨_, _, _, hP⟩
  · exact Heap.le_refl _
  · exact hP.le
theorem BT.rt {H H' : Heap} {X : AV} {t : Tbl} (h : BT H H' X t) : RT H' X t := by
  rcases h with ⟨rfl, rfl, rfl⟩ | ⟨bo, cells, rfl, hP⟩
  · exact ⟨[], ⟨rfl, rfl⟩, fun r hr => by simp at hr⟩
  · exact hP.rt none
theorem BT.push {H H' : Heap} {X : AV} {t : Tbl} {l : List Int} {b n : Nat} {cp : Option Nat} {K : AV → Heap → Prop} (h : BT H H' X t) (hne : ∀ l ∈ t, l ≠ []) (hb : H' b = none) (hn : n = l.length) (hlen : t.length < 1000000)
    (hk : ∀ X' H7, BT H H7 X' (t ++ [l]) → K X' H7) : appendA 1 24 X (.imm 1 true [.ref 1 b 0 n cp]) K (H'.put b (ints l)) := by
  subst hn
  have key : ∀ (Hx : Heap) (cells : List AV) (X : AV), PR H Hx cells t → Hx b = none → Grow 1 (Hx.put b (ints l)) (H'.put b (ints l)) X t.length cells → appendA 1 24 X (.imm 1 true [.ref 1 b 0 l.length cp]) K (H'.put b (ints l)) := by
    intro Hx cells X hPR hbx hg
    refine appendA_growR hg (m := 1) (new := [.ref 1 b 0 l.length cp]) (by simp [srcOf]) rfl rfl (by omega) (by omega) (by omega) fun v2 H2 hg2 ho2 => ?_
    obtain ⟨b2, hb2, rfl, rfl⟩ := hg2.own ho2
    have hP1 := hPR.push (l := l) (cp := cp) hbx
    have hP2 := hP1.pt hb2
    refine hk _ _ (.inr ⟨b2, _, ?_, hP2⟩)
    rw [List.length_append]; rfl
  rcases h with ⟨rfl, rfl, rfl⟩ | ⟨bo, cells, rfl, hP⟩
  · exact key H' [] .nils (PR.nil H') hb (Grow.nils 1 _)
  · have hbo : b ≠ bo := by rintro rfl; rw [hP.out] at hb; cases hb
    refine key (H'.del bo) cells _ (hP.pr hne) (by simp only [Heap.del, if_neg hbo]; exact hb) ?_
    have hd : ((H'.del bo).put b (ints l)) bo = none := by rw [Heap.put_ne (Ne.symm hbo)]; simp [Heap.del]
    have hput : H'.put b (ints l) = ((H'.del bo).put b (ints l)).put bo cells := by
      funext y
      simp only [Heap.put, Heap.del]
      by_cases hy : y = bo
      · subst hy; rw [if_pos rfl, if_neg (Ne.symm hbo)]; exact hP.out
      · rw [if_neg hy, if_neg hy]
    have := Grow.ref (sz := 1) (H := (H'.del bo).put b (ints l)) (b := bo) (n := t.length) (cells := cells) hd (by rw [hP.len]; simp)
    rwa [← hput] at this
/-- Published, with a number behind it. -/
theorem BT.end2 {H H' : Heap} {X : AV} {t : Tbl} {k : IntKind} {x : Int} {K : AV → Heap → Prop} (h : BT H H' X t) (hk : K (.tup [tl t, .int k x]) H) : endK (.tup [X, .int k x]) H' K := by
  rcases h with ⟨rfl, rfl, rfl⟩ | ⟨bo, cells, rfl, hP⟩
  · exact Grow.end2 (Grow.nils 1 H') hk
  · refine endK_all hP.le 3 ?_
    show K (.tup [conv H H' 2 (.ref 1 bo 0 t.length none), .int k x]) H
    rw [hP.pub none 0]; exact hk
theorem BT.end1 {H H' : Heap} {X : AV} {t : Tbl} {K : AV → Heap → Prop} (h : BT H H' X t) (hk : K (tl t) H) : endK X H' K := by
  rcases h with ⟨rfl, rfl, rfl⟩ | ⟨bo, cells, rfl, hP⟩
  · exact (Grow.nils 1 H').end1 hk
  · refine endK_all hP.le 2 ?_
    rw [hP.pub none 0]; exact hk
/-- ref.Turn -/
theorem c28 {v : AV} {t : Tbl} {H : Heap} {K : AV → Heap → Prop} (hv : RT H v t) (hl : t.length < 2 ^ 63) (hl2 : ∀ l ∈ t, l.length < 2 ^ 63) (hk : K (.tup [tl (if chkT t ≠ 0 then [] else turnE t), .int .i64 (chkT t)]) H) : ACalls Tryd.prog 28 [v] H K := by
  apply W28_ok
  unfold W28
  try simp only [letO_some, cellsOf?_agg, cellsOf?_int, cellsOf?_bool, cellsOf?_imm, cellsOf?_ref, cellsOf?_nils, faddr_iptr, faddr_ptr, List.drop_succ_cons, List.drop_zero, List.take_succ_cons, List.take_zero, load1_iptr, loadN_iptr, List.length_cons, List.length_nil, Nat.le_refl, if_true, List.getElem?_cons_zero, List.getElem?_cons_succ, List.getD_cons_zero, List.getD_cons_succ, extrF_tup, binF_add, binF_sub, binF_mul, binF_eql, binF_neq, binF_lss, binF_leq, binF_gtr, binF_geq, true_and]
  refine c31 hv hl hl2 ?_
  try simp only [letO_some, cellsOf?_agg, cellsOf?_int, cellsOf?_bool, cellsOf?_imm, cellsOf?_ref, cellsOf?_nils, faddr_iptr, faddr_ptr, List.drop_succ_cons, List.drop_zero, List.take_succ_cons, List.take_zero, load1_iptr, loadN_iptr, List.length_cons, List.length_nil, Nat.le_refl, if_true, List.getElem?_cons_zero, List.getElem?_cons_succ, List.getD_cons_zero, List.getD_cons_succ, extrF_tup, binF_add, binF_sub, binF_mul, binF_eql, binF_neq, binF_lss, binF_leq, binF_gtr, binF_geq, true_and]
  by_cases hc : chkT t = 0
  · have e1 : (chkT t != 0) = false := by rw [hc]; rfl
    simp only [e1, condA_ff]
    rw [if_neg (by simp [hc]), hc] at hk
    obtain ⟨n1, n2, hrows⟩ := chkT_ok hc
    have hTl : ∀ i, ((turnE t).take i).length ≤ 4 := fun i => by rw [List.length_take, turnE_length]; omega
    have hTm : ∀ l ∈ turnE t, l.length = t.length := by
      intro l hl
      obtain ⟨k, hk, rfl⟩ := List.mem_map.1 hl
      simp
    simp only [hv.len, letO_some]
    refine ⟨fun L H' => ∃ (i : Nat) (X : AV), eqt L [X, .int .i64 i] ∧ i ≤ t.length ∧ BT H H' X ((turnE t).take i), fun L _ => (t.length - iv L 1).toNat, ⟨0, .nils, rfl, by omega, BT.nil H⟩, ?_⟩
    rintro L H' ⟨i, X, rfl, hi, hB⟩
    have hle := hB.le
    try simp only [letO_some, cellsOf?_agg, cellsOf?_int, cellsOf?_bool, cellsOf?_imm, cellsOf?_ref, cellsOf?_nils, faddr_iptr, faddr_ptr, List.drop_succ_cons, List.drop_zero, List.take_succ_cons, List.take_zero, load1_iptr, loadN_iptr, List.length_cons, List.length_nil, Nat.le_refl, if_true, List.getElem?_cons_zero, List.getElem?_cons_succ, List.getD_cons_zero, List.getD_cons_succ, extrF_tup, binF_add, binF_sub, binF_mul, binF_eql, binF_neq, binF_lss, binF_leq, binF_gtr, binF_geq, true_and]
    refine condA_t (fun hlt => ?_) (fun hge => ?_)
    · have a1 : i < t.length := by omega
      refine ⟨fun L H'' => ∃ (j : Nat) (Y : AV), eqt L [Y, .int .i64 j] ∧ j ≤ t.length ∧ Grow 1 H' H'' Y j (ints ((List.range j).map fun r => cell t r i)) ∧ (0 < j → isOwn Y), fun L _ => (t.length - iv L 1).toNat, ⟨0, .nils, rfl, by omega, Grow.nils 1 H', by omega⟩, ?_⟩
      rintro L H'' ⟨j, Y, rfl, hj, hg, ho⟩
      try simp only [letO_some, cellsOf?_agg, cellsOf?_int, cellsOf?_bool, cellsOf?_imm, cellsOf?_ref, cellsOf?_nils, faddr_iptr, faddr_ptr, List.drop_succ_cons, List.drop_zero, List.take_succ_cons, List.take_zero, load1_iptr, loadN_iptr, List.length_cons, List.length_nil, Nat.le_refl, if_true, List.getElem?_cons_zero, List.getElem?_cons_succ, List.getD_cons_zero, List.getD_cons_succ, extrF_tup, binF_add, binF_sub, binF_mul, binF_eql, binF_neq, binF_lss, binF_leq, binF_gtr, binF_geq, true_and]
      refine condA_t (fun hlt2 => ?_) (fun hge2 => ?_)
      · have b1 : j < t.length := by omega
        have l2 : (t.getD j []).length = t.length := row_len hc b1
        refine hv.get (Heap.le_trans hle hg.le) (by omega) (by omega) fun a ha => ?_
        rw [Int.toNat_natCast] at ha
        try simp only [letO_some, cellsOf?_agg, cellsOf?_int, cellsOf?_bool, cellsOf?_imm, cellsOf?_ref, cellsOf?_nils, faddr_iptr, faddr_ptr, List.drop_succ_cons, List.drop_zero, List.take_succ_cons, List.take_zero, load1_iptr, loadN_iptr, List.length_cons, List.length_nil, Nat.le_refl, if_true, List.getElem?_cons_zero, List.getElem?_cons_succ, List.getD_cons_zero, List.getD_cons_succ, extrF_tup, binF_add, binF_sub, binF_mul, binF_eql, binF_neq, binF_lss, binF_leq, binF_gtr, binF_geq, true_and]
        refine ha.get (Heap.le_trans hle hg.le) (by omega) (by omega) ?_
        rw [Int.toNat_natCast, show (t.getD j []).getD i 0 = cell t j i from rfl]
        simp only [l23 cellsOf?_int, letO_some]
        refine appendA_oneR hg (by omega) fun v' H3 hg3 ho3 => ?_
        rw [wrap_i64 (by omega) (by omega)]
        refine ⟨⟨j + 1, v', rfl, by omega, ?_, fun _ => ho3⟩, by simp <;> omega⟩
        rw [List.range_succ, List.map_append]
        exact hg3
      · have hje : j = t.length := by omega
        subst hje
        obtain ⟨b, hb, rfl, rfl⟩ := hg.own (ho (by omega))
        simp only [l22 cellsOf?_ref, letO_some]
        refine hB.push (l := (List.range t.length).map fun r => cell t r i) (fun l hl => ?_) hb (by simp) (by have := hTl i; omega) fun X' H7 hB7 => ?_
        · have := hTm l (List.mem_of_mem_take hl)
          intro h; rw [h] at this; simp at this; omega
        · rw [wrap_i64 (by omega) (by omega)]
          refine ⟨⟨i + 1, X', rfl, by omega, ?_⟩, by simp <;> omega⟩
          have e : (turnE t).take (i + 1) = (turnE t).take i ++ [(List.range t.length).map fun r => cell t r i] := by
            rw [List.take_add_one]
            simp [turnE, a1]
          rw [e]; exact hB7
    · have hie : i = t.length := by omega
      subst hie
      rw [List.take_of_length_le (by simp)] at hB
      exact hB.end2 hk
  · have e1 : (chkT t != 0) = true := by simp [hc]
    simp only [e1, condA_tt]
    rw [if_pos hc] at hk
    exact endK_weak (endK_ret hk)
/-- The product of the numbers at a plan. -/
def prodK (t : Tb) (p : List Nat) : Nat → Int
  | 0 => 1
  | i + 1 => prodK t p i * cell t i (p.getD i 0)
theorem prodK_bd {t : Tb} (hc : chkT t = 0) (p : List Nat) : ∀ i, 0 ≤ prodK t p i ∧ prodK t p i ≤ 9 ^ i
  | 0 => by simp [prodK]
  | i + 1 => by
    obtain ⟨h1, h2⟩ := prodK_bd hc p i
    obtain ⟨h3, h4⟩ := cell_rng hc i (p.getD i 0)
    rw [prodK, Int.pow_succ]
    refine ⟨Int.mul_nonneg h1 h3, ?_⟩
    exact Int.mul_le_mul h2 h4 h3 (Int.pow_nonneg (by decide))
def sumP (t : Tb) (l : List (List Nat)) : Int := (l.map fun p => prodK t p t.length).sum
theorem sumP_bd {t : Tb} (hc : chkT t = 0) (l : List (List Nat)) : 0 ≤ sumP t l ∧ sumP t l ≤ 6561 * l.length := by
  obtain ⟨n1, n2, hrows⟩ := chkT_ok hc
  have h9 : (9 : Int) ^ t.length ≤ 6561 := by
    have hp : t.length = 1 ∨ t.length = 2 ∨ t.length = 3 ∨ t.length = 4 := by omega
    rcases hp with h | h | h | h <;> rw [h] <;> decide
  induction l with
  | nil => simp [sumP]
  | cons p l ih =>
    have := prodK_bd hc p t.length
    simp only [sumP, List.map_cons, List.sum_cons, List.length_cons] at ih ⊢
    omega
/-- ref.Weight -/
theorem c26 {v : AV} {t : Tbl} {H : Heap} {K : AV → Heap → Prop} (hv : RT H v t) (hl : t.length < 2 ^ 63) (hl2 : ∀ l ∈ t, l.length < 2 ^ 63)
    (hk : K (.tup [.int .i64 (if chkT t ≠ 0 then 0 else sumP t (plansS t.length)), .int .i64 (chkT t)]) H) : ACalls Tryd.prog 26 [v] H K := by
  apply W26_ok
  unfold W26
  try simp only [letO_some, cellsOf?_agg, cellsOf?_int, cellsOf?_bool, cellsOf?_imm, cellsOf?_ref, cellsOf?_nils, faddr_iptr, faddr_ptr, List.drop_succ_cons, List.drop_zero, List.take_succ_cons, List.take_zero, load1_iptr, loadN_iptr, List.length_cons, List.length_nil, Nat.le_refl, if_true, List.getElem?_cons_zero, List.getElem?_cons_succ, List.getD_cons_zero, List.getD_cons_succ, extrF_tup, binF_add, binF_sub, binF_mul, binF_eql, binF_neq, binF_lss, binF_leq, binF_gtr, binF_geq, true_and]
  refine c31 hv hl hl2 ?_
  try simp only [letO_some, cellsOf?_agg, cellsOf?_int, cellsOf?_bool, cellsOf?_imm, cellsOf?_ref, cellsOf?_nils, faddr_iptr, faddr_ptr, List.drop_succ_cons, List.drop_zero, List.take_succ_cons, List.take_zero, load1_iptr, loadN_iptr, List.length_cons, List.length_nil, Nat.le_refl, if_true, List.getElem?_cons_zero, List.getElem?_cons_succ, List.getD_cons_zero, List.getD_cons_succ, extrF_tup, binF_add, binF_sub, binF_mul, binF_eql, binF_neq, binF_lss, binF_leq, binF_gtr, binF_geq, true_and]
  by_cases hc : chkT t = 0
  · have e1 : (chkT t != 0) = false := by rw [hc]; rfl
    simp only [e1, condA_ff]
    rw [if_neg (by simp [hc]), hc] at hk
    obtain ⟨n1, n2, hrows⟩ := chkT_ok hc
    simp only [hv.len, letO_some]
    refine c76n ⟨n1, n2⟩ ?_
    have hPl := plansS_len n2
    have hPR := (RT.tl H ((plansS t.length).map up)).len
    have hPL : ((plansS t.length).map up).length = (plansS t.length).length := by simp
    have hPm : ∀ p ∈ plansS t.length, p.length = t.length ∧ ∀ c ∈ p, c < t.length := fun p hp => plansS_mem hp
    generalize hP : plansS t.length = P at *
    simp only [hPR, hPL, letO_some, cellsOf?_agg, cellsOf?_int, cellsOf?_bool, cellsOf?_imm, cellsOf?_ref, cellsOf?_nils, faddr_iptr, faddr_ptr, List.drop_succ_cons, List.drop_zero, List.take_succ_cons, List.take_zero, load1_iptr, loadN_iptr, List.length_cons, List.length_nil, Nat.le_refl, if_true, List.getElem?_cons_zero, List.getElem?_cons_succ, List.getD_cons_zero, List.getD_cons_succ, extrF_tup, binF_add, binF_sub, binF_mul, binF_eql, binF_neq, binF_lss, binF_leq, binF_gtr, binF_geq, true_and]
    have hget : ∀ (i : Nat) (hi : i < P.length) (H' : Heap) (k : AV → Prop), k (sl (up P[i])) → letO (idx 1 (tl (P.map up)) (.int .i64 (i : Int))) fun q => letO (load1 q H') k := by
      intro i hi H' k hk
      refine ReadsC.get (Heap.le_refl _) (n := P.length) (cells := (P.map up).map sl) ⟨by simp, by simp [tl]⟩ (x := sl (up P[i])) (by omega) (by omega) ?_ hk
      simp [hi]
    refine ⟨fun L H' => ∃ i : Nat, eqt L [.int .i64 (sumP t (P.take i)), .int .i64 i] ∧ i ≤ P.length ∧ eqt H' H, fun L _ => (P.length - iv L 1).toNat, ⟨0, rfl, by omega, rfl⟩, ?_⟩
    rintro L H' ⟨i, rfl, hi, rfl⟩
    try simp only [letO_some, cellsOf?_agg, cellsOf?_int, cellsOf?_bool, cellsOf?_imm, cellsOf?_ref, cellsOf?_nils, faddr_iptr, faddr_ptr, List.drop_succ_cons, List.drop_zero, List.take_succ_cons, List.take_zero, load1_iptr, loadN_iptr, List.length_cons, List.length_nil, Nat.le_refl, if_true, List.getElem?_cons_zero, List.getElem?_cons_succ, List.getD_cons_zero, List.getD_cons_succ, extrF_tup, binF_add, binF_sub, binF_mul, binF_eql, binF_neq, binF_lss, binF_leq, binF_gtr, binF_geq, true_and]
    refine condA_t (fun hlt => ?_) (fun hge => ?_)
    · have a1 : i < P.length := by omega
      obtain ⟨q1, q2⟩ := hPm P[i] (List.getElem_mem a1)
      refine ⟨fun L H'' => ∃ j : Nat, eqt L [.int .i64 (prodK t P[i] j), .int .i64 j] ∧ j ≤ t.length ∧ eqt H'' H', fun L _ => (t.length - iv L 1).toNat, ⟨0, rfl, by omega, rfl⟩, ?_⟩
      rintro L H'' ⟨j, rfl, hj, rfl⟩
      try simp only [letO_some, cellsOf?_agg, cellsOf?_int, cellsOf?_bool, cellsOf?_imm, cellsOf?_ref, cellsOf?_nils, faddr_iptr, faddr_ptr, List.drop_succ_cons, List.drop_zero, List.take_succ_cons, List.take_zero, load1_iptr, loadN_iptr, List.length_cons, List.length_nil, Nat.le_refl, if_true, List.getElem?_cons_zero, List.getElem?_cons_succ, List.getD_cons_zero, List.getD_cons_succ, extrF_tup, binF_add, binF_sub, binF_mul, binF_eql, binF_neq, binF_lss, binF_leq, binF_gtr, binF_geq, true_and]
      have hp1 := prodK_bd hc P[i] j
      have h9 : (9 : Int) ^ j ≤ 6561 := by
        have hp : j = 0 ∨ j = 1 ∨ j = 2 ∨ j = 3 ∨ j = 4 := by omega
        rcases hp with h | h | h | h | h <;> rw [h] <;> decide
      refine condA_t (fun hlt2 => ?_) (fun hge2 => ?_)
      · have b1 : j < t.length := by omega
        have l2 : (t.getD j []).length = t.length := row_len hc b1
        have gj : (up P[i]).getD j 0 = ((P[i].getD j 0 : Nat) : Int) := by
          have hj1 : j < P[i].length := by omega
          simp [up, List.getD_eq_getElem?_getD, hj1]
        have hcj : P[i].getD j 0 < t.length := by
          have hj1 : j < P[i].length := by omega
          have := q2 (P[i].getD j 0) (by rw [List.getD_eq_getElem?_getD]; simp [hj1])
          exact this
        refine hv.get (Heap.le_refl _) (by omega) (by omega) fun a ha => ?_
        rw [Int.toNat_natCast] at ha
        try simp only [letO_some, cellsOf?_agg, cellsOf?_int, cellsOf?_bool, cellsOf?_imm, cellsOf?_ref, cellsOf?_nils, faddr_iptr, faddr_ptr, List.drop_succ_cons, List.drop_zero, List.take_succ_cons, List.take_zero, load1_iptr, loadN_iptr, List.length_cons, List.length_nil, Nat.le_refl, if_true, List.getElem?_cons_zero, List.getElem?_cons_succ, List.getD_cons_zero, List.getD_cons_succ, extrF_tup, binF_add, binF_sub, binF_mul, binF_eql, binF_neq, binF_lss, binF_leq, binF_gtr, binF_geq, true_and]
        refine hget i a1 _ _ ?_
        try simp only [letO_some, cellsOf?_agg, cellsOf?_int, cellsOf?_bool, cellsOf?_imm, cellsOf?_ref, cellsOf?_nils, faddr_iptr, faddr_ptr, List.drop_succ_cons, List.drop_zero, List.take_succ_cons, List.take_zero, load1_iptr, loadN_iptr, List.length_cons, List.length_nil, Nat.le_refl, if_true, List.getElem?_cons_zero, List.getElem?_cons_succ, List.getD_cons_zero, List.getD_cons_succ, extrF_tup, binF_add, binF_sub, binF_mul, binF_eql, binF_neq, binF_lss, binF_leq, binF_gtr, binF_geq, true_and]
        refine (Reads.sl H'' (up P[i])).get (Heap.le_refl _) (by omega) (by rw [up_length]; omega) ?_
        rw [Int.toNat_natCast, gj]
        refine ha.get (Heap.le_refl _) (by omega) (by omega) ?_
        rw [Int.toNat_natCast, show (t.getD j []).getD (P[i].getD j 0) 0 = cell t j (P[i].getD j 0) from rfl]
        have hcr := cell_rng hc j (P[i].getD j 0)
        have hp2 := prodK_bd hc P[i] (j + 1)
        have h92 : (9 : Int) ^ (j + 1) ≤ 59049 := by
          have hp : j = 0 ∨ j = 1 ∨ j = 2 ∨ j = 3 := by omega
          rcases hp with h | h | h | h <;> rw [h] <;> decide
        try simp only [letO_some, cellsOf?_agg, cellsOf?_int, cellsOf?_bool, cellsOf?_imm, cellsOf?_ref, cellsOf?_nils, faddr_iptr, faddr_ptr, List.drop_succ_cons, List.drop_zero, List.take_succ_cons, List.take_zero, load1_iptr, loadN_iptr, List.length_cons, List.length_nil, Nat.le_refl, if_true, List.getElem?_cons_zero, List.getElem?_cons_succ, List.getD_cons_zero, List.getD_cons_succ, extrF_tup, binF_add, binF_sub, binF_mul, binF_eql, binF_neq, binF_lss, binF_leq, binF_gtr, binF_geq, true_and]
        rw [prodK] at hp2
        rw [wrap_i64 (n := prodK t P[i] j * _) (by omega) (by omega), wrap_i64 (by omega) (by omega)]
        exact ⟨⟨j + 1, rfl, by omega, rfl⟩, by simp <;> omega⟩
      · have hje : j = t.length := by omega
        subst hje
        have hs1 := sumP_bd hc (P.take i)
        rw [List.length_take] at hs1
        try simp only [letO_some, cellsOf?_agg, cellsOf?_int, cellsOf?_bool, cellsOf?_imm, cellsOf?_ref, cellsOf?_nils, faddr_iptr, faddr_ptr, List.drop_succ_cons, List.drop_zero, List.take_succ_cons, List.take_zero, load1_iptr, loadN_iptr, List.length_cons, List.length_nil, Nat.le_refl, if_true, List.getElem?_cons_zero, List.getElem?_cons_succ, List.getD_cons_zero, List.getD_cons_succ, extrF_tup, binF_add, binF_sub, binF_mul, binF_eql, binF_neq, binF_lss, binF_leq, binF_gtr, binF_geq, true_and]
        rw [wrap_i64 (n := sumP t (P.take i) + _) (by omega) (by omega), wrap_i64 (by omega) (by omega)]
        have e : sumP t (P.take i) + prodK t P[i] t.length = sumP t (P.take (i + 1)) := by
          have e2 : P.take (i + 1) = P.take i ++ [P[i]] := by rw [List.take_add_one, List.getElem?_eq_getElem a1]; rfl
          rw [e2]; unfold sumP
          rw [List.map_append, List.sum_append]
          simp only [List.map_cons, List.map_nil, List.sum_cons, List.sum_nil, Int.add_zero]
        rw [e]
        exact ⟨⟨i + 1, rfl, by omega, rfl⟩, by simp <;> omega⟩
    · have hie : i = P.length := by omega
      subst hie
      rw [List.take_length]
      exact endK_ret hk
  · have e1 : (chkT t != 0) = true := by simp [hc]
    simp only [e1, condA_tt]
    rw [if_pos hc] at hk
    exact endK_ret hk
end Go.Proofs.YtbofkeoebnjjkaaDoor

namespace Go.Proofs.YtbofkeoebnjjkaaDoor
open Go.Av Tab
set_option linter.unusedVariables false
set_option linter.unusedSimpArgs false
set_option maxRecDepth 4000

theorem conv53 {n : Int} (h : 0 ≤ n ∧ n < 256) : convF Tryd.prog 5 3 (.int .u8 n) = some (.int .i64 n) := by
  have h1 : Tryd.prog.underlying 5 = some (.int .u8) := by kernel_rfl
  have h2 : Tryd.prog.underlying 3 = some (.int .i64) := by kernel_rfl
  simp only [convF, h1, h2]
  rw [wrap_i64 (by omega) (by omega)]
theorem rem_nat {k : IntKind} {t : TypeId} {a b : Nat} (hb : b ≠ 0) : binF Tryd.prog .rem t (.int k (a : Int)) (.int k (b : Int)) = some (.int k ((a % b : Nat) : Int)) := by
  simp only [binF]
  rw [if_pos ⟨by trivial, by omega⟩, Int.ofNat_tmod]
theorem quo_nat {t : TypeId} {a b : Nat} (hb : b ≠ 0) (ha : a < 1000000000) : binF Tryd.prog .quo t (.int .i64 (a : Int)) (.int .i64 (b : Int)) = some (.int .i64 ((a / b : Nat) : Int)) := by
  simp only [binF]
  rw [if_pos ⟨by trivial, by omega⟩, ← Int.ofNat_tdiv]
  have := Nat.div_le_self a b
  generalize a / b = q at *
  rw [wrap_i64 (by omega) (by omega)]
def u8s (l : List Nat) : List AV := l.map fun (x : Nat) => .int .u8 (x : Int)
@[simp] theorem u8s_length (l : List Nat) : (u8s l).length = l.length := by simp [u8s]
/-- A number of a ledger. -/
def gv (g : List Nat) (i : Nat) : Nat := g.getD i 0
structure Led (g : List Nat) : Prop where
  len : g.length = 27
  byte : ∀ x ∈ g, x < 256
theorem Led.lt {g : List Nat} (h : Led g) (i : Nat) : gv g i < 256 := by
  unfold gv
  rw [List.getD_eq_getElem?_getD]
  by_cases hi : i < g.length
  · rw [List.getElem?_eq_getElem hi]; exact h.byte _ (List.getElem_mem hi)
  · rw [List.getElem?_eq_none (by omega)]; simp
theorem Led.at {g : List Nat} (h : Led g) {i : Nat} (hi : i < 27) : (u8s g)[i]? = some (.int .u8 (gv g i : Int)) := by
  have h1 : i < g.length := by rw [h.len]; exact hi
  simp [u8s, gv, h1, List.getD_eq_getElem?_getD]
theorem Led.load {g : List Nat} (h : Led g) {i : Nat} (hi : i < 27) : ((u8s g).drop i)[0]? = some (.int .u8 (gv g i : Int)) := by
  rw [List.getElem?_drop, Nat.add_zero]; exact h.at hi
theorem Led.load0 {g : List Nat} (h : Led g) : (u8s g)[0]? = some (.int .u8 (gv g 0 : Int)) := h.at (by omega)
theorem Led.all {g : List Nat} (h : Led g) : (if 27 ≤ (u8s g).length then some (AV.agg ((u8s g).take 27)) else none) = some (.agg (u8s g)) := by
  rw [if_pos (by simp [h.len]), List.take_of_length_le (by simp [h.len])]
def gsz (g : List Nat) : Nat := 1 + gv g 0 % 4
theorem gsz_bd (g : List Nat) : 1 ≤ gsz g ∧ gsz g ≤ 4 := by unfold gsz; omega
theorem c58 {g : List Nat} {H : Heap} {K : AV → Heap → Prop} (hg : Led g) (hk : K (.int .i64 (gsz g : Nat)) H) : ACalls Tryd.prog 58 [.agg (u8s g)] H K := by
  apply W58_ok
  unfold W58
  have h0 := hg.lt 0
  have hr : binF Tryd.prog .rem 3 (.int .i64 (gv g 0 : Int)) (.int .i64 4) = some (.int .i64 ((gv g 0 % 4 : Nat) : Int)) := rem_nat (b := 4) (by decide)
  simp only [letO_some, cellsOf?_agg, cellsOf?_int, cellsOf?_bool, cellsOf?_imm, cellsOf?_ref, cellsOf?_nils, faddr_iptr, faddr_ptr, List.drop_succ_cons, List.drop_zero, List.take_succ_cons, List.take_zero, load1_iptr, loadN_iptr, List.length_cons, List.length_nil, Nat.le_refl, if_true, List.getElem?_cons_zero, List.getElem?_cons_succ, List.getD_cons_zero, List.getD_cons_succ, extrF_tup, binF_add, binF_sub, binF_mul, binF_eql, binF_neq, binF_lss, binF_leq, binF_gtr, binF_geq, true_and, hg.load0, conv53 (show (0 : Int) ≤ gv g 0 ∧ (gv g 0 : Int) < 256 by omega), hr]
  rw [wrap_i64 (by omega) (by omega)]
  have e : (1 : Int) + ((gv g 0 % 4 : Nat) : Int) = (gsz g : Nat) := by unfold gsz; omega
  rw [e]
  exact endK_ret hk
/-- A number of the table of a ledger. -/
def cellF (g : List Nat) (r c : Nat) : Nat := (if gv g 2 % 2 = 1 ∧ 0 < gv g (3 + (4 * r + c)) % 3 then 0 else gv g (3 + (4 * r + c))) / 3 % 10
def freeT (g : List Nat) : Tb := (List.range (gsz g)).map fun r => (List.range (gsz g)).map fun c => (cellF g r c : Int)
theorem freeT_length (g : List Nat) : (freeT g).length = gsz g := by simp [freeT]
theorem freeT_row {g : List Nat} {r : Nat} (hr : r < gsz g) : row (freeT g) r = (List.range (gsz g)).map fun c => (cellF g r c : Int) := by
  simp [row, freeT, List.getD_eq_getElem?_getD, hr]
theorem freeT_cell {g : List Nat} {r c : Nat} (hr : r < gsz g) (hc : c < gsz g) : cell (freeT g) r c = cellF g r c := by
  rw [cell, freeT_row hr]
  simp [List.getD_eq_getElem?_getD, hc]
theorem chkT_mk2 {t : Tb} (h1 : 1 ≤ t.length) (h2 : t.length ≤ 4) (h : ∀ l ∈ t, l.length = t.length ∧ ∀ x ∈ l, 0 ≤ x ∧ x ≤ 9) : chkT t = 0 := by
  rw [chkT, if_neg (by omega), if_neg (by omega)]
  exact chkRows_mk h
theorem freeT_chk (g : List Nat) : chkT (freeT g) = 0 := by
  have := gsz_bd g
  refine chkT_mk2 (by rw [freeT_length]; omega) (by rw [freeT_length]; omega) fun l hl => ?_
  obtain ⟨r, hr, rfl⟩ := List.mem_map.1 hl
  refine ⟨by simp [freeT_length], fun x hx => ?_⟩
  obtain ⟨c, hc, rfl⟩ := List.mem_map.1 hx
  have : cellF g r c < 10 := Nat.mod_lt _ (by decide)
  omega
theorem idxArr_iptr {n : Nat} {cells : List AV} {i : Nat} (h : i < n) : idxArr n 1 (.iptr cells) (.int .i64 (i : Int)) = some (.iptr (cells.drop i)) := by
  simp [idxArr]; omega
/-- Ledger.free -/
theorem c54 {g : List Nat} {H : Heap} {K : AV → Heap → Prop} (hg : Led g) (hk : K (tl (freeT g)) H) : ACalls Tryd.prog 54 [.agg (u8s g)] H K := by
  apply W54_ok
  unfold W54
  obtain ⟨n1, n2⟩ := gsz_bd g
  simp only [letO_some, cellsOf?_agg, cellsOf?_int, cellsOf?_bool, cellsOf?_imm, cellsOf?_ref, cellsOf?_nils, faddr_iptr, faddr_ptr, List.drop_succ_cons, List.drop_zero, List.take_succ_cons, List.take_zero, load1_iptr, loadN_iptr, List.length_cons, List.length_nil, Nat.le_refl, if_true, List.getElem?_cons_zero, List.getElem?_cons_succ, List.getD_cons_zero, List.getD_cons_succ, extrF_tup, binF_add, binF_sub, binF_mul, binF_eql, binF_neq, binF_lss, binF_leq, binF_gtr, binF_geq, true_and, hg.all]
  refine c58 hg ?_
  try simp only [letO_some, cellsOf?_agg, cellsOf?_int, cellsOf?_bool, cellsOf?_imm, cellsOf?_ref, cellsOf?_nils, faddr_iptr, faddr_ptr, List.drop_succ_cons, List.drop_zero, List.take_succ_cons, List.take_zero, load1_iptr, loadN_iptr, List.length_cons, List.length_nil, Nat.le_refl, if_true, List.getElem?_cons_zero, List.getElem?_cons_succ, List.getD_cons_zero, List.getD_cons_succ, extrF_tup, binF_add, binF_sub, binF_mul, binF_eql, binF_neq, binF_lss, binF_leq, binF_gtr, binF_geq, true_and]
  have hTm : ∀ i, ∀ l ∈ (freeT g).take i, l ≠ [] := by
    intro i l hl h
    obtain ⟨r, hr, rfl⟩ := List.mem_map.1 (List.mem_of_mem_take hl)
    have := congrArg List.length h
    simp at this; omega
  have hTl : ∀ i, ((freeT g).take i).length < 1000000 := fun i => by rw [List.length_take, freeT_length]; omega
  refine ⟨fun L H' => ∃ (i : Nat) (X : AV), eqt L [X, .int .i64 i] ∧ i ≤ gsz g ∧ BT H H' X ((freeT g).take i), fun L _ => (gsz g - iv L 1).toNat, ⟨0, .nils, rfl, by omega, BT.nil H⟩, ?_⟩
  rintro L H' ⟨i, X, rfl, hi, hB⟩
  have hle := hB.le
  try simp only [letO_some, cellsOf?_agg, cellsOf?_int, cellsOf?_bool, cellsOf?_imm, cellsOf?_ref, cellsOf?_nils, faddr_iptr, faddr_ptr, List.drop_succ_cons, List.drop_zero, List.take_succ_cons, List.take_zero, load1_iptr, loadN_iptr, List.length_cons, List.length_nil, Nat.le_refl, if_true, List.getElem?_cons_zero, List.getElem?_cons_succ, List.getD_cons_zero, List.getD_cons_succ, extrF_tup, binF_add, binF_sub, binF_mul, binF_eql, binF_neq, binF_lss, binF_leq, binF_gtr, binF_geq, true_and]
  refine condA_t (fun hlt => ?_) (fun hge => ?_)
  · have a1 : i < gsz g := by omega
    refine ⟨fun L H'' => ∃ (j : Nat) (Y : AV), eqt L [Y, .int .i64 j] ∧ j ≤ gsz g ∧ Grow 1 H' H'' Y j (ints ((List.range j).map fun c => (cellF g i c : Int))) ∧ (0 < j → isOwn Y), fun L _ => (gsz g - iv L 1).toNat, ⟨0, .nils, rfl, by omega, Grow.nils 1 H', by omega⟩, ?_⟩
    rintro L H'' ⟨j, Y, rfl, hj, hgr, ho⟩
    try simp only [letO_some, cellsOf?_agg, cellsOf?_int, cellsOf?_bool, cellsOf?_imm, cellsOf?_ref, cellsOf?_nils, faddr_iptr, faddr_ptr, List.drop_succ_cons, List.drop_zero, List.take_succ_cons, List.take_zero, load1_iptr, loadN_iptr, List.length_cons, List.length_nil, Nat.le_refl, if_true, List.getElem?_cons_zero, List.getElem?_cons_succ, List.getD_cons_zero, List.getD_cons_succ, extrF_tup, binF_add, binF_sub, binF_mul, binF_eql, binF_neq, binF_lss, binF_leq, binF_gtr, binF_geq, true_and]
    refine condA_t (fun hlt2 => ?_) (fun hge2 => ?_)
    · have b1 : j < gsz g := by omega
      have hx := hg.lt (3 + (4 * i + j))
      have h2 := hg.lt 2
      try simp only [letO_some, cellsOf?_agg, cellsOf?_int, cellsOf?_bool, cellsOf?_imm, cellsOf?_ref, cellsOf?_nils, faddr_iptr, faddr_ptr, List.drop_succ_cons, List.drop_zero, List.take_succ_cons, List.take_zero, load1_iptr, loadN_iptr, List.length_cons, List.length_nil, Nat.le_refl, if_true, List.getElem?_cons_zero, List.getElem?_cons_succ, List.getD_cons_zero, List.getD_cons_succ, extrF_tup, binF_add, binF_sub, binF_mul, binF_eql, binF_neq, binF_lss, binF_leq, binF_gtr, binF_geq, true_and]
      rw [wrap_i64 (n := 4 * (i : Int)) (by omega) (by omega), wrap_i64 (n := 4 * (i : Int) + j) (by omega) (by omega)]
      have e1 : (4 * (i : Int) + j) = ((4 * i + j : Nat) : Int) := by omega
      rw [e1]
      have hia : idxArr 16 1 (.iptr ((u8s g).drop 3)) (.int .i64 ((4 * i + j : Nat) : Int)) = some (.iptr ((u8s g).drop (3 + (4 * i + j)))) := by
        rw [idxArr_iptr (by omega), List.drop_drop]
      have hr2 : binF Tryd.prog .rem 5 (.int .u8 (gv g 2 : Int)) (.int .u8 2) = some (.int .u8 ((gv g 2 % 2 : Nat) : Int)) := rem_nat (b := 2) (by decide)
      simp only [hia, hg.load (show 3 + (4 * i + j) < 27 by omega), hg.load (show 2 < 27 by omega), hr2, conv53 (show (0 : Int) ≤ gv g (3 + (4 * i + j)) ∧ (gv g (3 + (4 * i + j)) : Int) < 256 by omega), letO_some, cellsOf?_agg, cellsOf?_int, cellsOf?_bool, cellsOf?_imm, cellsOf?_ref, cellsOf?_nils, faddr_iptr, faddr_ptr, List.drop_succ_cons, List.drop_zero, List.take_succ_cons, List.take_zero, load1_iptr, loadN_iptr, List.length_cons, List.length_nil, Nat.le_refl, if_true, List.getElem?_cons_zero, List.getElem?_cons_succ, List.getD_cons_zero, List.getD_cons_succ, extrF_tup, binF_add, binF_sub, binF_mul, binF_eql, binF_neq, binF_lss, binF_leq, binF_gtr, binF_geq, true_and]
      generalize hxx : gv g (3 + (4 * i + j)) = x at *
      have hr3 : binF Tryd.prog .rem 3 (.int .i64 (x : Int)) (.int .i64 3) = some (.int .i64 ((x % 3 : Nat) : Int)) := rem_nat (b := 3) (by decide)
      refine ⟨fun L H3 => eqt L [.int .i64 ((if gv g 2 % 2 = 1 ∧ 0 < x % 3 then 0 else x : Nat) : Int)] ∧ eqt H3 H'', ?_, ?_⟩
      · by_cases ht : gv g 2 % 2 = 1
        · have e2 : (((gv g 2 % 2 : Nat) : Int) == 1) = true := by rw [ht]; rfl
          simp only [e2, gval_bool, Int.reduceBNe, Int.reduceBEq, pickF_true, pickF_false, reduceIte, Bool.true_eq_false, Bool.false_eq_true, if_false, condA_tt, condA_ff, condG_tt, condG_ff, condG_tt', condG_ff', condG_undef, gval_undef, hr3, letO_some, cellsOf?_agg, cellsOf?_int, cellsOf?_bool, cellsOf?_imm, cellsOf?_ref, cellsOf?_nils, faddr_iptr, faddr_ptr, List.drop_succ_cons, List.drop_zero, List.take_succ_cons, List.take_zero, load1_iptr, loadN_iptr, List.length_cons, List.length_nil, Nat.le_refl, if_true, List.getElem?_cons_zero, List.getElem?_cons_succ, List.getD_cons_zero, List.getD_cons_succ, extrF_tup, binF_add, binF_sub, binF_mul, binF_eql, binF_neq, binF_lss, binF_leq, binF_gtr, binF_geq, true_and]
          refine condA_t (fun h3 => ?_) (fun h3 => ?_)
          · rw [if_pos ⟨ht, by omega⟩]; exact ⟨rfl, rfl⟩
          · rw [if_neg (by omega)]; exact ⟨rfl, rfl⟩
        · have e2 : (((gv g 2 % 2 : Nat) : Int) == 1) = false := by rw [beq_eq_false_iff_ne]; omega
          simp only [e2, gval_bool, Int.reduceBNe, Int.reduceBEq, pickF_true, pickF_false, reduceIte, Bool.true_eq_false, Bool.false_eq_true, if_false, condA_tt, condA_ff, condG_tt, condG_ff, condG_tt', condG_ff', condG_undef, gval_undef, hr3, letO_some, cellsOf?_agg, cellsOf?_int, cellsOf?_bool, cellsOf?_imm, cellsOf?_ref, cellsOf?_nils, faddr_iptr, faddr_ptr, List.drop_succ_cons, List.drop_zero, List.take_succ_cons, List.take_zero, load1_iptr, loadN_iptr, List.length_cons, List.length_nil, Nat.le_refl, if_true, List.getElem?_cons_zero, List.getElem?_cons_succ, List.getD_cons_zero, List.getD_cons_succ, extrF_tup, binF_add, binF_sub, binF_mul, binF_eql, binF_neq, binF_lss, binF_leq, binF_gtr, binF_geq, true_and]
          rw [if_neg (by omega)]; exact ⟨rfl, rfl⟩
      · rintro L H3 ⟨rfl, rfl⟩
        have hcf : (if gv g 2 % 2 = 1 ∧ 0 < x % 3 then 0 else x) / 3 % 10 = cellF g i j := by rw [cellF, hxx]
        generalize hy : (if gv g 2 % 2 = 1 ∧ 0 < x % 3 then 0 else x : Nat) = y at *
        have hy2 : y < 256 := by rw [← hy]; split <;> omega
        have hq : binF Tryd.prog .quo 3 (.int .i64 (y : Int)) (.int .i64 3) = some (.int .i64 ((y / 3 : Nat) : Int)) := quo_nat (b := 3) (by decide) (by omega)
        have hr10 : binF Tryd.prog .rem 3 (.int .i64 ((y / 3 : Nat) : Int)) (.int .i64 10) = some (.int .i64 ((y / 3 % 10 : Nat) : Int)) := rem_nat (b := 10) (by decide)
        simp only [letO_some, cellsOf?_agg, cellsOf?_int, cellsOf?_bool, cellsOf?_imm, cellsOf?_ref, cellsOf?_nils, faddr_iptr, faddr_ptr, List.drop_succ_cons, List.drop_zero, List.take_succ_cons, List.take_zero, load1_iptr, loadN_iptr, List.length_cons, List.length_nil, Nat.le_refl, if_true, List.getElem?_cons_zero, List.getElem?_cons_succ, List.getD_cons_zero, List.getD_cons_succ, extrF_tup, binF_add, binF_sub, binF_mul, binF_eql, binF_neq, binF_lss, binF_leq, binF_gtr, binF_geq, true_and, hq, hr10, hcf, l23 cellsOf?_int]
        refine appendA_oneR hgr (by omega) fun v' H4 hg4 ho4 => ?_
        rw [wrap_i64 (by omega) (by omega)]
        refine ⟨⟨j + 1, v', rfl, by omega, ?_, fun _ => ho4⟩, by simp <;> omega⟩
        rw [List.range_succ, List.map_append]
        exact hg4
    · have hje : j = gsz g := by omega
      subst hje
      obtain ⟨b, hb, rfl, rfl⟩ := hgr.own (ho (by omega))
      simp only [l22 cellsOf?_ref, letO_some]
      refine hB.push (l := (List.range (gsz g)).map fun c => (cellF g i c : Int)) (hTm i) hb (by simp) (hTl i) fun X' H7 hB7 => ?_
      rw [wrap_i64 (by omega) (by omega)]
      refine ⟨⟨i + 1, X', rfl, by omega, ?_⟩, by simp <;> omega⟩
      have e : (freeT g).take (i + 1) = (freeT g).take i ++ [(List.range (gsz g)).map fun c => (cellF g i c : Int)] := by
        rw [List.take_add_one]
        simp [freeT, a1]
      rw [e]; exact hB7
  · have hie : i = gsz g := by omega
    subst hie
    rw [List.take_of_length_le (by rw [freeT_length]; omega)] at hB
    exact hB.end1 hk
/-- A row is changed as a whole. -/
theorem PT.rowOf {H0 H : Heap} {bo : Nat} {cells : List AV} {t : Tbl} {r : Nat} (h : PT H0 H bo cells t) (hr : r < t.length) (hne : t.getD r [] ≠ []) :
    ∃ b cp, cells[r]? = some (.ref 1 b 0 (t.getD r []).length cp) ∧ H b = some (ints (t.getD r [])) ∧ ∀ l : List Int, l.length = (t.getD r []).length → PT H0 (H.put b (ints l)) bo cells (t.set r l) := by
  rcases h.row r hr with ⟨h1, h2⟩ | ⟨b, cp', h1, h2, h3, h4⟩
  · exact absurd h2 hne
  · refine ⟨b, cp', h1, h2, fun l hl => ⟨?_, h.fo, by rw [Heap.put_ne (Ne.symm h4)]; exact h.out, by simp [h.len], fun k hk => ?_, h.dis⟩⟩
    · intro z w hz
      have : z ≠ b := by rintro rfl; rw [h3] at hz; cases hz
      rw [Heap.put_ne this]; exact h.le _ _ hz
    · rw [List.length_set] at hk
      rw [getT_set hr]
      by_cases hkr : k = r
      · subst hkr
        right
        refine ⟨b, cp', by rw [if_pos rfl, hl]; exact h1, by rw [if_pos rfl]; exact Heap.put_same, h3, h4⟩
      · rw [if_neg hkr]
        rcases h.row k hk with h5 | ⟨b2, cp2, q1, q2, q3, q4⟩
        · exact .inl h5
        · right
          have := h.dis k r b2 b _ _ _ _ hkr q1 h1
          exact ⟨b2, cp2, q1, by rw [Heap.put_ne this]; exact q2, q3, q4⟩
/-- A row is copied over. -/
theorem PT.copy {H0 H : Heap} {bo : Nat} {cells : List AV} {t : Tbl} {r : Nat} (h : PT H0 H bo cells t) (hr : r < t.length) (hne : t.getD r [] ≠ []) :
    ∃ d, load1 (.ptr bo (0 + r * 1)) H = some d ∧ ∀ (a : AV) (l : List Int) (K : AV → Heap → Prop), Reads H a l → l.length = (t.getD r []).length → (∀ H', PT H0 H' bo cells (t.set r l) → K (.int .i64 (l.length : Nat)) H') → copyA 1 d a K H := by
  obtain ⟨b, cp', h1, h2, h3⟩ := h.rowOf hr hne
  refine ⟨_, load1_at h.out (by rw [Nat.zero_add, Nat.mul_one]; exact h1), fun a l K ha hl hk => ?_⟩
  refine ⟨l.length, ints l, reads_src ha, by simp [ints, isScalar], rfl, ints (t.getD r []), h2, by simp, ?_⟩
  rw [hl, Nat.min_self, Nat.mul_one]
  have e : splice (ints (t.getD r [])) 0 ((ints l).take (t.getD r []).length) = ints l := by
    have e1 : (ints l).take (t.getD r []).length = ints l := List.take_of_length_le (by rw [ints_length]; omega)
    unfold splice
    rw [e1, List.take_zero, List.nil_append, List.drop_of_length_le (by rw [ints_length, ints_length]; omega), List.append_nil]
  rw [e, ← hl]
  exact hk _ (h3 l hl)
/-- The first rows of a table, the rest zeros. -/
def cpT (t : Tb) (i : Nat) : Tb := (List.range t.length).map fun k => if k < i then row t k else List.replicate t.length 0
@[simp] theorem cpT_length (t : Tb) (i : Nat) : (cpT t i).length = t.length := by simp [cpT]
theorem cpT_get {t : Tb} {i k : Nat} (hk : k < t.length) : (cpT t i).getD k [] = if k < i then row t k else List.replicate t.length 0 := by
  simp [cpT, List.getD_eq_getElem?_getD, hk]
theorem cpT_zero (t : Tb) : cpT t 0 = zeroT t.length := by
  refine ext_T (by simp [zeroT]) fun k hk => ?_
  rw [cpT_length] at hk
  rw [cpT_get hk, if_neg (by omega)]
  simp [zeroT, List.getD_eq_getElem?_getD, hk]
theorem cpT_step {t : Tb} {i : Nat} (hi : i < t.length) : (cpT t i).set i (row t i) = cpT t (i + 1) := by
  refine ext_T (by simp) fun k hk => ?_
  simp only [List.length_set, cpT_length] at hk
  rw [getT_set (by simpa using hi), cpT_get hk, cpT_get hk]
  by_cases h : k = i
  · subst h; rw [if_pos rfl, if_pos (by omega)]
  · rw [if_neg h]
    by_cases h2 : k < i
    · rw [if_pos h2, if_pos (by omega)]
    · rw [if_neg h2, if_neg (by omega)]
theorem cpT_end (t : Tb) : cpT t t.length = t := by
  refine ext_T (by simp) fun k hk => ?_
  rw [cpT_length] at hk
  rw [cpT_get hk, if_pos hk]; rfl
end Go.Proofs.YtbofkeoebnjjkaaDoor

namespace Go.Proofs.YtbofkeoebnjjkaaDoor
open Tab
set_option linter.unusedVariables false
set_option linter.unusedSimpArgs false

/- The walk through a table, and all plans of it. -/
def posG (t : Tb) : Nat → List Nat → Bool
  | _, [] => true
  | r, c :: G => decide (0 < cell t r c) && posG t (r + 1) G
def prodG (t : Tb) : Nat → Int → List Nat → Int
  | _, w, [] => w
  | r, w, c :: G => prodG t (r + 1) (w * cell t r c) G
def leastG (t : Tb) : Nat → Int → List Nat → Int
  | _, l, [] => l
  | r, l, c :: G => leastG t (r + 1) (if cell t r c < l then cell t r c else l) G
theorem posG_snoc (t : Tb) : ∀ (G : List Nat) (r c : Nat), posG t r (G ++ [c]) = (posG t r G && decide (0 < cell t (r + G.length) c))
  | [], r, c => by simp [posG]
  | a :: G, r, c => by
    rw [List.cons_append, posG, posG, posG_snoc t G, Bool.and_assoc, List.length_cons, show r + (G.length + 1) = r + 1 + G.length by omega]
theorem prodG_snoc (t : Tb) : ∀ (G : List Nat) (r : Nat) (w : Int) (c : Nat), prodG t r w (G ++ [c]) = prodG t r w G * cell t (r + G.length) c
  | [], r, w, c => by simp [prodG]
  | a :: G, r, w, c => by
    rw [List.cons_append, prodG, prodG, prodG_snoc t G, List.length_cons, show r + (G.length + 1) = r + 1 + G.length by omega]
theorem leastG_snoc (t : Tb) : ∀ (G : List Nat) (r : Nat) (l : Int) (c : Nat), leastG t r l (G ++ [c]) = if cell t (r + G.length) c < leastG t r l G then cell t (r + G.length) c else leastG t r l G
  | [], r, l, c => rfl
  | a :: G, r, l, c => by
    rw [List.cons_append, leastG, leastG, leastG_snoc t G, List.length_cons, show r + (G.length + 1) = r + 1 + G.length by omega]
theorem wk_ext {t : Tb} : ∀ (f : Nat) (p : List Nat) (w l : Int), wk t f p w l = ((ext t.length f p).filter (posG t p.length)).map fun G => (p ++ G, prodG t p.length w G, leastG t p.length l G)
  | 0, p, w, l => by
    show [(p, w, l)] = [(p ++ [], w, l)]
    rw [List.append_nil]
  | f + 1, p, w, l => by
    rw [wk, ext, List.filter_flatMap, List.map_flatMap]
    congr 1
    funext c
    by_cases hc : c ∈ p
    · rw [if_neg (fun h => h.2 hc), if_pos hc]; rfl
    · rw [if_neg hc]
      by_cases h0 : 0 < cell t p.length c
      · rw [if_pos ⟨h0, hc⟩, wk_ext f, List.filter_map, List.map_map]
        have e1 : ((ext t.length f (p ++ [c])).filter (posG t (p ++ [c]).length)) = (ext t.length f (p ++ [c])).filter (posG t p.length ∘ fun G => c :: G) := by
          refine List.filter_congr fun G _ => ?_
          simp [posG, h0]
        rw [e1]
        refine List.map_congr_left fun G _ => ?_
        simp [prodG, leastG]
      · rw [if_neg (fun h => h0 h.1), List.filter_map]
        have : (ext t.length f (p ++ [c])).filter (posG t p.length ∘ fun G => c :: G) = [] := by
          rw [List.filter_eq_nil_iff]
          intro G _
          simp [posG, h0]
        rw [this]; rfl
theorem take_snoc {α : Type} {G : List α} {i : Nat} (h : i < G.length) : G.take (i + 1) = G.take i ++ [G[i]] := by
  rw [List.take_add_one, List.getElem?_eq_getElem h]; rfl
theorem up_getN (G : List Nat) (i : Nat) : ((up G).getD i 0).toNat = G.getD i 0 := by
  rw [List.getD_eq_getElem?_getD, List.getD_eq_getElem?_getD]
  simp only [up, List.getElem?_map]
  cases G[i]? <;> simp
theorem prodG_K (t : Tb) (G : List Nat) : ∀ i, i ≤ G.length → prodG t 0 1 (G.take i) = prodK t G i
  | 0, _ => by simp [prodG, prodK]
  | i + 1, h => by
    rw [take_snoc (by omega), prodG_snoc, prodG_K t G i (by omega), prodK, List.length_take, Nat.min_eq_left (by omega), Nat.zero_add]
    have : G.getD i 0 = G[i] := by simp [List.getD_eq_getElem?_getD, show i < G.length by omega]
    rw [this]
theorem leastG_K {t : Tb} (hc : chkT t = 0) (G : List Nat) : ∀ i, 1 ≤ i → i ≤ G.length → leastG t 0 9 (G.take i) = leastK t (up G) i
  | 0, h, _ => by omega
  | 1, _, h => by
    rw [take_snoc (by omega), leastG_snoc]
    have e : G.getD 0 0 = G[0] := by simp [List.getD_eq_getElem?_getD, show 0 < G.length by omega]
    have hs : leastK t (up G) 1 = cell t 0 G[0] := by rw [leastK_one, leastK, up_getN, e]
    rw [hs]
    have := (cell_rng hc 0 G[0]).2
    simp only [List.take_zero, leastG, List.length_nil, Nat.add_zero]
    split <;> omega
  | i + 2, _, h => by
    have : G.getD (i + 1) 0 = G[i + 1] := by simp [List.getD_eq_getElem?_getD, show i + 1 < G.length by omega]
    have hs : leastK t (up G) (i + 2) = if cell t (i + 1) G[i + 1] < leastK t (up G) (i + 1) then cell t (i + 1) G[i + 1] else leastK t (up G) (i + 1) := by rw [← this, ← up_getN]; rfl
    rw [take_snoc (by omega), leastG_snoc, leastG_K hc G (i + 1) (by omega) (by omega), hs, List.length_take, Nat.min_eq_left (by omega), Nat.zero_add]
theorem posG_least {t : Tb} (hc : chkT t = 0) (G : List Nat) : ∀ i, 1 ≤ i → i ≤ G.length → posG t 0 (G.take i) = decide (0 < leastK t (up G) i)
  | 0, h, _ => by omega
  | 1, _, h => by
    rw [take_snoc (by omega), posG_snoc]
    have e : G.getD 0 0 = G[0] := by simp [List.getD_eq_getElem?_getD, show 0 < G.length by omega]
    have hs : leastK t (up G) 1 = cell t 0 G[0] := by rw [leastK_one, leastK, up_getN, e]
    rw [hs]
    simp only [posG, List.take_zero, List.length_nil, Nat.add_zero, Bool.true_and]
    rfl
  | i + 2, _, h => by
    have : G.getD (i + 1) 0 = G[i + 1] := by simp [List.getD_eq_getElem?_getD, show i + 1 < G.length by omega]
    have hs : leastK t (up G) (i + 2) = if cell t (i + 1) G[i + 1] < leastK t (up G) (i + 1) then cell t (i + 1) G[i + 1] else leastK t (up G) (i + 1) := by rw [← this, ← up_getN]; rfl
    rw [take_snoc (by omega), posG_snoc, posG_least hc G (i + 1) (by omega) (by omega), hs, List.length_take, Nat.min_eq_left (by omega), Nat.zero_add]
    by_cases h1 : 0 < leastK t (up G) (i + 1) <;> by_cases h2 : 0 < cell t (i + 1) G[i + 1] <;> simp [h1, h2] <;> split <;> omega
/-- THE WALK'S PLANS ARE THE REFERENCE'S. -/
theorem wkAll_eq {t : Tb} (hc : chkT t = 0) : wkAll t = (withinS t).map fun p => (p, prodK t p t.length, leastK t (up p) t.length) := by
  obtain ⟨n1, n2, hrows⟩ := chkT_ok hc
  have e0 : ∀ p ∈ plansS t.length, p.take t.length = p := fun p hp => List.take_of_length_le (by have := (plansS_mem hp).1; omega)
  have e1 : (plansS t.length).filter (posG t 0) = withinS t := by
    refine List.filter_congr fun p hp => ?_
    have := posG_least hc p t.length n1 (by have := (plansS_mem hp).1; omega)
    rw [e0 p hp] at this
    exact this
  have e2 : wkAll t = ((plansS t.length).filter (posG t 0)).map fun G => ([] ++ G, prodG t 0 1 G, leastG t 0 9 G) := wk_ext t.length [] 1 9
  rw [e2, e1]
  refine List.map_congr_left fun p hp => ?_
  have hp' : p ∈ plansS t.length := (List.mem_filter.1 hp).1
  have hl := (plansS_mem hp').1
  have h1 := prodG_K t p t.length (by omega)
  have h2 := leastG_K hc p t.length n1 (by omega)
  rw [e0 p hp'] at h1 h2
  rw [h1, h2, List.nil_append]
theorem prodK_zero {t : Tb} {p : List Nat} : ∀ (i r : Nat), r < i → cell t r (p.getD r 0) = 0 → prodK t p i = 0
  | 0, r, h, _ => by omega
  | i + 1, r, h, hz => by
    rw [prodK]
    by_cases hr : r = i
    · subst hr; rw [hz, Int.mul_zero]
    · rw [prodK_zero i r (by omega) hz, Int.zero_mul]
/-- Plans that are not within a table weigh nothing. -/
theorem sumP_within {t : Tb} (hc : chkT t = 0) : sumP t (plansS t.length) = sumP t (withinS t) := by
  obtain ⟨n1, n2, hrows⟩ := chkT_ok hc
  have key : ∀ l : List (List Nat), (∀ p ∈ l, p.length = t.length) → sumP t l = sumP t (l.filter fun p => decide (0 < leastK t (up p) t.length)) := by
    intro l
    induction l with
    | nil => intro _; rfl
    | cons p l ih =>
      intro h
      have ih' := ih fun q hq => h q (by simp [hq])
      have hp := h p (by simp)
      rw [List.filter_cons]
      by_cases hpos : 0 < leastK t (up p) t.length
      · rw [if_pos (by simpa using hpos)]
        simp only [sumP, List.map_cons, List.sum_cons] at ih' ⊢
        rw [ih']
      · rw [if_neg (by simpa using hpos), ← ih']
        obtain ⟨r, h1, h2⟩ := leastK_in (t := t) (p := up p) t.length n1
        have h3 := (cell_rng hc r ((up p).getD r 0).toNat).1
        have hz : cell t r (p.getD r 0) = 0 := by rw [up_getN] at h2 h3; have : leastK t (up p) t.length ≤ 0 := Int.not_lt.1 hpos; omega
        simp only [sumP, List.map_cons, List.sum_cons]
        rw [prodK_zero t.length r h1 hz, Int.zero_add]
  exact key _ fun p hp => (plansS_mem hp).1
theorem countE_eq {t : Tb} (hc : chkT t = 0) : (countE t).1 = (withinS t).length := by
  rw [countE, if_neg (by simp [hc]), wkAll_eq hc, List.length_map]
theorem weightE_eq {t : Tb} (hc : chkT t = 0) : (weightE t).1 = sumP t (plansS t.length) := by
  rw [weightE, if_neg (by simp [hc]), wkAll_eq hc, sumP_within hc, List.map_map]; rfl
end Go.Proofs.YtbofkeoebnjjkaaDoor

namespace Go.Proofs.YtbofkeoebnjjkaaDoor
open Go.Av Tab
set_option linter.unusedVariables false
set_option linter.unusedSimpArgs false
set_option maxRecDepth 4000

theorem ints_set (l : List Int) (c : Nat) (y : Int) : (ints l).set c (.int .i64 y) = ints (l.set c y) := by
  simp [ints, List.map_set]
/-- ref.taken -/
theorem c92 {v u : AV} {t : Tbl} {p : List Int} {x : Int} {H : Heap} {K : AV → Heap → Prop} (hv : RT H v t) (hu : Reads H u p) (hpl : p.length = t.length) (hf : fitP t p) (hl : t.length < 1000) (hrl : ∀ r, r < t.length → (row t r).length < 1000)
    (hb : ∀ r c, -1000000 ≤ cell t r c ∧ cell t r c ≤ 1000000) (hx : -1000000 ≤ x ∧ x ≤ 1000000) (hk : K (tl (takeT t p x)) H) : ACalls Tryd.prog 92 [v, u, .int .i64 x] H K := by
  apply W92_ok
  unfold W92
  simp only [letO_some, cellsOf?_agg, cellsOf?_int, cellsOf?_bool, cellsOf?_imm, cellsOf?_ref, cellsOf?_nils, faddr_iptr, faddr_ptr, List.drop_succ_cons, List.drop_zero, List.take_succ_cons, List.take_zero, load1_iptr, loadN_iptr, List.length_cons, List.length_nil, Nat.le_refl, if_true, List.getElem?_cons_zero, List.getElem?_cons_succ, List.getD_cons_zero, List.getD_cons_succ, extrF_tup, binF_add, binF_sub, binF_mul, binF_eql, binF_neq, binF_lss, binF_leq, binF_gtr, binF_geq, true_and, hv.len]
  have hTm : ∀ i, ∀ l ∈ (takeT t p x).take i, l ≠ [] := by
    intro i l hl h
    have hl2 := List.mem_of_mem_take hl
    obtain ⟨k, hk, rfl⟩ := List.getElem_of_mem hl2
    rw [takeT_length] at hk
    have h1 := takeT_rowlen (p := p) (x := x) hk
    have h2 := hf.2 k (by omega)
    have e : row (takeT t p x) k = (takeT t p x)[k] := by simp only [row, List.getD_eq_getElem?_getD, List.getElem?_eq_getElem (show k < (takeT t p x).length by rw [takeT_length]; exact hk), Option.getD_some]
    rw [e, h] at h1
    simp at h1
    omega
  refine ⟨fun L H' => ∃ (i : Nat) (X : AV), eqt L [X, .int .i64 i] ∧ i ≤ t.length ∧ BT H H' X ((takeT t p x).take i), fun L _ => (t.length - iv L 1).toNat, ⟨0, .nils, rfl, by omega, BT.nil H⟩, ?_⟩
  rintro L H' ⟨i, X, rfl, hi, hB⟩
  have hle := hB.le
  try simp only [letO_some, cellsOf?_agg, cellsOf?_int, cellsOf?_bool, cellsOf?_imm, cellsOf?_ref, cellsOf?_nils, faddr_iptr, faddr_ptr, List.drop_succ_cons, List.drop_zero, List.take_succ_cons, List.take_zero, load1_iptr, loadN_iptr, List.length_cons, List.length_nil, Nat.le_refl, if_true, List.getElem?_cons_zero, List.getElem?_cons_succ, List.getD_cons_zero, List.getD_cons_succ, extrF_tup, binF_add, binF_sub, binF_mul, binF_eql, binF_neq, binF_lss, binF_leq, binF_gtr, binF_geq, true_and]
  refine condA_t (fun hlt => ?_) (fun hge => ?_)
  · have a1 : i < t.length := by omega
    have hpi := hf.2 i (by omega)
    have hrli := hrl i a1
    simp only [l23n, letO_some]
    refine hv.get hle (by omega) (by omega) fun a ha => ?_
    rw [Int.toNat_natCast, show t.getD i [] = row t i from rfl] at ha
    refine appendA_growR (Grow.imm (H := H') (sz := 1) (n := 0) (cells := []) rfl) (reads_src (ha.le hle)) (by simp [ints, isScalar]) (by simp) (by omega) (by omega) (by omega) fun t21 H6 g6 o6 => ?_
    rw [List.nil_append, Nat.zero_add] at g6
    obtain ⟨b6, hb6, rfl, rfl⟩ := g6.own o6
    have hle6 : H'.le (H'.put b6 (ints (row t i))) := Heap.le_put_self hb6
    try simp only [letO_some]
    refine hu.get (Heap.le_trans hle hle6) (by omega) (by omega) ?_
    rw [Int.toNat_natCast]
    rw [show p.getD i 0 = ((p.getD i 0).toNat : Int) by omega]
    generalize hc : (p.getD i 0).toNat = c at *
    rw [idx_ref hpi.2]
    have hcell : (ints (row t i))[0 + c * 1]? = some (.int .i64 (cell t i c)) := by
      rw [Nat.zero_add, Nat.mul_one]
      have : c < (row t i).length := hpi.2
      simp [ints, this, cell, List.getD_eq_getElem?_getD]
    have hl1 : load1 (.ptr b6 (0 + c * 1)) (H'.put b6 (ints (row t i))) = some (.int .i64 (cell t i c)) := load1_at Heap.put_same hcell
    have hbb := hb i c
    simp only [letO_some, cellsOf?_agg, cellsOf?_int, cellsOf?_bool, cellsOf?_imm, cellsOf?_ref, cellsOf?_nils, faddr_iptr, faddr_ptr, List.drop_succ_cons, List.drop_zero, List.take_succ_cons, List.take_zero, load1_iptr, loadN_iptr, List.length_cons, List.length_nil, Nat.le_refl, if_true, List.getElem?_cons_zero, List.getElem?_cons_succ, List.getD_cons_zero, List.getD_cons_succ, extrF_tup, binF_add, binF_sub, binF_mul, binF_eql, binF_neq, binF_lss, binF_leq, binF_gtr, binF_geq, true_and, hl1]
    rw [wrap_i64 (n := cell t i c - x) (by omega) (by omega)]
    refine storeA_of (cs := [.int .i64 (cell t i c - x)]) Heap.put_same rfl rfl rfl (by simp; omega) ?_
    rw [Heap.put_put, Nat.zero_add, Nat.mul_one, splice_set (by simp; omega), ints_set]
    simp only [l22 cellsOf?_ref, letO_some]
    have hTl : ((takeT t p x).take i).length < 1000000 := by rw [List.length_take, takeT_length]; omega
    refine hB.push (l := (row t i).set c (cell t i c - x)) (hTm i) hb6 (by simp) hTl fun X' H7 hB7 => ?_
    rw [wrap_i64 (by omega) (by omega)]
    refine ⟨⟨i + 1, X', rfl, by omega, ?_⟩, by simp <;> omega⟩
    have e : (takeT t p x).take (i + 1) = (takeT t p x).take i ++ [(row t i).set c (cell t i c - x)] := by
      have h1 : i < (takeT t p x).length := by rw [takeT_length]; exact a1
      rw [List.take_add_one, List.getElem?_eq_getElem h1]
      have h2 : (takeT t p x).getD i [] = (row t i).set c (cell t i c - x) := by
        unfold takeT
        rw [takeK_get a1, if_pos (by omega), hc]
      rw [List.getD_eq_getElem?_getD, List.getElem?_eq_getElem h1] at h2
      simp only [Option.getD_some] at h2
      rw [h2]; rfl
    rw [e]; exact hB7
  · have hie : i = t.length := by omega
    subst hie
    rw [List.take_of_length_le (by simp)] at hB
    exact hB.end1 hk
/-- The first error of shares. -/
def shErr (n : Nat) : List (List Int × Int) → Int
  | [] => 0
  | s :: r => if planE n s.1 ≠ 0 then planE n s.1 else if s.2 < 1 ∨ 36 < s.2 then 1 else shErr n r
def addAll : Tb → List (List Int × Int) → Tb
  | t, [] => t
  | t, s :: r => addAll (takeT t s.1 (-s.2)) r
theorem sumL_eq {n : Nat} : ∀ (ss : List (List Int × Int)) (t : Tb), sumL n t ss = if shErr n ss ≠ 0 then ([], shErr n ss) else if chkT (addAll t ss) ≠ 0 then ([], 15) else (addAll t ss, 0)
  | [], t => by rw [sumL, shErr, addAll, if_neg (c := (0 : Int) ≠ 0) (by simp)]
  | s :: r, t => by
    rw [sumL, shErr, addAll]
    by_cases h1 : planE n s.1 ≠ 0
    · rw [if_pos h1, if_pos h1, if_pos h1]
    · rw [if_neg h1, if_neg h1]
      by_cases h2 : s.2 < 1 ∨ 36 < s.2
      · rw [if_pos h2, if_pos h2, if_pos (by decide)]
      · rw [if_neg h2, if_neg h2]; exact sumL_eq r _
theorem shErr_take {n : Nat} : ∀ (ss : List (List Int × Int)) (i : Nat), shErr n (ss.take i) = 0 → shErr n ss = shErr n (ss.drop i)
  | [], i, _ => by simp
  | s :: r, 0, _ => rfl
  | s :: r, i + 1, h => by
    simp only [List.take_succ_cons, shErr] at h
    simp only [List.drop_succ_cons]
    split at h
    · rename_i h1; exact absurd h h1
    · rename_i h1
      split at h
      · cases h
      · rename_i h2
        rw [shErr, if_neg h1, if_neg h2]
        exact shErr_take r i h
theorem shErr_snoc {n : Nat} : ∀ (ss : List (List Int × Int)) (s : List Int × Int), shErr n ss = 0 → planE n s.1 = 0 → ¬ (s.2 < 1 ∨ 36 < s.2) → shErr n (ss ++ [s]) = 0
  | [], s, _, h1, h2 => by rw [List.nil_append, shErr, if_neg (by simp [h1]), if_neg h2]; rfl
  | a :: r, s, h, h1, h2 => by
    rw [List.cons_append, shErr]
    rw [shErr] at h
    split at h
    · rename_i q1; exact absurd h q1
    · rename_i q1
      rw [if_neg q1]
      split at h
      · cases h
      · rename_i q2
        rw [if_neg q2]
        exact shErr_snoc r s h h1 h2
theorem shErr_ok {n : Nat} : ∀ {ss : List (List Int × Int)}, shErr n ss = 0 → ∀ s ∈ ss, planE n s.1 = 0 ∧ 1 ≤ s.2 ∧ s.2 ≤ 36
  | [], _, s, hs => by simp at hs
  | a :: r, h, s, hs => by
    rw [shErr] at h
    split at h
    · rename_i q1; exact absurd h q1
    · rename_i q1
      split at h
      · cases h
      · rename_i q2
        rcases List.mem_cons.1 hs with rfl | hs
        · exact ⟨by simpa using q1, by omega, by omega⟩
        · exact shErr_ok h s hs
theorem endK_le {r : AV} {H H' : Heap} {K : AV → Heap → Prop} (hl : H.le H') (h : K r H) : endK r H' K := endK_pub (Pub.drop hl) (endK_ret h)
/-- ref.Sum -/
theorem c43 {size : Int} {v : AV} {ss : List (List Int × Int)} {H : Heap} {K : AV → Heap → Prop} (hv : RS H v ss) (hl : ss.length < 2 ^ 63) (hl2 : ∀ s ∈ ss, s.1.length < 2 ^ 63) (hk : K (.tup [tl (sumE size ss).1, .int .i64 (sumE size ss).2]) H) : ACalls Tryd.prog 43 [.int .i64 size, v] H K := by
  apply W43_ok
  unfold W43
  have weak : ∀ (e : Int) (H' : Heap), H.le H' → K (.tup [tl [], .int .i64 e]) H → endK (.tup [.nils, .int .i64 e]) H' K := fun e H' hle h => endK_pub (Pub.drop hle) (endK_weak (endK_ret h))
  have lv : lenA v = some (.int .i64 ss.length) := by obtain ⟨_, h, _⟩ := hv; exact h.len
  unfold sumE at hk
  try simp only [letO_some, cellsOf?_agg, cellsOf?_int, cellsOf?_bool, cellsOf?_imm, cellsOf?_ref, cellsOf?_nils, faddr_iptr, faddr_ptr, List.drop_succ_cons, List.drop_zero, List.take_succ_cons, List.take_zero, load1_iptr, loadN_iptr, List.length_cons, List.length_nil, Nat.le_refl, if_true, List.getElem?_cons_zero, List.getElem?_cons_succ, List.getD_cons_zero, List.getD_cons_succ, extrF_tup, binF_add, binF_sub, binF_mul, binF_eql, binF_neq, binF_lss, binF_leq, binF_gtr, binF_geq, true_and]
  refine c78 ?_
  try simp only [not_v, letO_some, cellsOf?_agg, cellsOf?_int, cellsOf?_bool, cellsOf?_imm, cellsOf?_ref, cellsOf?_nils, faddr_iptr, faddr_ptr, List.drop_succ_cons, List.drop_zero, List.take_succ_cons, List.take_zero, load1_iptr, loadN_iptr, List.length_cons, List.length_nil, Nat.le_refl, if_true, List.getElem?_cons_zero, List.getElem?_cons_succ, List.getD_cons_zero, List.getD_cons_succ, extrF_tup, binF_add, binF_sub, binF_mul, binF_eql, binF_neq, binF_lss, binF_leq, binF_gtr, binF_geq, true_and]
  by_cases hsz : size < 1 ∨ 4 < size
  · rw [if_pos hsz] at hk
    have e1 : decide (1 ≤ size ∧ size ≤ 4) = false := decide_eq_false (by omega)
    simp only [e1, Bool.not_false, condA_tt]
    exact weak _ _ (Heap.le_refl _) hk
  rw [if_neg hsz] at hk
  have e1 : decide (1 ≤ size ∧ size ≤ 4) = true := decide_eq_true (by omega)
  simp only [e1, Bool.not_true, condA_ff, lv, letO_some, cellsOf?_agg, cellsOf?_int, cellsOf?_bool, cellsOf?_imm, cellsOf?_ref, cellsOf?_nils, faddr_iptr, faddr_ptr, List.drop_succ_cons, List.drop_zero, List.take_succ_cons, List.take_zero, load1_iptr, loadN_iptr, List.length_cons, List.length_nil, Nat.le_refl, if_true, List.getElem?_cons_zero, List.getElem?_cons_succ, List.getD_cons_zero, List.getD_cons_succ, extrF_tup, binF_add, binF_sub, binF_mul, binF_eql, binF_neq, binF_lss, binF_leq, binF_gtr, binF_geq, true_and]
  refine condA_t (fun h10 => ?_) (fun h10 => ?_)
  · rw [if_pos (by omega)] at hk
    exact weak _ _ (Heap.le_refl _) hk
  rw [if_neg (by omega)] at hk
  obtain ⟨n, rfl⟩ : ∃ n : Nat, size = (n : Int) := ⟨size.toNat, by omega⟩
  rw [Int.toNat_natCast, sumL_eq] at hk
  have hn : 1 ≤ n ∧ n ≤ 4 := by omega
  refine ⟨fun L H' => ∃ i : Nat, eqt L [.int .i64 i] ∧ i ≤ ss.length ∧ eqt H' H ∧ shErr n (ss.take i) = 0, fun L _ => (ss.length - iv L 0).toNat, ⟨0, rfl, by omega, rfl, rfl⟩, ?_⟩
  rintro L H' ⟨i, rfl, hi, rfl, he⟩
  try simp only [letO_some, cellsOf?_agg, cellsOf?_int, cellsOf?_bool, cellsOf?_imm, cellsOf?_ref, cellsOf?_nils, faddr_iptr, faddr_ptr, List.drop_succ_cons, List.drop_zero, List.take_succ_cons, List.take_zero, load1_iptr, loadN_iptr, List.length_cons, List.length_nil, Nat.le_refl, if_true, List.getElem?_cons_zero, List.getElem?_cons_succ, List.getD_cons_zero, List.getD_cons_succ, extrF_tup, binF_add, binF_sub, binF_mul, binF_eql, binF_neq, binF_lss, binF_leq, binF_gtr, binF_geq, true_and]
  refine condA_t (fun hlt => ?_) (fun hge => ?_)
  · have a1 : i < ss.length := by omega
    obtain ⟨p, p0, p1, a, q1, q2, q3, q4, q5, q6⟩ := RS.at hv (Heap.le_refl H') a1
    have g1 : ss.getD i ([], 0) = ss[i] := by simp [List.getD_eq_getElem?_getD, a1]
    rw [g1] at q5 q6
    simp only [q1, q2, q4, letO_some]
    refine c80 q5 (hl2 _ (List.getElem_mem a1)) ?_
    have hse := shErr_take ss i he
    rw [List.drop_eq_getElem_cons a1, shErr] at hse
    refine ⟨fun L H'' => eqt L [.int .i64 (if planE n ss[i].1 ≠ 0 then planE n ss[i].1 else if ss[i].2 < 1 ∨ 36 < ss[i].2 then 1 else 0)] ∧ eqt H'' H', ?_, ?_⟩
    · try simp only [letO_some, cellsOf?_agg, cellsOf?_int, cellsOf?_bool, cellsOf?_imm, cellsOf?_ref, cellsOf?_nils, faddr_iptr, faddr_ptr, List.drop_succ_cons, List.drop_zero, List.take_succ_cons, List.take_zero, load1_iptr, loadN_iptr, List.length_cons, List.length_nil, Nat.le_refl, if_true, List.getElem?_cons_zero, List.getElem?_cons_succ, List.getD_cons_zero, List.getD_cons_succ, extrF_tup, binF_add, binF_sub, binF_mul, binF_eql, binF_neq, binF_lss, binF_leq, binF_gtr, binF_geq, true_and]
      by_cases hp : planE n ss[i].1 = 0
      · have e3 : (planE n ss[i].1 == 0) = true := by rw [hp]; rfl
        simp only [e3, gval_bool, Int.reduceBNe, Int.reduceBEq, pickF_true, pickF_false, reduceIte, Bool.true_eq_false, Bool.false_eq_true, if_false, condA_tt, condA_ff, condG_tt, condG_ff, condG_tt', condG_ff', condG_undef, gval_undef, letO_some, cellsOf?_agg, cellsOf?_int, cellsOf?_bool, cellsOf?_imm, cellsOf?_ref, cellsOf?_nils, faddr_iptr, faddr_ptr, List.drop_succ_cons, List.drop_zero, List.take_succ_cons, List.take_zero, load1_iptr, loadN_iptr, List.length_cons, List.length_nil, Nat.le_refl, if_true, List.getElem?_cons_zero, List.getElem?_cons_succ, List.getD_cons_zero, List.getD_cons_succ, extrF_tup, binF_add, binF_sub, binF_mul, binF_eql, binF_neq, binF_lss, binF_leq, binF_gtr, binF_geq, true_and, q1, q3, q6]
        refine exJ ?_
        refine c78 ?_
        simp only [not_v, gval_bool, Int.reduceBNe, Int.reduceBEq, pickF_true, pickF_false, reduceIte, Bool.true_eq_false, Bool.false_eq_true, if_false, condA_tt, condA_ff, condG_tt, condG_ff, condG_tt', condG_ff', condG_undef, gval_undef, letO_some, cellsOf?_agg, cellsOf?_int, cellsOf?_bool, cellsOf?_imm, cellsOf?_ref, cellsOf?_nils, faddr_iptr, faddr_ptr, List.drop_succ_cons, List.drop_zero, List.take_succ_cons, List.take_zero, load1_iptr, loadN_iptr, List.length_cons, List.length_nil, Nat.le_refl, if_true, List.getElem?_cons_zero, List.getElem?_cons_succ, List.getD_cons_zero, List.getD_cons_succ, extrF_tup, binF_add, binF_sub, binF_mul, binF_eql, binF_neq, binF_lss, binF_leq, binF_gtr, binF_geq, true_and]
        rw [if_neg (by simp [hp])]
        by_cases ht : ss[i].2 < 1 ∨ 36 < ss[i].2
        · have e4 : decide (1 ≤ ss[i].2 ∧ ss[i].2 ≤ 36) = false := decide_eq_false (by omega)
          rw [if_pos ht]
          simp only [e4, Bool.not_false, condA_tt]
          exact ⟨rfl, rfl⟩
        · have e4 : decide (1 ≤ ss[i].2 ∧ ss[i].2 ≤ 36) = true := decide_eq_true (by omega)
          rw [if_neg ht]
          simp only [e4, Bool.not_true, condA_ff]
          exact ⟨by rw [hp]; rfl, rfl⟩
      · have e3 : (planE n ss[i].1 == 0) = false := by rw [beq_eq_false_iff_ne]; exact hp
        simp only [e3, gval_bool, Int.reduceBNe, Int.reduceBEq, pickF_true, pickF_false, reduceIte, Bool.true_eq_false, Bool.false_eq_true, if_false, condA_tt, condA_ff, condG_tt, condG_ff, condG_tt', condG_ff', condG_undef, gval_undef, letO_some, cellsOf?_agg, cellsOf?_int, cellsOf?_bool, cellsOf?_imm, cellsOf?_ref, cellsOf?_nils, faddr_iptr, faddr_ptr, List.drop_succ_cons, List.drop_zero, List.take_succ_cons, List.take_zero, load1_iptr, loadN_iptr, List.length_cons, List.length_nil, Nat.le_refl, if_true, List.getElem?_cons_zero, List.getElem?_cons_succ, List.getD_cons_zero, List.getD_cons_succ, extrF_tup, binF_add, binF_sub, binF_mul, binF_eql, binF_neq, binF_lss, binF_leq, binF_gtr, binF_geq, true_and]
        refine exU ?_
        try simp only [gval_bool, Int.reduceBNe, Int.reduceBEq, pickF_true, pickF_false, reduceIte, Bool.true_eq_false, Bool.false_eq_true, if_false, condA_tt, condA_ff, condG_tt, condG_ff, condG_tt', condG_ff', condG_undef, gval_undef, letO_some, cellsOf?_agg, cellsOf?_int, cellsOf?_bool, cellsOf?_imm, cellsOf?_ref, cellsOf?_nils, faddr_iptr, faddr_ptr, List.drop_succ_cons, List.drop_zero, List.take_succ_cons, List.take_zero, load1_iptr, loadN_iptr, List.length_cons, List.length_nil, Nat.le_refl, if_true, List.getElem?_cons_zero, List.getElem?_cons_succ, List.getD_cons_zero, List.getD_cons_succ, extrF_tup, binF_add, binF_sub, binF_mul, binF_eql, binF_neq, binF_lss, binF_leq, binF_gtr, binF_geq, true_and]
        rw [if_pos hp]
        exact ⟨rfl, rfl⟩
    · rintro L H'' ⟨rfl, rfl⟩
      try simp only [letO_some, cellsOf?_agg, cellsOf?_int, cellsOf?_bool, cellsOf?_imm, cellsOf?_ref, cellsOf?_nils, faddr_iptr, faddr_ptr, List.drop_succ_cons, List.drop_zero, List.take_succ_cons, List.take_zero, load1_iptr, loadN_iptr, List.length_cons, List.length_nil, Nat.le_refl, if_true, List.getElem?_cons_zero, List.getElem?_cons_succ, List.getD_cons_zero, List.getD_cons_succ, extrF_tup, binF_add, binF_sub, binF_mul, binF_eql, binF_neq, binF_lss, binF_leq, binF_gtr, binF_geq, true_and]
      by_cases hp : planE n ss[i].1 ≠ 0
      · rw [if_pos hp] at hse ⊢
        have e5 : (planE n ss[i].1 != 0) = true := by rw [bne_iff_ne]; exact hp
        simp only [e5, condA_tt]
        rw [hse, if_pos hp] at hk
        exact weak _ _ (Heap.le_refl _) hk
      · rw [if_neg hp] at hse ⊢
        by_cases ht : ss[i].2 < 1 ∨ 36 < ss[i].2
        · rw [if_pos ht] at hse ⊢
          simp only [gval_bool, Int.reduceBNe, Int.reduceBEq, pickF_true, pickF_false, reduceIte, Bool.true_eq_false, Bool.false_eq_true, if_false, condA_tt, condA_ff, condG_tt, condG_ff, condG_tt', condG_ff', condG_undef, gval_undef, letO_some, cellsOf?_agg, cellsOf?_int, cellsOf?_bool, cellsOf?_imm, cellsOf?_ref, cellsOf?_nils, faddr_iptr, faddr_ptr, List.drop_succ_cons, List.drop_zero, List.take_succ_cons, List.take_zero, load1_iptr, loadN_iptr, List.length_cons, List.length_nil, Nat.le_refl, if_true, List.getElem?_cons_zero, List.getElem?_cons_succ, List.getD_cons_zero, List.getD_cons_succ, extrF_tup, binF_add, binF_sub, binF_mul, binF_eql, binF_neq, binF_lss, binF_leq, binF_gtr, binF_geq, true_and]
          rw [hse, if_pos (by decide)] at hk
          exact weak _ _ (Heap.le_refl _) hk
        · rw [if_neg ht]
          simp only [gval_bool, Int.reduceBNe, Int.reduceBEq, pickF_true, pickF_false, reduceIte, Bool.true_eq_false, Bool.false_eq_true, if_false, condA_tt, condA_ff, condG_tt, condG_ff, condG_tt', condG_ff', condG_undef, gval_undef, letO_some, cellsOf?_agg, cellsOf?_int, cellsOf?_bool, cellsOf?_imm, cellsOf?_ref, cellsOf?_nils, faddr_iptr, faddr_ptr, List.drop_succ_cons, List.drop_zero, List.take_succ_cons, List.take_zero, load1_iptr, loadN_iptr, List.length_cons, List.length_nil, Nat.le_refl, if_true, List.getElem?_cons_zero, List.getElem?_cons_succ, List.getD_cons_zero, List.getD_cons_succ, extrF_tup, binF_add, binF_sub, binF_mul, binF_eql, binF_neq, binF_lss, binF_leq, binF_gtr, binF_geq, true_and, bne_self_eq_false]
          rw [wrap_i64 (by omega) (by omega)]
          refine ⟨⟨i + 1, rfl, by omega, rfl, ?_⟩, by simp <;> omega⟩
          rw [take_snoc a1]
          exact shErr_snoc _ _ he (by simpa using hp) ht
  have hie : i = ss.length := by omega
  subst hie
  rw [List.take_length] at he
  rw [if_neg (by simp [he])] at hk
  have hok := shErr_ok he
  refine ⟨fun L H'' => ∃ (r : Nat) (X : AV), eqt L [X, .int .i64 r] ∧ r ≤ n ∧ BT H' H'' X (List.replicate r (List.replicate n 0)), fun L _ => (n - iv L 1).toNat, ⟨0, .nils, rfl, by omega, BT.nil H'⟩, ?_⟩
  rintro L H2 ⟨r, X, rfl, hr, hB⟩
  try simp only [letO_some, cellsOf?_agg, cellsOf?_int, cellsOf?_bool, cellsOf?_imm, cellsOf?_ref, cellsOf?_nils, faddr_iptr, faddr_ptr, List.drop_succ_cons, List.drop_zero, List.take_succ_cons, List.take_zero, load1_iptr, loadN_iptr, List.length_cons, List.length_nil, Nat.le_refl, if_true, List.getElem?_cons_zero, List.getElem?_cons_succ, List.getD_cons_zero, List.getD_cons_succ, extrF_tup, binF_add, binF_sub, binF_mul, binF_eql, binF_neq, binF_lss, binF_leq, binF_gtr, binF_geq, true_and]
  refine condA_t (fun hlt => ?_) (fun hge => ?_)
  · refine ⟨by omega, by omega, by omega, by omega, ?_⟩
    rw [Int.toNat_natCast, rowOf_zero]
    intro b hb
    try simp only [l22 cellsOf?_ref, letO_some]
    refine hB.push (l := List.replicate n 0) (fun l hl h => ?_) hb (by simp) (by rw [List.length_replicate]; omega) fun X' H7 hB7 => ?_
    · have := List.eq_of_mem_replicate hl
      rw [h] at this
      have := congrArg List.length this
      simp at this; omega
    · rw [wrap_i64 (by omega) (by omega)]
      refine ⟨⟨r + 1, X', rfl, by omega, ?_⟩, by simp <;> omega⟩
      rw [List.replicate_succ']
      exact hB7
  have hrn : r = n := by omega
  subst hrn
  rw [show List.replicate r (List.replicate r (0 : Int)) = zeroT r from rfl] at hB
  have hle2 := hB.le
  refine ⟨fun L H'' => ∃ (i : Nat) (t : Tb) (V : AV), eqt L [V, .int .i64 i] ∧ i ≤ ss.length ∧ eqt H'' H2 ∧ RT H2 V t ∧ (BT H' H2 V t ∨ V = tl t) ∧ t.length = r ∧ (∀ k, k < r → (row t k).length = r) ∧ (∀ k c, 0 ≤ cell t k c ∧ cell t k c ≤ 36 * i) ∧ addAll (zeroT r) ss = addAll t (ss.drop i), fun L _ => (ss.length - iv L 1).toNat,
    ⟨0, zeroT r, X, rfl, by omega, rfl, hB.rt, .inl hB, by simp [zeroT], fun k hk => by simp [row, zeroT, List.getD_eq_getElem?_getD, hk], fun k c => ?_, by simp⟩, ?_⟩
  · have : cell (zeroT r) k c = 0 := by
      unfold cell row zeroT
      rw [List.getD_eq_getElem?_getD (l := List.replicate r _), List.getElem?_replicate]
      split
      · rw [List.getD_eq_getElem?_getD, Option.getD_some, List.getElem?_replicate]
        split <;> rfl
      · rfl
    omega
  rintro L H3 ⟨i, t, V, rfl, hi, rfl, hR, hV, htl, hrow, hcell, hsum⟩
  try simp only [letO_some, cellsOf?_agg, cellsOf?_int, cellsOf?_bool, cellsOf?_imm, cellsOf?_ref, cellsOf?_nils, faddr_iptr, faddr_ptr, List.drop_succ_cons, List.drop_zero, List.take_succ_cons, List.take_zero, load1_iptr, loadN_iptr, List.length_cons, List.length_nil, Nat.le_refl, if_true, List.getElem?_cons_zero, List.getElem?_cons_succ, List.getD_cons_zero, List.getD_cons_succ, extrF_tup, binF_add, binF_sub, binF_mul, binF_eql, binF_neq, binF_lss, binF_leq, binF_gtr, binF_geq, true_and]
  have hs10 : ss.length ≤ 10 := by omega
  refine condA_t (fun hlt2 => ?_) (fun hge2 => ?_)
  · have a1 : i < ss.length := by omega
    obtain ⟨p, p0, p1, a, q1, q2, q3, q4, q5, q6⟩ := RS.at hv hle2 a1
    have g1 : ss.getD i ([], 0) = ss[i] := by simp [List.getD_eq_getElem?_getD, a1]
    rw [g1] at q5 q6
    obtain ⟨o1, o2, o3⟩ := hok ss[i] (List.getElem_mem a1)
    obtain ⟨w1, w2⟩ := planE_ok o1
    rw [List.drop_eq_getElem_cons a1, addAll] at hsum
    generalize ss[i] = s at *
    have hneg : unF .neg (.int .i64 s.2) = some (.int .i64 (-s.2)) := by
      show some (AV.int .i64 (IntKind.i64.wrap (0 - s.2))) = _
      rw [wrap_i64 (by omega) (by omega), Int.zero_sub]
    simp only [q1, q2, q3, q4, q6, hneg, letO_some, cellsOf?_agg, cellsOf?_int, cellsOf?_bool, cellsOf?_imm, cellsOf?_ref, cellsOf?_nils, faddr_iptr, faddr_ptr, List.drop_succ_cons, List.drop_zero, List.take_succ_cons, List.take_zero, load1_iptr, loadN_iptr, List.length_cons, List.length_nil, Nat.le_refl, if_true, List.getElem?_cons_zero, List.getElem?_cons_succ, List.getD_cons_zero, List.getD_cons_succ, extrF_tup, binF_add, binF_sub, binF_mul, binF_eql, binF_neq, binF_lss, binF_leq, binF_gtr, binF_geq, true_and]
    have hfit : fitP t s.1 := by
      refine ⟨by omega, fun k hk => ?_⟩
      have hm : s.1.getD k 0 ∈ s.1 := by rw [List.getD_eq_getElem?_getD]; simp [hk]
      have := w2 _ hm
      rw [hrow k (by omega)]
      omega
    refine c92 (x := -s.2) hR (q5.le hle2) (by omega) hfit (by omega) (fun k hk => by rw [hrow k (by omega)]; omega) (fun k c => by have := hcell k c; omega) (by omega) ?_
    try simp only [letO_some, cellsOf?_agg, cellsOf?_int, cellsOf?_bool, cellsOf?_imm, cellsOf?_ref, cellsOf?_nils, faddr_iptr, faddr_ptr, List.drop_succ_cons, List.drop_zero, List.take_succ_cons, List.take_zero, load1_iptr, loadN_iptr, List.length_cons, List.length_nil, Nat.le_refl, if_true, List.getElem?_cons_zero, List.getElem?_cons_succ, List.getD_cons_zero, List.getD_cons_succ, extrF_tup, binF_add, binF_sub, binF_mul, binF_eql, binF_neq, binF_lss, binF_leq, binF_gtr, binF_geq, true_and]
    rw [wrap_i64 (by omega) (by omega)]
    refine ⟨⟨i + 1, _, _, rfl, by omega, rfl, RT.tl _ _, .inr rfl, by rw [takeT_length]; exact htl, fun k hk => by rw [takeT_rowlen (by omega)]; exact hrow k hk, fun k c => ?_, hsum⟩, by simp <;> omega⟩
    have := hcell k c
    by_cases hkt : k < t.length
    · rw [takeT_cell hfit hkt]
      split <;> omega
    · have e : cell (takeT t s.1 (-s.2)) k c = 0 := by
        unfold cell row
        rw [List.getD_eq_getElem?_getD (l := takeT t s.1 (-s.2)), List.getElem?_eq_none (by rw [takeT_length]; omega)]; rfl
      omega
  · have hie : i = ss.length := by omega
    subst hie
    rw [List.drop_length, addAll] at hsum
    rw [hsum] at hk
    try simp only [letO_some]
    refine c31 hR (by omega) (fun l hl => by
      obtain ⟨k, hk, rfl⟩ := List.getElem_of_mem hl
      have := hrow k (by omega)
      have e : row t k = t[k] := by rw [row, List.getD_eq_getElem?_getD, List.getElem?_eq_getElem hk]; rfl
      rw [e] at this; omega) ?_
    try simp only [letO_some, cellsOf?_agg, cellsOf?_int, cellsOf?_bool, cellsOf?_imm, cellsOf?_ref, cellsOf?_nils, faddr_iptr, faddr_ptr, List.drop_succ_cons, List.drop_zero, List.take_succ_cons, List.take_zero, load1_iptr, loadN_iptr, List.length_cons, List.length_nil, Nat.le_refl, if_true, List.getElem?_cons_zero, List.getElem?_cons_succ, List.getD_cons_zero, List.getD_cons_succ, extrF_tup, binF_add, binF_sub, binF_mul, binF_eql, binF_neq, binF_lss, binF_leq, binF_gtr, binF_geq, true_and]
    by_cases hc : chkT t = 0
    · have e5 : (chkT t != 0) = false := by rw [hc]; rfl
      simp only [e5, condA_ff]
      rw [if_neg (by simp [hc])] at hk
      rcases hV with hB2 | rfl
      · exact hB2.end2 hk
      · exact endK_le hle2 hk
    · have e5 : (chkT t != 0) = true := by rw [bne_iff_ne]; exact hc
      simp only [e5, condA_tt]
      rw [if_pos hc] at hk
      exact weak _ _ hle2 hk
end Go.Proofs.YtbofkeoebnjjkaaDoor

namespace Go.Proofs.YtbofkeoebnjjkaaDoor
open Go.Av Tab
set_option linter.unusedVariables false
set_option linter.unusedSimpArgs false
set_option maxRecDepth 4000

theorem PT.base {H H1 H' : Heap} {bo : Nat} {cells : List AV} {t : Tbl} (h : PT H1 H' bo cells t) (hl : H.le H1) : PT H H' bo cells t := by
  refine ⟨Heap.le_trans hl h.le, none_of_le hl h.fo, h.out, h.len, fun k hk => ?_, h.dis⟩
  rcases h.row k hk with h1 | ⟨b, cp, q1, q2, q3, q4⟩
  · exact .inl h1
  · exact .inr ⟨b, cp, q1, q2, none_of_le hl q3, q4⟩
/-- Lists, each nothing or a block from its beginning on. -/
def OT (H : Heap) (X : AV) (t : Tbl) : Prop := ∃ cells : List AV, ReadsC 1 H X t.length cells ∧ ∀ k, k < t.length → (cells[k]? = some .nils ∧ t.getD k [] = []) ∨ ∃ b cp, cells[k]? = some (.ref 1 b 0 (t.getD k []).length cp) ∧ H b = some (ints (t.getD k []))
theorem BT.ot {H H' : Heap} {X : AV} {t : Tbl} (h : BT H H' X t) : OT H' X t := by
  rcases h with ⟨rfl, rfl, rfl⟩ | ⟨bo, cells, rfl, hP⟩
  · exact ⟨[], ⟨rfl, rfl⟩, fun k hk => by simp at hk⟩
  · refine ⟨cells, ⟨by rw [hP.len, Nat.mul_one], rfl, rfl, cells, hP.out, by rw [hP.len]; omega, by rw [List.drop_zero, List.take_of_length_le (by rw [hP.len]; omega)]⟩, fun k hk => ?_⟩
    rcases hP.row k hk with h1 | ⟨b, cp, q1, q2, q3, q4⟩
    · exact .inl h1
    · exact .inr ⟨b, cp, q1, q2⟩
/-- A number behind a list of which the capacity is cut. -/
theorem append_cap {H : Heap} {a : AV} {l : List Int} {x : Int} {n : Nat} (hn : n = l.length) (h : (a = .nils ∧ l = []) ∨ ∃ b cp, a = .ref 1 b 0 l.length cp ∧ H b = some (ints l)) (hl : l.length < 1000000) :
    ∃ s, slc 1 a none (some (.int .i64 (n : Int))) (some (.int .i64 (n : Int))) = some s ∧ ∀ (H' : Heap) (K : AV → Heap → Prop), H.le H' → (∀ b, H' b = none → K (.ref 1 b 0 (n + 1) none) (H'.put b (ints (l ++ [x])))) → appendA 1 8 s (.imm 1 true [.int .i64 x]) K H' := by
  subst hn
  have n1 : ∀ d, natOf none d = some d := fun d => rfl
  have n2 : ∀ d, natOf (some (.int .i64 (l.length : Int))) d = some l.length := fun d => by simp [natOf]
  rcases h with ⟨rfl, rfl⟩ | ⟨b, cp, rfl, hb⟩
  · refine ⟨.nils, by simp [slc, natOf], fun H' K hle hk => ?_⟩
    refine appendA_growR (Grow.nils 1 H') (m := 1) (new := [.int .i64 x]) (by simp [srcOf]) rfl rfl (by omega) (by omega) (by omega) fun v' H2 hg ho => ?_
    obtain ⟨b, hb, rfl, rfl⟩ := hg.own ho
    exact hk b hb
  · refine ⟨.ref 1 b 0 l.length (some l.length), ?_, fun H' K hle hk => ?_⟩
    · simp only [slc, n1, n2, Option.bind_some]
      rw [if_pos (by simp)]
      simp
    · refine ⟨1, [.int .i64 x], by simp [srcOf], rfl, rfl, rfl, ints l, hle _ _ hb, by simp, by omega, by omega, ?_⟩
      simp only
      rw [if_neg (by omega)]
      intro b' hb'
      have := hk b' hb'
      have e : (ints l).take (l.length * 1) ++ [AV.int .i64 x] = ints (l ++ [x]) := by
        rw [List.take_of_length_le (by simp)]
        simp [ints]
      rw [e]; exact this
/-- The lists of so many columns, all different. -/
def lvl (n : Nat) : Nat → List (List Nat)
  | 0 => [[]]
  | i + 1 => (lvl n i).flatMap fun l => ((List.range n).filter fun c => decide (c ∉ l)).map fun c => l ++ [c]
theorem ext_snoc {n : Nat} : ∀ (f : Nat) (E : List Nat), ext n (f + 1) E = (ext n f E).flatMap fun G => ((List.range n).filter fun c => decide (c ∉ E ++ G)).map fun c => G ++ [c]
  | 0, E => by
    simp only [ext, List.flatMap_cons, List.flatMap_nil, List.append_nil, List.nil_append, List.map_cons, List.map_nil]
    induction List.range n with
    | nil => rfl
    | cons a l ih =>
      simp only [List.flatMap_cons, List.filter_cons, ih]
      by_cases h : a ∈ E <;> simp [h]
  | f + 1, E => by
    rw [ext]
    have ih := fun c => ext_snoc (n := n) f (E ++ [c])
    have h1 : ∀ c, (if c ∈ E then [] else (ext n (f + 1) (E ++ [c])).map (c :: ·)) = (if c ∈ E then [] else (ext n f (E ++ [c])).map (c :: ·)).flatMap fun G => ((List.range n).filter fun x => decide (x ∉ E ++ G)).map fun x => G ++ [x] := by
      intro c
      by_cases hc : c ∈ E
      · rw [if_pos hc, if_pos hc]; rfl
      · rw [if_neg hc, if_neg hc, ih c, List.map_flatMap, List.flatMap_map]
        congr 1
        funext G
        rw [List.map_map]
        simp [Function.comp_def, List.append_assoc]
    rw [show ext n (f + 1) E = (List.range n).flatMap fun c => if c ∈ E then [] else (ext n f (E ++ [c])).map (c :: ·) from rfl, List.flatMap_assoc]
    congr 1
    funext c
    exact h1 c
theorem lvl_ext (n : Nat) : ∀ i, lvl n i = ext n i []
  | 0 => rfl
  | i + 1 => by
    rw [lvl, lvl_ext n i, ext_snoc]
    simp
theorem lvl_mem {n i : Nat} {l : List Nat} (h : l ∈ lvl n i) : l.length = i ∧ ∀ c ∈ l, c < n := by
  rw [lvl_ext] at h; exact ext_mem i [] l h
theorem lvl_len {n i : Nat} (hn : n ≤ 4) (hi : i ≤ 4) : (lvl n i).length ≤ 256 := by
  rw [lvl_ext]
  exact Nat.le_trans (ext_len i []) (pow_le4 hn hi)
/-- What the round has, behind some lists and some columns. -/
def nxt (n : Nat) (P : List (List Nat)) : List (List Nat) := P.flatMap fun l => ((List.range n).filter fun c => decide (c ∉ l)).map fun c => l ++ [c]
def nxtC (l : List Nat) (m : Nat) : List (List Nat) := ((List.range m).filter fun c => decide (c ∉ l)).map fun c => l ++ [c]
theorem nxtC_succ (l : List Nat) (m : Nat) : nxtC l (m + 1) = nxtC l m ++ if m ∈ l then [] else [l ++ [m]] := by
  unfold nxtC
  rw [List.range_succ, List.filter_append, List.map_append]
  by_cases h : m ∈ l <;> simp [h]
theorem nxt_take {n : Nat} {P : List (List Nat)} {i : Nat} (h : i < P.length) : nxt n (P.take (i + 1)) = nxt n (P.take i) ++ nxtC P[i] n := by
  unfold nxt
  rw [take_snoc h, List.flatMap_append]
  simp [nxtC]
theorem nxtC_len (l : List Nat) (m : Nat) : (nxtC l m).length ≤ m := by
  unfold nxtC
  rw [List.length_map]
  exact Nat.le_trans (List.length_filter_le _ _) (by simp)
theorem nxt_len {n : Nat} : ∀ P : List (List Nat), (nxt n P).length ≤ P.length * n
  | [] => by simp [nxt]
  | p :: P => by
    have h1 := nxt_len (n := n) P
    have h2 := nxtC_len p n
    have e : nxt n (p :: P) = nxtC p n ++ nxt n P := by simp [nxt, nxtC]
    rw [e, List.length_append, List.length_cons, Nat.add_mul, Nat.one_mul]
    omega
/-- plans -/
theorem c45 {n : Nat} {H : Heap} {K : AV → Heap → Prop} (hn : 1 ≤ n ∧ n ≤ 4) (hk : K (tl ((plansS n).map up)) H) : ACalls Tryd.prog 45 [.int .i64 n] H K := by
  apply W45_ok
  unfold W45
  simp only [letO_some, cellsOf?_agg, cellsOf?_int, cellsOf?_bool, cellsOf?_imm, cellsOf?_ref, cellsOf?_nils, faddr_iptr, faddr_ptr, List.drop_succ_cons, List.drop_zero, List.take_succ_cons, List.take_zero, load1_iptr, loadN_iptr, List.length_cons, List.length_nil, Nat.le_refl, if_true, List.getElem?_cons_zero, List.getElem?_cons_succ, List.getD_cons_zero, List.getD_cons_succ, extrF_tup, binF_add, binF_sub, binF_mul, binF_eql, binF_neq, binF_lss, binF_leq, binF_gtr, binF_geq, true_and, l22 (show cellsOf? AV.nils = some [AV.nils] from rfl)]
  refine ⟨fun L H' => ∃ (i : Nat) (X : AV), eqt L [X, .int .i64 i] ∧ i ≤ n ∧ H.le H' ∧ OT H' X ((lvl n i).map up) ∧ (i = 0 ∨ ∃ H1, H.le H1 ∧ BT H1 H' X ((lvl n i).map up)), fun L _ => (n - iv L 1).toNat,
    ⟨0, _, rfl, by omega, Heap.le_refl _, ⟨[.nils], ⟨rfl, rfl, rfl⟩, fun k hk => ?_⟩, .inl rfl⟩, ?_⟩
  · have : k = 0 := by simp [lvl] at hk; omega
    subst this
    exact .inl ⟨rfl, rfl⟩
  rintro L H1 ⟨i, X, rfl, hi, hle1, hO, hB⟩
  try simp only [letO_some, cellsOf?_agg, cellsOf?_int, cellsOf?_bool, cellsOf?_imm, cellsOf?_ref, cellsOf?_nils, faddr_iptr, faddr_ptr, List.drop_succ_cons, List.drop_zero, List.take_succ_cons, List.take_zero, load1_iptr, loadN_iptr, List.length_cons, List.length_nil, Nat.le_refl, if_true, List.getElem?_cons_zero, List.getElem?_cons_succ, List.getD_cons_zero, List.getD_cons_succ, extrF_tup, binF_add, binF_sub, binF_mul, binF_eql, binF_neq, binF_lss, binF_leq, binF_gtr, binF_geq, true_and]
  refine condA_t (fun hlt => ?_) (fun hge => ?_)
  · have a1 : i < n := by omega
    have hPm : ∀ l ∈ lvl n i, l.length = i ∧ ∀ c ∈ l, c < n := fun l hl => lvl_mem hl
    have hPl : (lvl n i).length ≤ 256 := lvl_len hn.2 (by omega)
    have hnext : lvl n (i + 1) = nxt n (lvl n i) := rfl
    generalize hP : lvl n i = P at *
    obtain ⟨cells, hcs, hrow⟩ := hO
    have hlX : lenA X = some (.int .i64 P.length) := by have := hcs.len; simpa using this
    simp only [hlX, letO_some]
    have hne : ∀ Q : List (List Nat), (∀ l ∈ Q, l ≠ []) → ∀ l ∈ Q.map up, l ≠ [] := by
      intro Q hQ l hl h
      obtain ⟨m, hm, rfl⟩ := List.mem_map.1 hl
      exact hQ m hm (List.eq_nil_of_length_eq_zero (by have := congrArg List.length h; simpa [up] using this))
    have hnn : ∀ Q m l, (∀ x ∈ nxt n Q ++ nxtC l m, x ≠ []) := by
      intro Q m l x hx
      rcases List.mem_append.1 hx with h | h
      · unfold nxt at h
        rw [List.mem_flatMap] at h
        obtain ⟨y, _, h⟩ := h
        obtain ⟨c, _, rfl⟩ := List.mem_map.1 h
        simp
      · obtain ⟨c, _, rfl⟩ := List.mem_map.1 h
        simp
    refine ⟨fun L H' => ∃ (j : Nat) (Y : AV), eqt L [Y, .int .i64 j] ∧ j ≤ P.length ∧ BT H1 H' Y ((nxt n (P.take j)).map up), fun L _ => (P.length - iv L 1).toNat, ⟨0, .nils, rfl, by omega, BT.nil H1⟩, ?_⟩
    rintro L H2 ⟨j, Y, rfl, hj, hBY⟩
    try simp only [letO_some, cellsOf?_agg, cellsOf?_int, cellsOf?_bool, cellsOf?_imm, cellsOf?_ref, cellsOf?_nils, faddr_iptr, faddr_ptr, List.drop_succ_cons, List.drop_zero, List.take_succ_cons, List.take_zero, load1_iptr, loadN_iptr, List.length_cons, List.length_nil, Nat.le_refl, if_true, List.getElem?_cons_zero, List.getElem?_cons_succ, List.getD_cons_zero, List.getD_cons_succ, extrF_tup, binF_add, binF_sub, binF_mul, binF_eql, binF_neq, binF_lss, binF_leq, binF_gtr, binF_geq, true_and]
    refine condA_t (fun hlt2 => ?_) (fun hge2 => ?_)
    · have b1 : j < P.length := by omega
      have hrj := hrow j (by simpa using b1)
      have hgj : (P.map up).getD j [] = up P[j] := by simp [List.getD_eq_getElem?_getD, b1]
      rw [hgj] at hrj
      obtain ⟨a, ha, hra⟩ : ∃ a, cells[j]? = some a ∧ ((a = .nils ∧ up P[j] = []) ∨ ∃ b cp, a = .ref 1 b 0 (up P[j]).length cp ∧ H1 b = some (ints (up P[j]))) := by
        rcases hrj with ⟨h1, h2⟩ | ⟨b, cp, h1, h2⟩
        · exact ⟨_, h1, .inl ⟨rfl, h2⟩⟩
        · exact ⟨_, h1, .inr ⟨b, cp, rfl, h2⟩⟩
      have hpl := (hPm P[j] (List.getElem_mem b1)).1
      have hRa : Reads H1 a (up P[j]) := by
        rcases hra with ⟨rfl, h2⟩ | ⟨b, cp, rfl, h2⟩
        · rw [h2]; rfl
        · exact ⟨rfl, rfl, _, h2, by simp, by rw [List.drop_zero, List.take_of_length_le (by simp)]⟩
      refine hcs.get hBY.le (by omega) (by simpa using b1) (by rw [Int.toNat_natCast]; exact ha) ?_
      try simp only [letO_some]
      have hnl := nxt_len (n := n) (P.take j)
      have hjl : (P.take j).length ≤ 256 := by rw [List.length_take]; omega
      have hmul : (P.take j).length * n ≤ 256 * 4 := Nat.mul_le_mul hjl hn.2
      have hjt : nxt n (P.take (j + 1)) = nxt n (P.take j) ++ nxtC P[j] n := nxt_take b1
      have hQne : ∀ x ∈ nxt n (P.take j), x ≠ [] := fun x hx => hnn (P.take j) 0 [] x (List.mem_append.2 (.inl hx))
      generalize P[j] = l at *
      generalize nxt n (P.take j) = Q at *
      refine ⟨fun L H' => ∃ (m : Nat) (Z : AV), eqt L [Z, .int .i64 m] ∧ m ≤ n ∧ BT H1 H' Z ((Q ++ nxtC l m).map up), fun L _ => (n - iv L 1).toNat, ⟨0, Y, rfl, by omega, by simpa [nxtC] using hBY⟩, ?_⟩
      rintro L H3 ⟨m, Z, rfl, hm, hBZ⟩
      try simp only [letO_some, cellsOf?_agg, cellsOf?_int, cellsOf?_bool, cellsOf?_imm, cellsOf?_ref, cellsOf?_nils, faddr_iptr, faddr_ptr, List.drop_succ_cons, List.drop_zero, List.take_succ_cons, List.take_zero, load1_iptr, loadN_iptr, List.length_cons, List.length_nil, Nat.le_refl, if_true, List.getElem?_cons_zero, List.getElem?_cons_succ, List.getD_cons_zero, List.getD_cons_succ, extrF_tup, binF_add, binF_sub, binF_mul, binF_eql, binF_neq, binF_lss, binF_leq, binF_gtr, binF_geq, true_and]
      refine condA_t (fun hlt3 => ?_) (fun hge3 => ?_)
      · have c1 : m < n := by omega
        have hRl := (hRa.le hBZ.le).len
        have hcl := nxtC_len l m
        refine ⟨fun L H' => ∃ Z' : AV, eqt L [Z'] ∧ BT H1 H' Z' ((Q ++ nxtC l (m + 1)).map up), ?_, ?_⟩
        · refine c62 (hRa.le hBZ.le) (by rw [up_length]; omega) ?_
          try simp only [not_v, letO_some, cellsOf?_agg, cellsOf?_int, cellsOf?_bool, cellsOf?_imm, cellsOf?_ref, cellsOf?_nils, faddr_iptr, faddr_ptr, List.drop_succ_cons, List.drop_zero, List.take_succ_cons, List.take_zero, load1_iptr, loadN_iptr, List.length_cons, List.length_nil, Nat.le_refl, if_true, List.getElem?_cons_zero, List.getElem?_cons_succ, List.getD_cons_zero, List.getD_cons_succ, extrF_tup, binF_add, binF_sub, binF_mul, binF_eql, binF_neq, binF_lss, binF_leq, binF_gtr, binF_geq, true_and]
          rw [nxtC_succ]
          by_cases hin : m ∈ l
          · have e2 : decide ((m : Int) ∈ up l) = true := decide_eq_true (mem_up.2 hin)
            simp only [e2, Bool.not_true, condA_ff]
            rw [if_pos hin, List.append_nil]
            exact ⟨Z, rfl, hBZ⟩
          · have e2 : decide ((m : Int) ∈ up l) = false := decide_eq_false (fun h => hin (mem_up.1 h))
            obtain ⟨s, hs, happ⟩ := append_cap (H := H1) (a := a) (l := up l) (x := (m : Int)) rfl hra (by rw [up_length]; omega)
            simp only [e2, Bool.not_false, condA_tt, hRl, hs, l23 cellsOf?_int, letO_some]
            refine happ H3 _ hBZ.le fun b hb => ?_
            simp only [l22 cellsOf?_ref, letO_some]
            have hup : up l ++ [(m : Int)] = up (l ++ [m]) := by simp [up]
            rw [hup]
            refine hBZ.push (l := up (l ++ [m])) (hne _ fun x hx => (List.mem_append.1 hx).elim (hQne x) fun h => by
              obtain ⟨c, _, rfl⟩ := List.mem_map.1 h
              simp) hb (by simp [up]) (by rw [List.length_map, List.length_append]; omega) fun Z' H7 hB7 => ?_
            refine ⟨Z', rfl, ?_⟩
            rw [if_neg hin, ← List.append_assoc, List.map_append (l₁ := Q ++ nxtC l m)]
            exact hB7
        · rintro L H4 ⟨Z', rfl, hBZ'⟩
          try simp only [letO_some, cellsOf?_agg, cellsOf?_int, cellsOf?_bool, cellsOf?_imm, cellsOf?_ref, cellsOf?_nils, faddr_iptr, faddr_ptr, List.drop_succ_cons, List.drop_zero, List.take_succ_cons, List.take_zero, load1_iptr, loadN_iptr, List.length_cons, List.length_nil, Nat.le_refl, if_true, List.getElem?_cons_zero, List.getElem?_cons_succ, List.getD_cons_zero, List.getD_cons_succ, extrF_tup, binF_add, binF_sub, binF_mul, binF_eql, binF_neq, binF_lss, binF_leq, binF_gtr, binF_geq, true_and]
          rw [wrap_i64 (by omega) (by omega)]
          exact ⟨⟨m + 1, Z', rfl, by omega, hBZ'⟩, by simp <;> omega⟩
      · have hme : m = n := by omega
        subst hme
        rw [wrap_i64 (by omega) (by omega)]
        refine ⟨⟨j + 1, Z, rfl, by omega, ?_⟩, by simp <;> omega⟩
        rw [hjt]; exact hBZ
    · have hje : j = P.length := by omega
      subst hje
      rw [List.take_length] at hBY
      rw [wrap_i64 (by omega) (by omega)]
      refine ⟨⟨i + 1, Y, rfl, by omega, Heap.le_trans hle1 hBY.le, ?_, .inr ⟨H1, hle1, ?_⟩⟩, by simp <;> omega⟩
      · rw [hnext]; exact hBY.ot
      · rw [hnext]; exact hBY
  · have hie : i = n := by omega
    subst hie
    rcases hB with h0 | ⟨H2, hle2, hB⟩
    · omega
    · have e : (lvl i i).map up = (plansS i).map up := by rw [lvl_ext]; rfl
      rw [e] at hB
      rcases hB with ⟨rfl, rfl, ht⟩ | ⟨bo, cells, rfl, hP⟩
      · exfalso
        have := congrArg List.length ht
        rw [List.length_map] at this
        have hx : 0 < (plansS i).length := by
          have hi4 : i = 1 ∨ i = 2 ∨ i = 3 ∨ i = 4 := by omega
          rcases hi4 with rfl | rfl | rfl | rfl <;> decide
        simp at this; rw [this] at hx; simp at hx
      · exact BT.end1 (.inr ⟨bo, cells, rfl, hP.base hle2⟩) hk
end Go.Proofs.YtbofkeoebnjjkaaDoor

namespace Go.Proofs.YtbofkeoebnjjkaaDoor
open Go.Av Tab
set_option linter.unusedVariables false
set_option linter.unusedSimpArgs false
set_option maxRecDepth 4000

/-- The plan that a ledger names. -/
def pick (g : List Nat) (j : Nat) : List Nat := (plansS (gsz g)).getD (gv g (19 + j) % (plansS (gsz g)).length) []
def evenK (g : List Nat) : Nat → Tb
  | 0 => zeroT (gsz g)
  | i + 1 => takeT (evenK g i) (up (pick g i)) (-1)
def evenN (g : List Nat) (most : Nat) : Nat := gv g 1 % (most + 1)
def evenT (g : List Nat) (most : Nat) : Tb := evenK g (evenN g most)
theorem plansS_pos {n : Nat} (hn : 1 ≤ n ∧ n ≤ 4) : 0 < (plansS n).length := by
  have h : n = 1 ∨ n = 2 ∨ n = 3 ∨ n = 4 := by omega
  rcases h with rfl | rfl | rfl | rfl <;> decide
theorem getD_mem {α : Type} {l : List α} {i : Nat} {d : α} (h : i < l.length) : l.getD i d ∈ l := by
  rw [List.getD_eq_getElem?_getD, List.getElem?_eq_getElem h]; exact List.getElem_mem h
theorem pick_mem (g : List Nat) (j : Nat) : pick g j ∈ plansS (gsz g) := getD_mem (Nat.mod_lt _ (plansS_pos (gsz_bd g)))
theorem pick_plan (g : List Nat) (j : Nat) : (pick g j).length = gsz g ∧ ∀ c ∈ pick g j, c < gsz g := plansS_mem (pick_mem g j)
theorem evenK_len (g : List Nat) : ∀ i, (evenK g i).length = gsz g
  | 0 => by simp [evenK, zeroT]
  | i + 1 => by rw [evenK, takeT_length, evenK_len g i]
theorem evenK_row (g : List Nat) : ∀ i r, r < gsz g → (row (evenK g i) r).length = gsz g
  | 0, r, hr => by simp [evenK, row, zeroT, List.getD_eq_getElem?_getD, hr]
  | i + 1, r, hr => by rw [evenK, takeT_rowlen (by rw [evenK_len]; exact hr), evenK_row g i r hr]
theorem evenK_fit (g : List Nat) (i j : Nat) : fitP (evenK g i) (up (pick g j)) := by
  obtain ⟨h1, h2⟩ := pick_plan g j
  refine ⟨by rw [up_length, h1, evenK_len]; exact Nat.le_refl _, fun r hr => ?_⟩
  rw [up_length, h1] at hr
  rw [up_getD, Int.toNat_natCast, evenK_row g i r hr]
  exact ⟨by omega, h2 _ (getD_mem (by omega))⟩
theorem zero_cell {t : Tb} {r c : Nat} (h : t.length ≤ r) : cell t r c = 0 := by
  unfold cell row
  rw [List.getD_eq_getElem?_getD (l := t), List.getElem?_eq_none (by omega)]; rfl
theorem evenK_cell (g : List Nat) : ∀ i r c, 0 ≤ cell (evenK g i) r c ∧ cell (evenK g i) r c ≤ i
  | 0, r, c => by
    have : cell (evenK g 0) r c = 0 := by
      unfold cell row evenK zeroT
      rw [List.getD_eq_getElem?_getD (l := List.replicate _ _), List.getElem?_replicate]
      split
      · rw [List.getD_eq_getElem?_getD, Option.getD_some, List.getElem?_replicate]
        split <;> rfl
      · rfl
    rw [this]; omega
  | i + 1, r, c => by
    have ih := evenK_cell g i r c
    by_cases hr : r < (evenK g i).length
    · rw [evenK, takeT_cell (evenK_fit g i i) hr]
      split <;> omega
    · have : cell (evenK g (i + 1)) r c = 0 := zero_cell (by rw [evenK_len]; rw [evenK_len] at hr; omega)
      rw [this]; omega
theorem evenK_chk (g : List Nat) {i : Nat} (hi : i ≤ 9) : chkT (evenK g i) = 0 := by
  have := gsz_bd g
  refine chkT_mk (by rw [evenK_len]; omega) (by rw [evenK_len]; omega) (fun r hr => ?_) (fun r c hr => ?_)
  · rw [evenK_len] at hr ⊢; exact evenK_row g i r hr
  · have := evenK_cell g i r c; omega
theorem perm_count : ∀ n : Fin 5, ∀ p ∈ plansS n.val, ∀ c : Fin 5, c.val < n.val → ((List.range n.val).filter fun r => decide (p.getD r 0 = c.val)).length = 1 := by decide +kernel
theorem colS_take {t : Tb} {p : List Nat} {x : Int} (hf : fitP t (up p)) (hp : p.length = t.length) (c : Nat) : ∀ m, m ≤ t.length → colS (takeT t (up p) x) c m = colS t c m - x * ((List.range m).filter fun r => decide (p.getD r 0 = c)).length
  | 0, _ => by simp [colS]
  | m + 1, h => by
    rw [colS_succ, colS_succ, colS_take hf hp c m (by omega), takeT_cell hf (by omega), up_length, hp, up_getN, List.range_succ, List.filter_append, List.length_append]
    by_cases h1 : p.getD m 0 = c
    · rw [if_pos ⟨by omega, h1.symm⟩]
      simp only [List.filter_cons, h1, decide_true, if_true, List.filter_nil, List.length_cons, List.length_nil]
      rw [show ((0 + 1 : Nat)) = 1 from rfl, Int.natCast_add, Int.mul_add]
      simp
      omega
    · rw [if_neg (fun h => h1 h.2.symm)]
      simp only [List.filter_cons, h1, decide_false, List.filter_nil, List.length_nil, Nat.add_zero, Bool.false_eq_true, if_false]
      omega
theorem rowS_takeR {t : Tb} {p : List Nat} {x : Int} (hf : fitP t (up p)) (hp : p.length = t.length) {r : Nat} (hr : r < t.length) : ∀ m, m ≤ t.length → rowS (takeT t (up p) x) r m = rowS t r m - if p.getD r 0 < m then x else 0
  | 0, _ => by simp [rowS]
  | m + 1, h => by
    rw [rowS_succ, rowS_succ, rowS_takeR hf hp hr m (by omega), takeT_cell hf hr, up_length, hp, up_getN]
    generalize p.getD r 0 = a
    by_cases h1 : m = a
    · rw [if_pos (c := r < t.length ∧ m = a) ⟨hr, h1⟩, if_neg (c := a < m) (by omega), if_pos (c := a < m + 1) (by omega)]; omega
    · rw [if_neg (c := r < t.length ∧ m = a) (fun h => h1 h.2)]
      by_cases h2 : a < m
      · rw [if_pos (c := a < m) h2, if_pos (c := a < m + 1) (by omega)]; omega
      · rw [if_neg (c := a < m) h2, if_neg (c := a < m + 1) (by omega)]; omega
theorem evenK_sums (g : List Nat) : ∀ i k, k < gsz g → rowS (evenK g i) k (gsz g) = i ∧ colS (evenK g i) k (gsz g) = i
  | 0, k, hk => by
    have h0 : ∀ r c, cell (evenK g 0) r c = 0 := fun r c => by have := evenK_cell g 0 r c; omega
    have h1 : ∀ m, rowS (evenK g 0) k m = 0 := by
      intro m
      induction m with
      | zero => rfl
      | succ m ih => rw [rowS_succ, ih, h0]; rfl
    have h2 : ∀ m, colS (evenK g 0) k m = 0 := by
      intro m
      induction m with
      | zero => rfl
      | succ m ih => rw [colS_succ, ih, h0]; rfl
    exact ⟨h1 _, h2 _⟩
  | i + 1, k, hk => by
    obtain ⟨h1, h2⟩ := evenK_sums g i k hk
    obtain ⟨p1, p2⟩ := pick_plan g i
    have hl := evenK_len g i
    have hb := gsz_bd g
    have hpk : (pick g i).getD k 0 < gsz g := p2 _ (getD_mem (by omega))
    have r1 := rowS_takeR (x := -1) (evenK_fit g i i) (by rw [p1, hl]) (r := k) (by omega) (gsz g) (by omega)
    have r2 := colS_take (x := -1) (evenK_fit g i i) (by rw [p1, hl]) k (gsz g) (by omega)
    have hcnt := perm_count ⟨gsz g, by omega⟩ (pick g i) (pick_mem g i) ⟨k, by omega⟩ hk
    simp only at hcnt
    rw [hcnt] at r2
    rw [if_pos hpk] at r1
    rw [evenK, r1, r2, h1, h2]
    constructor <;> omega
theorem evenK_even (g : List Nat) {i : Nat} (hi : i ≤ 9) : evenE (evenK g i) = ((i : Int), 0) := by
  have hb := gsz_bd g
  rw [evenE_iff (evenK_chk g hi), evenK_len]
  have h0 := evenK_sums g i 0 (by omega)
  rw [if_pos (fun k hk => by have := evenK_sums g i k hk; omega), h0.1]
/-- Ledger.even -/
theorem c44 {g : List Nat} {most : Nat} {H : Heap} {K : AV → Heap → Prop} (hg : Led g) (hm : 1 ≤ most ∧ most ≤ 8) (hk : K (.tup [tl (evenT g most), .int .i64 (evenN g most : Nat)]) H) : ACalls Tryd.prog 44 [.agg (u8s g), .int .i64 (most : Int)] H K := by
  apply W44_ok
  unfold W44
  have hb := gsz_bd g
  simp only [letO_some, cellsOf?_agg, cellsOf?_int, cellsOf?_bool, cellsOf?_imm, cellsOf?_ref, cellsOf?_nils, faddr_iptr, faddr_ptr, List.drop_succ_cons, List.drop_zero, List.take_succ_cons, List.take_zero, load1_iptr, loadN_iptr, List.length_cons, List.length_nil, Nat.le_refl, if_true, List.getElem?_cons_zero, List.getElem?_cons_succ, List.getD_cons_zero, List.getD_cons_succ, extrF_tup, binF_add, binF_sub, binF_mul, binF_eql, binF_neq, binF_lss, binF_leq, binF_gtr, binF_geq, true_and, hg.all]
  refine c58 hg ?_
  try simp only [letO_some, cellsOf?_agg, cellsOf?_int, cellsOf?_bool, cellsOf?_imm, cellsOf?_ref, cellsOf?_nils, faddr_iptr, faddr_ptr, List.drop_succ_cons, List.drop_zero, List.take_succ_cons, List.take_zero, load1_iptr, loadN_iptr, List.length_cons, List.length_nil, Nat.le_refl, if_true, List.getElem?_cons_zero, List.getElem?_cons_succ, List.getD_cons_zero, List.getD_cons_succ, extrF_tup, binF_add, binF_sub, binF_mul, binF_eql, binF_neq, binF_lss, binF_leq, binF_gtr, binF_geq, true_and]
  refine c45 hb ?_
  try simp only [letO_some, cellsOf?_agg, cellsOf?_int, cellsOf?_bool, cellsOf?_imm, cellsOf?_ref, cellsOf?_nils, faddr_iptr, faddr_ptr, List.drop_succ_cons, List.drop_zero, List.take_succ_cons, List.take_zero, load1_iptr, loadN_iptr, List.length_cons, List.length_nil, Nat.le_refl, if_true, List.getElem?_cons_zero, List.getElem?_cons_succ, List.getD_cons_zero, List.getD_cons_succ, extrF_tup, binF_add, binF_sub, binF_mul, binF_eql, binF_neq, binF_lss, binF_leq, binF_gtr, binF_geq, true_and]
  refine c49 ⟨hb.1, by omega⟩ fun bo cells H1 hP => ?_
  have h1 := hg.lt 1
  have hrm := rem_nat (k := .i64) (t := 3) (a := gv g 1) (b := most + 1) (by omega)
  have hen : gv g 1 % (most + 1) = evenN g most := rfl
  have hkl : evenN g most ≤ most := by have := Nat.mod_lt (gv g 1) (show most + 1 > 0 by omega); unfold evenN; omega
  simp only [letO_some, cellsOf?_agg, cellsOf?_int, cellsOf?_bool, cellsOf?_imm, cellsOf?_ref, cellsOf?_nils, faddr_iptr, faddr_ptr, List.drop_succ_cons, List.drop_zero, List.take_succ_cons, List.take_zero, load1_iptr, loadN_iptr, List.length_cons, List.length_nil, Nat.le_refl, if_true, List.getElem?_cons_zero, List.getElem?_cons_succ, List.getD_cons_zero, List.getD_cons_succ, extrF_tup, binF_add, binF_sub, binF_mul, binF_eql, binF_neq, binF_lss, binF_leq, binF_gtr, binF_geq, true_and, hg.load (show 1 < 27 by omega), conv53 (show (0 : Int) ≤ gv g 1 ∧ (gv g 1 : Int) < 256 by omega)]
  rw [wrap_i64 (by omega) (by omega), show ((most : Int) + 1) = ((most + 1 : Nat) : Int) by omega, hrm, hen]
  unfold evenT at hk
  generalize hkk : evenN g most = k at *
  have hslc : slcArr 8 1 (.iptr ((u8s g).drop 19)) none (some (.int .i64 (k : Int))) none = some (.imm k (k == 8) (((u8s g).drop 19).take k)) := by
    have e : natOf (some (.int .i64 (k : Int))) 8 = some k := by simp [natOf]
    have e3 : natOf none 0 = some 0 := rfl
    simp only [slcArr, e, e3, Option.bind_some]
    rw [if_pos ⟨by omega, by omega⟩]
    simp
  have hli : ∀ f cs, lenA (.imm k f cs) = some (.int .i64 (k : Int)) := fun _ _ => rfl
  simp only [letO_some, cellsOf?_agg, cellsOf?_int, cellsOf?_bool, cellsOf?_imm, cellsOf?_ref, cellsOf?_nils, faddr_iptr, faddr_ptr, List.drop_succ_cons, List.drop_zero, List.take_succ_cons, List.take_zero, load1_iptr, loadN_iptr, List.length_cons, List.length_nil, Nat.le_refl, if_true, List.getElem?_cons_zero, List.getElem?_cons_succ, List.getD_cons_zero, List.getD_cons_succ, extrF_tup, binF_add, binF_sub, binF_mul, binF_eql, binF_neq, binF_lss, binF_leq, binF_gtr, binF_geq, true_and, hslc, hli]
  have hPlen : ((plansS (gsz g)).map up).length = (plansS (gsz g)).length := by simp
  have hPL : ∀ H : Heap, lenA (tl ((plansS (gsz g)).map up)) = some (.int .i64 (plansS (gsz g)).length) := fun H => by rw [(RT.tl H _).len, hPlen]
  have hpos := plansS_pos hb
  refine ⟨fun L H' => ∃ i : Nat, eqt L [.int .i64 i] ∧ i ≤ k ∧ PT H H' bo cells (evenK g i), fun L _ => (k - iv L 0).toNat, ⟨0, rfl, by omega, hP⟩, ?_⟩
  rintro L H2 ⟨i, rfl, hi, hP⟩
  try simp only [letO_some, cellsOf?_agg, cellsOf?_int, cellsOf?_bool, cellsOf?_imm, cellsOf?_ref, cellsOf?_nils, faddr_iptr, faddr_ptr, List.drop_succ_cons, List.drop_zero, List.take_succ_cons, List.take_zero, load1_iptr, loadN_iptr, List.length_cons, List.length_nil, Nat.le_refl, if_true, List.getElem?_cons_zero, List.getElem?_cons_succ, List.getD_cons_zero, List.getD_cons_succ, extrF_tup, binF_add, binF_sub, binF_mul, binF_eql, binF_neq, binF_lss, binF_leq, binF_gtr, binF_geq, true_and]
  refine condA_t (fun hlt => ?_) (fun hge => ?_)
  · have a1 : i < k := by omega
    have hx := hg.lt (19 + i)
    have hel : ((((u8s g).drop 19).take k).drop (i * 1))[0]? = some (.int .u8 (gv g (19 + i) : Int)) := by
      rw [List.getElem?_drop, Nat.mul_one, Nat.add_zero, List.getElem?_take_of_lt a1, List.getElem?_drop]
      exact hg.at (by omega)
    have hrm2 := rem_nat (k := .i64) (t := 3) (a := gv g (19 + i)) (b := (plansS (gsz g)).length) (by omega)
    simp only [idx_imm a1, letO_some, cellsOf?_agg, cellsOf?_int, cellsOf?_bool, cellsOf?_imm, cellsOf?_ref, cellsOf?_nils, faddr_iptr, faddr_ptr, List.drop_succ_cons, List.drop_zero, List.take_succ_cons, List.take_zero, load1_iptr, loadN_iptr, List.length_cons, List.length_nil, Nat.le_refl, if_true, List.getElem?_cons_zero, List.getElem?_cons_succ, List.getD_cons_zero, List.getD_cons_succ, extrF_tup, binF_add, binF_sub, binF_mul, binF_eql, binF_neq, binF_lss, binF_leq, binF_gtr, binF_geq, true_and, hel, conv53 (show (0 : Int) ≤ gv g (19 + i) ∧ (gv g (19 + i) : Int) < 256 by omega), hPL H2, hrm2]
    have hml := Nat.mod_lt (gv g (19 + i)) hpos
    refine ReadsC.get (Heap.le_refl H2) (n := (plansS (gsz g)).length) (cells := ((plansS (gsz g)).map up).map sl) ⟨by simp, by simp [tl]⟩ (x := sl (up (pick g i))) (by omega) (by omega) ?_ ?_
    · rw [Int.toNat_natCast]
      simp [pick, List.getD_eq_getElem?_getD, hml]
    obtain ⟨p1, p2⟩ := pick_plan g i
    have hll : lenA (sl (up (pick g i))) = some (.int .i64 (gsz g : Nat)) := by rw [(Reads.sl H2 _).len, up_length, p1]
    simp only [letO_some, cellsOf?_agg, cellsOf?_int, cellsOf?_bool, cellsOf?_imm, cellsOf?_ref, cellsOf?_nils, faddr_iptr, faddr_ptr, List.drop_succ_cons, List.drop_zero, List.take_succ_cons, List.take_zero, load1_iptr, loadN_iptr, List.length_cons, List.length_nil, Nat.le_refl, if_true, List.getElem?_cons_zero, List.getElem?_cons_succ, List.getD_cons_zero, List.getD_cons_succ, extrF_tup, binF_add, binF_sub, binF_mul, binF_eql, binF_neq, binF_lss, binF_leq, binF_gtr, binF_geq, true_and, hll]
    have hl := evenK_len g i
    refine ⟨fun L H' => ∃ j : Nat, eqt L [.int .i64 j] ∧ j ≤ gsz g ∧ PT H H' bo cells (takeK (evenK g i) (up (pick g i)) (-1) j), fun L _ => (gsz g - iv L 0).toNat, ⟨0, rfl, by omega, by rw [takeK_zero]; exact hP⟩, ?_⟩
    rintro L H3 ⟨j, rfl, hj, hPj⟩
    try simp only [letO_some, cellsOf?_agg, cellsOf?_int, cellsOf?_bool, cellsOf?_imm, cellsOf?_ref, cellsOf?_nils, faddr_iptr, faddr_ptr, List.drop_succ_cons, List.drop_zero, List.take_succ_cons, List.take_zero, load1_iptr, loadN_iptr, List.length_cons, List.length_nil, Nat.le_refl, if_true, List.getElem?_cons_zero, List.getElem?_cons_succ, List.getD_cons_zero, List.getD_cons_succ, extrF_tup, binF_add, binF_sub, binF_mul, binF_eql, binF_neq, binF_lss, binF_leq, binF_gtr, binF_geq, true_and]
    refine condA_t (fun hlt2 => ?_) (fun hge2 => ?_)
    · have b1 : j < gsz g := by omega
      have hjl : j < (evenK g i).length := by omega
      refine (Reads.sl H3 (up (pick g i))).get (Heap.le_refl _) (by omega) (by rw [up_length]; omega) ?_
      rw [Int.toNat_natCast, up_getD]
      have hfit := (evenK_fit g i i).2 j (by rw [up_length]; omega)
      rw [up_getN] at hfit
      have hrow : (takeK (evenK g i) (up (pick g i)) (-1) j).getD j [] = row (evenK g i) j := by rw [takeK_get hjl, if_neg (by omega)]
      obtain ⟨w, q, q1, q2, q3, q4, q5⟩ := PT.cell none hPj (r := j) (c := (pick g i).getD j 0) (by simpa using hjl) (by rw [hrow]; exact hfit.2)
      rw [takeK_length, hl] at q1
      rw [hrow] at q4 q5
      have hcb := evenK_cell g i j ((pick g i).getD j 0)
      rw [show (row (evenK g i) j).getD ((pick g i).getD j 0) 0 = cell (evenK g i) j ((pick g i).getD j 0) from rfl] at q4
      simp only [q1, q2, q3, q4, letO_some, cellsOf?_agg, cellsOf?_int, cellsOf?_bool, cellsOf?_imm, cellsOf?_ref, cellsOf?_nils, faddr_iptr, faddr_ptr, List.drop_succ_cons, List.drop_zero, List.take_succ_cons, List.take_zero, load1_iptr, loadN_iptr, List.length_cons, List.length_nil, Nat.le_refl, if_true, List.getElem?_cons_zero, List.getElem?_cons_succ, List.getD_cons_zero, List.getD_cons_succ, extrF_tup, binF_add, binF_sub, binF_mul, binF_eql, binF_neq, binF_lss, binF_leq, binF_gtr, binF_geq, true_and]
      rw [wrap_i64 (n := cell (evenK g i) j ((pick g i).getD j 0) + 1) (by omega) (by omega)]
      refine q5 _ _ fun H4 hP4 => ?_
      rw [wrap_i64 (by omega) (by omega)]
      refine ⟨⟨j + 1, rfl, by omega, ?_⟩, by simp <;> omega⟩
      have hst := takeK_step (t := evenK g i) (p := up (pick g i)) (x := -1) (i := j) hjl
      rw [up_getN] at hst
      have e : cell (evenK g i) j ((pick g i).getD j 0) + 1 = cell (evenK g i) j ((pick g i).getD j 0) - -1 := by omega
      rw [e, hst] at hP4
      exact hP4
    · have hje : j = gsz g := by omega
      subst hje
      rw [wrap_i64 (by omega) (by omega)]
      refine ⟨⟨i + 1, rfl, by omega, ?_⟩, by simp <;> omega⟩
      have e : takeK (evenK g i) (up (pick g i)) (-1) (gsz g) = evenK g (i + 1) := by
        rw [evenK, takeT, up_length, p1]
      rw [e] at hPj
      exact hPj
  · have hie : i = k := by omega
    subst hie
    refine endK_all hP.le 3 ?_
    have := hP.pub none 0
    rw [evenK_len] at this
    show K (.tup [conv H H2 2 (.ref 1 bo 0 (gsz g) none), .int .i64 (i : Nat)]) H
    rw [this]; exact hk
end Go.Proofs.YtbofkeoebnjjkaaDoor

namespace Go.Proofs.YtbofkeoebnjjkaaDoor
open Tab
set_option linter.unusedVariables false
set_option linter.unusedSimpArgs false

/- Lists of rows and columns in ascending order, as sets. -/
theorem rd_gt {n : Nat} : ∀ {l : List Int} {last : Int}, rdE n last l = 0 → ∀ x ∈ l, last < x
  | [], _, _, x, hx => by simp at hx
  | a :: r, last, h, x, hx => by
    unfold rdE at h
    split at h
    · cases h
    · split at h
      · cases h
      · rcases List.mem_cons.1 hx with rfl | hx
        · omega
        · have := rd_gt h x hx; omega
theorem rd_lst {n : Nat} (hn : n ≤ 4) : ∀ (l : List Int) (last : Int), -1 ≤ last → rdE n last l = 0 → (List.range 4).filter (fun (c : Nat) => decide (last < (c : Int)) && memB l c) = l.map Int.toNat
  | [], last, _, _ => by simp [memB]
  | a :: r, last, hl, h => by
    have hgt := rd_gt h
    unfold rdE at h
    split at h
    · cases h
    · rename_i h1
      split at h
      · cases h
      · rename_i h2
        have ih := rd_lst hn r a (by omega) h
        have hgr := rd_gt h
        have h3 : ∀ c : Nat, (decide (last < (c : Int)) && memB (a :: r) c) = (decide ((c : Int) = a) || (decide (a < (c : Int)) && memB r c)) := by
          intro c
          unfold memB
          by_cases hc : (c : Int) = a
          · have : last < (c : Int) := by omega
            simp [hc]; omega
          · by_cases hm : (c : Int) ∈ r
            · have := hgr _ hm
              simp [hc, hm, this]; omega
            · simp [hc, hm]
        rw [List.filter_congr fun c _ => h3 c, List.map_cons, ← ih]
        have ha : a = 0 ∨ a = 1 ∨ a = 2 ∨ a = 3 := by omega
        have hr4 : List.range 4 = [0, 1, 2, 3] := rfl
        rw [hr4]
        rcases ha with rfl | rfl | rfl | rfl <;> simp [List.filter_cons]
theorem rd_bits {n : Nat} (hn : n ≤ 4) {l : List Int} (h : rdE n (-1) l = 0) : lst (bits4 (memB l)) = l.map Int.toNat := by
  rw [lst_bits, ← rd_lst hn l (-1) (by omega) h]
  refine List.filter_congr fun c _ => ?_
  have : (-1 : Int) < (c : Int) := by omega
  simp [this]
theorem bits4_zero {f : Nat → Bool} : bits4 f = 0 ↔ ∀ k, k < 4 → f k = false := by
  have key : ∀ a b c d : Bool, b4 a b c d = 0 ↔ (a = false ∧ b = false ∧ c = false ∧ d = false) := by decide
  unfold bits4
  rw [key]
  constructor
  · rintro ⟨h0, h1, h2, h3⟩ k hk
    rcases lt4 hk with rfl | rfl | rfl | rfl <;> assumption
  · intro h
    exact ⟨h 0 (by omega), h 1 (by omega), h 2 (by omega), h 3 (by omega)⟩
/-- Whether some number of a block is above 0. -/
def hitB (t : Tb) (rows cols : List Int) : Bool := rows.any fun r => cols.any fun c => decide (0 < cell t r.toNat c.toNat)
theorem proves_eq {t : Tb} (hc : chkT t = 0) (rows cols : List Int) : provesE t rows cols = if rdE t.length (-1) rows ≠ 0 then rdE t.length (-1) rows else if rdE t.length (-1) cols ≠ 0 then rdE t.length (-1) cols else if hitB t rows cols = true ∨ rows.length + cols.length ≤ t.length then 14 else 0 := by
  obtain ⟨n1, n2, hrows⟩ := chkT_ok hc
  rw [provesE, if_neg (by simp [hc])]
  by_cases h1 : rdE t.length (-1) rows = 0
  · have hR : readE t.length rows = (bits4 (memB rows), 0) := by rw [readE, if_pos h1]
    rw [hR, if_neg (c := rdE t.length (-1) rows ≠ 0) (by simp [h1]), if_neg (by simp)]
    by_cases h2 : rdE t.length (-1) cols = 0
    · have hC : readE t.length cols = (bits4 (memB cols), 0) := by rw [readE, if_pos h2]
      rw [hC, if_neg (c := rdE t.length (-1) cols ≠ 0) (by simp [h2]), if_neg (by simp)]
      simp only
      have e1 : popN (bits4 (memB rows)) = rows.length := by rw [popN, rd_bits n2 h1, List.length_map]
      have e2 : popN (bits4 (memB cols)) = cols.length := by rw [popN, rd_bits n2 h2, List.length_map]
      rw [e1, e2]
      have e3 : andN (bits4 (memB cols)) (zerosN t (bits4 (memB rows))) ≠ 0 ↔ hitB t rows cols = true := by
        have hm := rdE_mem h2
        have hmr := rdE_mem h1
        constructor
        · intro h
          unfold andN at h
          rw [Ne, bits4_zero] at h
          have h' : ∃ k, k < 4 ∧ ((bits4 (memB cols)).testBit k && !(zerosN t (bits4 (memB rows))).testBit k) = true := by
            refine Classical.byContradiction fun hx => h fun k hk => ?_
            cases hb : ((bits4 (memB cols)).testBit k && !(zerosN t (bits4 (memB rows))).testBit k) with
            | false => rfl
            | true => exact absurd ⟨k, hk, hb⟩ hx
          obtain ⟨k, hk, hb⟩ := h'
          rw [bits4_test hk, zerosN, bits4_test hk, Bool.and_eq_true, rd_bits n2 h1] at hb
          obtain ⟨hb1, hb2⟩ := hb
          have hkc : (k : Int) ∈ cols := of_decide_eq_true hb1
          have hkn := hm _ hkc
          unfold zerosB at hb2
          rw [decide_eq_true (by omega : k < t.length), Bool.true_and, Bool.not_eq_true', List.all_eq_false] at hb2
          obtain ⟨r, hr, hr2⟩ := hb2
          obtain ⟨r', hr', rfl⟩ := List.mem_map.1 hr
          unfold hitB
          rw [List.any_eq_true]
          refine ⟨r', hr', ?_⟩
          rw [List.any_eq_true]
          refine ⟨(k : Int), hkc, ?_⟩
          rw [Int.toNat_natCast]
          simpa using hr2
        · intro h
          unfold hitB at h
          rw [List.any_eq_true] at h
          obtain ⟨r, hr, h⟩ := h
          rw [List.any_eq_true] at h
          obtain ⟨c, hcm, h⟩ := h
          have hcn := hm c hcm
          unfold andN
          rw [Ne, bits4_zero]
          intro hx
          have := hx c.toNat (by omega)
          rw [bits4_test (by omega), zerosN, bits4_test (by omega), rd_bits n2 h1] at this
          have hb1 : memB cols c.toNat = true := by
            unfold memB
            rw [show ((c.toNat : Nat) : Int) = c by omega]
            exact decide_eq_true hcm
          rw [hb1, Bool.true_and, Bool.not_eq_false'] at this
          unfold zerosB at this
          rw [Bool.and_eq_true, List.all_eq_true] at this
          have h3 := this.2 r.toNat (List.mem_map.2 ⟨r, hr, rfl⟩)
          simp at h3 h
          omega
      by_cases h3 : hitB t rows cols = true
      · rw [if_pos (.inl (e3.2 h3)), if_pos (.inl h3)]
      · by_cases h4 : rows.length + cols.length ≤ t.length
        · rw [if_pos (.inr h4), if_pos (.inr h4)]
        · rw [if_neg (fun h => h.elim (fun h => h3 (e3.1 h)) h4), if_neg (fun h => h.elim h3 h4)]
    · have hC : readE t.length cols = (0, rdE t.length (-1) cols) := by rw [readE, if_neg h2]
      rw [hC, if_pos h2, if_pos h2]
  · have hR : readE t.length rows = (0, rdE t.length (-1) rows) := by rw [readE, if_neg h1]
    rw [hR, if_pos h1, if_pos h1]
end Go.Proofs.YtbofkeoebnjjkaaDoor
