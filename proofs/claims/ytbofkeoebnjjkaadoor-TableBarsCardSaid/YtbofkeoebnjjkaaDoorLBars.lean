import Derived.Test.YtbofkeoebnjjkaaDoorConB
import Derived.Test.YtbofkeoebnjjkaaDoorConA
import Derived.Test.YtbofkeoebnjjkaaDoorAvB
import Derived.Test.YtbofkeoebnjjkaaDoorBase
import Derived.Test.YtbofkeoebnjjkaaDoorRows
import Derived.MakeChecks
import Derived.LaidLaws
import Derived.Deep.DeepLaidRun
import Derived.LaidHandle
import Derived.Test.YtbofkeoebnjjkaaDoorTie
import Derived.Test.YtbofkeoebnjjkaaDoorCards
import Derived.SevenTiedAt
import Derived.Test.YtbofkeoebnjjkaaDoorLBarsW
/- TableBars: for every input the law returns true, and the input reads as before. No conditions. -/
namespace Go.Proofs.YtbofkeoebnjjkaaDoor
open Go.Av Tab
set_option linter.unusedVariables false
set_option linter.unusedSimpArgs false
set_option maxRecDepth 4000

/-- ref.in -/
theorem c78 {n lo hi : Int} {H : Heap} {K : AV → Heap → Prop} (hk : K (.bool (decide (lo ≤ n ∧ n ≤ hi))) H) : ACalls Tryd.prog 78 [.int .i64 n, .int .i64 lo, .int .i64 hi] H K := by
  apply W78_ok
  unfold W78
  try simp only [letO_some, cellsOf?_agg, cellsOf?_int, cellsOf?_bool, cellsOf?_imm, cellsOf?_ref, cellsOf?_nils, faddr_iptr, faddr_ptr, List.drop_succ_cons, List.drop_zero, List.take_succ_cons, List.take_zero, load1_iptr, loadN_iptr, List.length_cons, List.length_nil, Nat.le_refl, if_true, List.getElem?_cons_zero, List.getElem?_cons_succ, List.getD_cons_zero, List.getD_cons_succ, extrF_tup, binF_add, binF_sub, binF_mul, binF_eql, binF_neq, binF_lss, binF_leq, binF_gtr, binF_geq, true_and]
  by_cases h : lo ≤ n
  · simp only [h, decide_true, gval_bool, Int.reduceBNe, Int.reduceBEq, pickF_true, pickF_false, reduceIte, Bool.true_eq_false, Bool.false_eq_true, if_false, condA_tt, condA_ff, condG_tt, condG_ff, condG_tt', condG_ff', condG_undef, gval_undef, letO_some, cellsOf?_agg, cellsOf?_int, cellsOf?_bool, cellsOf?_imm, cellsOf?_ref, cellsOf?_nils, faddr_iptr, faddr_ptr, List.drop_succ_cons, List.drop_zero, List.take_succ_cons, List.take_zero, load1_iptr, loadN_iptr, List.length_cons, List.length_nil, Nat.le_refl, if_true, List.getElem?_cons_zero, List.getElem?_cons_succ, List.getD_cons_zero, List.getD_cons_succ, extrF_tup, binF_add, binF_sub, binF_mul, binF_eql, binF_neq, binF_lss, binF_leq, binF_gtr, binF_geq, true_and]
    simp only [h, true_and] at hk
    exact endK_ret hk
  · simp only [h, decide_false, gval_bool, Int.reduceBNe, Int.reduceBEq, pickF_true, pickF_false, reduceIte, Bool.true_eq_false, Bool.false_eq_true, if_false, condA_tt, condA_ff, condG_tt, condG_ff, condG_tt', condG_ff', condG_undef, gval_undef, letO_some, cellsOf?_agg, cellsOf?_int, cellsOf?_bool, cellsOf?_imm, cellsOf?_ref, cellsOf?_nils, faddr_iptr, faddr_ptr, List.drop_succ_cons, List.drop_zero, List.take_succ_cons, List.take_zero, load1_iptr, loadN_iptr, List.length_cons, List.length_nil, Nat.le_refl, if_true, List.getElem?_cons_zero, List.getElem?_cons_succ, List.getD_cons_zero, List.getD_cons_succ, extrF_tup, binF_add, binF_sub, binF_mul, binF_eql, binF_neq, binF_lss, binF_leq, binF_gtr, binF_geq, true_and]
    simp only [h, false_and, decide_false] at hk
    exact endK_ret hk
/-- ref.has -/
theorem c89 {v : AV} {l : List Int} {x : Int} {H : Heap} {K : AV → Heap → Prop} (hv : Reads H v l) (hl : l.length < 2 ^ 63) (hk : K (.bool (decide (x ∈ l))) H) : ACalls Tryd.prog 89 [v, .int .i64 x] H K := by
  apply W89_ok
  unfold W89
  try simp only [letO_some, cellsOf?_agg, cellsOf?_int, cellsOf?_bool, cellsOf?_imm, cellsOf?_ref, cellsOf?_nils, faddr_iptr, faddr_ptr, List.drop_succ_cons, List.drop_zero, List.take_succ_cons, List.take_zero, load1_iptr, loadN_iptr, List.length_cons, List.length_nil, Nat.le_refl, if_true, List.getElem?_cons_zero, List.getElem?_cons_succ, List.getD_cons_zero, List.getD_cons_succ, extrF_tup, binF_add, binF_sub, binF_mul, binF_eql, binF_neq, binF_lss, binF_leq, binF_gtr, binF_geq, true_and, hv.len]
  refine ⟨fun L H' => ∃ i : Nat, eqt L [.int .i64 i] ∧ i ≤ l.length ∧ eqt H' H ∧ x ∉ l.take i, fun L _ => (l.length - iv L 0).toNat, ⟨0, rfl, by omega, rfl, by simp⟩, ?_⟩
  rintro L H' ⟨i, rfl, hi, rfl, he⟩
  try simp only [letO_some, cellsOf?_agg, cellsOf?_int, cellsOf?_bool, cellsOf?_imm, cellsOf?_ref, cellsOf?_nils, faddr_iptr, faddr_ptr, List.drop_succ_cons, List.drop_zero, List.take_succ_cons, List.take_zero, load1_iptr, loadN_iptr, List.length_cons, List.length_nil, Nat.le_refl, if_true, List.getElem?_cons_zero, List.getElem?_cons_succ, List.getD_cons_zero, List.getD_cons_succ, extrF_tup, binF_add, binF_sub, binF_mul, binF_eql, binF_neq, binF_lss, binF_leq, binF_gtr, binF_geq, true_and]
  refine condA_t (fun hlt => ?_) (fun hge => ?_)
  · refine hv.get (Heap.le_refl _) (by omega) (by omega) ?_
    rw [Int.toNat_natCast]
    have a1 : i < l.length := by omega
    have g1 : l.getD i 0 = l[i] := by simp [List.getD_eq_getElem?_getD, a1]
    rw [g1]
    try simp only [letO_some, cellsOf?_agg, cellsOf?_int, cellsOf?_bool, cellsOf?_imm, cellsOf?_ref, cellsOf?_nils, faddr_iptr, faddr_ptr, List.drop_succ_cons, List.drop_zero, List.take_succ_cons, List.take_zero, load1_iptr, loadN_iptr, List.length_cons, List.length_nil, Nat.le_refl, if_true, List.getElem?_cons_zero, List.getElem?_cons_succ, List.getD_cons_zero, List.getD_cons_succ, extrF_tup, binF_add, binF_sub, binF_mul, binF_eql, binF_neq, binF_lss, binF_leq, binF_gtr, binF_geq, true_and]
    by_cases hx : l[i] = x
    · have e : (l[i] == x) = true := by rw [hx]; exact beq_self_eq_true _
      simp only [e, condA_tt]
      rw [decide_eq_true (by rw [← hx]; simp)] at hk
      exact endK_ret hk
    · have e : (l[i] == x) = false := by rw [beq_eq_false_iff_ne]; exact hx
      simp only [e, condA_ff]
      rw [wrap_i64 (by omega) (by omega)]
      refine ⟨⟨i + 1, rfl, by omega, rfl, ?_⟩, by simp <;> omega⟩
      rw [List.take_add_one, List.getElem?_eq_getElem a1]
      simp only [Option.toList, List.mem_append, List.mem_singleton, not_or]
      exact ⟨he, fun h => hx h.symm⟩
  · have hie : i = l.length := by omega
    subst hie
    rw [List.take_length] at he
    rw [decide_eq_false he] at hk
    exact endK_ret hk
/-- ref.planned -/
theorem c80 {v : AV} {p : List Int} {n : Nat} {H : Heap} {K : AV → Heap → Prop} (hv : Reads H v p) (hl : p.length < 2 ^ 63) (hk : K (.int .i64 (planE n p)) H) : ACalls Tryd.prog 80 [.int .i64 n, v] H K := by
  apply W80_ok
  unfold W80
  simp only [letO_some, cellsOf?_agg, cellsOf?_int, cellsOf?_bool, cellsOf?_imm, cellsOf?_ref, cellsOf?_nils, faddr_iptr, faddr_ptr, List.drop_succ_cons, List.drop_zero, List.take_succ_cons, List.take_zero, load1_iptr, loadN_iptr, List.length_cons, List.length_nil, Nat.le_refl, if_true, List.getElem?_cons_zero, List.getElem?_cons_succ, List.getD_cons_zero, List.getD_cons_succ, extrF_tup, binF_add, binF_sub, binF_mul, binF_eql, binF_neq, binF_lss, binF_leq, binF_gtr, binF_geq, true_and, hv.len]
  by_cases hlen : p.length = n
  · have e1 : (((p.length : Nat) : Int) != (n : Int)) = false := by rw [hlen]; simp
    simp only [e1, condA_ff]
    rw [planE, if_neg (by omega)] at hk
    refine ⟨fun L H' => ∃ i : Nat, eqt L [.int .i64 i] ∧ i ≤ p.length ∧ eqt H' H ∧ planS n [] p = planS n (p.take i) (p.drop i), fun L _ => (p.length - iv L 0).toNat, ⟨0, rfl, by omega, rfl, by simp⟩, ?_⟩
    rintro L H' ⟨i, rfl, hi, rfl, he⟩
    try simp only [letO_some, cellsOf?_agg, cellsOf?_int, cellsOf?_bool, cellsOf?_imm, cellsOf?_ref, cellsOf?_nils, faddr_iptr, faddr_ptr, List.drop_succ_cons, List.drop_zero, List.take_succ_cons, List.take_zero, load1_iptr, loadN_iptr, List.length_cons, List.length_nil, Nat.le_refl, if_true, List.getElem?_cons_zero, List.getElem?_cons_succ, List.getD_cons_zero, List.getD_cons_succ, extrF_tup, binF_add, binF_sub, binF_mul, binF_eql, binF_neq, binF_lss, binF_leq, binF_gtr, binF_geq, true_and]
    refine condA_t (fun hlt => ?_) (fun hge => ?_)
    · refine hv.get (Heap.le_refl _) (by omega) (by omega) ?_
      rw [Int.toNat_natCast]
      have a1 : i < p.length := by omega
      have g1 : p.getD i 0 = p[i] := by simp [List.getD_eq_getElem?_getD, a1]
      rw [g1]
      rw [List.drop_eq_getElem_cons a1, planS] at he
      rw [he] at hk
      try simp only [letO_some, cellsOf?_agg, cellsOf?_int, cellsOf?_bool, cellsOf?_imm, cellsOf?_ref, cellsOf?_nils, faddr_iptr, faddr_ptr, List.drop_succ_cons, List.drop_zero, List.take_succ_cons, List.take_zero, load1_iptr, loadN_iptr, List.length_cons, List.length_nil, Nat.le_refl, if_true, List.getElem?_cons_zero, List.getElem?_cons_succ, List.getD_cons_zero, List.getD_cons_succ, extrF_tup, binF_add, binF_sub, binF_mul, binF_eql, binF_neq, binF_lss, binF_leq, binF_gtr, binF_geq, true_and]
      rw [wrap_i64 (by omega) (by omega)]
      refine c78 ?_
      try simp only [not_v, letO_some, cellsOf?_agg, cellsOf?_int, cellsOf?_bool, cellsOf?_imm, cellsOf?_ref, cellsOf?_nils, faddr_iptr, faddr_ptr, List.drop_succ_cons, List.drop_zero, List.take_succ_cons, List.take_zero, load1_iptr, loadN_iptr, List.length_cons, List.length_nil, Nat.le_refl, if_true, List.getElem?_cons_zero, List.getElem?_cons_succ, List.getD_cons_zero, List.getD_cons_succ, extrF_tup, binF_add, binF_sub, binF_mul, binF_eql, binF_neq, binF_lss, binF_leq, binF_gtr, binF_geq, true_and]
      by_cases hbad : p[i] < 0 ∨ (n : Int) ≤ p[i]
      · rw [if_pos hbad] at hk
        have e2 : decide (0 ≤ p[i] ∧ p[i] ≤ (n : Int) - 1) = false := decide_eq_false (by omega)
        simp only [e2, Bool.not_false, condA_tt]
        exact endK_ret hk
      · rw [if_neg hbad] at hk
        have e2 : decide (0 ≤ p[i] ∧ p[i] ≤ (n : Int) - 1) = true := decide_eq_true (by omega)
        obtain ⟨y, hy, hry⟩ := slc_pre hv (k := i) (by omega)
        simp only [e2, Bool.not_true, condA_ff, hy, letO_some]
        refine hv.get (Heap.le_refl _) (by omega) (by omega) ?_
        rw [Int.toNat_natCast, g1]
        refine c89 hry (by rw [List.length_take]; omega) ?_
        by_cases hin : p[i] ∈ p.take i
        · rw [if_pos hin] at hk
          simp only [letO_some, cellsOf?_agg, cellsOf?_int, cellsOf?_bool, cellsOf?_imm, cellsOf?_ref, cellsOf?_nils, faddr_iptr, faddr_ptr, List.drop_succ_cons, List.drop_zero, List.take_succ_cons, List.take_zero, load1_iptr, loadN_iptr, List.length_cons, List.length_nil, Nat.le_refl, if_true, List.getElem?_cons_zero, List.getElem?_cons_succ, List.getD_cons_zero, List.getD_cons_succ, extrF_tup, binF_add, binF_sub, binF_mul, binF_eql, binF_neq, binF_lss, binF_leq, binF_gtr, binF_geq, true_and, hin, decide_true, condA_tt]
          exact endK_ret hk
        · simp only [letO_some, cellsOf?_agg, cellsOf?_int, cellsOf?_bool, cellsOf?_imm, cellsOf?_ref, cellsOf?_nils, faddr_iptr, faddr_ptr, List.drop_succ_cons, List.drop_zero, List.take_succ_cons, List.take_zero, load1_iptr, loadN_iptr, List.length_cons, List.length_nil, Nat.le_refl, if_true, List.getElem?_cons_zero, List.getElem?_cons_succ, List.getD_cons_zero, List.getD_cons_succ, extrF_tup, binF_add, binF_sub, binF_mul, binF_eql, binF_neq, binF_lss, binF_leq, binF_gtr, binF_geq, true_and, hin, decide_false, condA_ff]
          rw [wrap_i64 (by omega) (by omega)]
          refine ⟨⟨i + 1, rfl, by omega, rfl, ?_⟩, by simp <;> omega⟩
          rw [he, if_neg hbad, if_neg hin, List.take_add_one, List.getElem?_eq_getElem a1]; rfl
    · have hie : i = p.length := by omega
      subst hie
      rw [List.drop_length, planS] at he
      rw [he] at hk
      exact endK_ret hk
  · have e1 : (((p.length : Nat) : Int) != (n : Int)) = true := by rw [bne_iff_ne]; omega
    simp only [e1, condA_tt]
    rw [planE, if_pos hlen] at hk
    exact endK_ret hk
theorem chkRows_snoc {n : Nat} : ∀ (u : Tb) (l : List Int), chkRows n u = 0 → l.length = n → l.any badC = false → chkRows n (u ++ [l]) = 0 := by
  intro u
  induction u with
  | nil => intro l _ h2 h3; simp [chkRows, h2, h3]
  | cons m u ih =>
    intro l h1 h2 h3
    rw [chkRows] at h1
    rw [List.cons_append, chkRows]
    split at h1
    · cases h1
    · rename_i q1
      rw [if_neg q1]
      split at h1
      · cases h1
      · rename_i q2
        rw [if_neg q2]
        exact ih l h1 h2 h3
/-- ref.Check -/
theorem c31 {v : AV} {t : Tbl} {H : Heap} {K : AV → Heap → Prop} (hv : RT H v t) (hl : t.length < 2 ^ 63) (hl2 : ∀ l ∈ t, l.length < 2 ^ 63) (hk : K (.int .i64 (chkT t)) H) : ACalls Tryd.prog 31 [v] H K := by
  apply W31_ok
  unfold W31
  simp only [letO_some, cellsOf?_agg, cellsOf?_int, cellsOf?_bool, cellsOf?_imm, cellsOf?_ref, cellsOf?_nils, faddr_iptr, faddr_ptr, List.drop_succ_cons, List.drop_zero, List.take_succ_cons, List.take_zero, load1_iptr, loadN_iptr, List.length_cons, List.length_nil, Nat.le_refl, if_true, List.getElem?_cons_zero, List.getElem?_cons_succ, List.getD_cons_zero, List.getD_cons_succ, extrF_tup, binF_add, binF_sub, binF_mul, binF_eql, binF_neq, binF_lss, binF_leq, binF_gtr, binF_geq, true_and, hv.len]
  by_cases h0 : t.length = 0
  · have e1 : (((t.length : Nat) : Int) == 0) = true := by simp [h0]
    simp only [e1, condA_tt]
    rw [chkT, if_pos h0] at hk
    exact endK_ret hk
  have e1 : (((t.length : Nat) : Int) == 0) = false := by rw [beq_eq_false_iff_ne]; omega
  simp only [e1, condA_ff]
  by_cases h4 : 4 < t.length
  · have e2 : decide ((4 : Int) < ((t.length : Nat) : Int)) = true := by simp; omega
    simp only [e2, condA_tt]
    rw [chkT, if_neg h0, if_pos h4] at hk
    exact endK_ret hk
  have e2 : decide ((4 : Int) < ((t.length : Nat) : Int)) = false := by simp; omega
  simp only [e2, condA_ff]
  rw [chkT, if_neg h0, if_neg h4] at hk
  refine ⟨fun L H' => ∃ i : Nat, eqt L [.int .i64 i] ∧ i ≤ t.length ∧ eqt H' H ∧ chkRows t.length (t.take i) = 0, fun L _ => (t.length - iv L 0).toNat, ⟨0, rfl, by omega, rfl, by simp [chkRows]⟩, ?_⟩
  rintro L H' ⟨i, rfl, hi, rfl, he⟩
  try simp only [letO_some, cellsOf?_agg, cellsOf?_int, cellsOf?_bool, cellsOf?_imm, cellsOf?_ref, cellsOf?_nils, faddr_iptr, faddr_ptr, List.drop_succ_cons, List.drop_zero, List.take_succ_cons, List.take_zero, load1_iptr, loadN_iptr, List.length_cons, List.length_nil, Nat.le_refl, if_true, List.getElem?_cons_zero, List.getElem?_cons_succ, List.getD_cons_zero, List.getD_cons_succ, extrF_tup, binF_add, binF_sub, binF_mul, binF_eql, binF_neq, binF_lss, binF_leq, binF_gtr, binF_geq, true_and]
  refine condA_t (fun hlt => ?_) (fun hge => ?_)
  · refine hv.get (Heap.le_refl _) (by omega) (by omega) fun a ha => ?_
    rw [Int.toNat_natCast] at ha
    have a1 : i < t.length := by omega
    have g1 : t.getD i [] = t[i] := by simp [List.getD_eq_getElem?_getD, a1]
    rw [g1] at ha
    have hk2 := hk
    rw [chkRows_take t i he, List.drop_eq_getElem_cons a1, chkRows] at hk2
    simp only [ha.len, letO_some, cellsOf?_agg, cellsOf?_int, cellsOf?_bool, cellsOf?_imm, cellsOf?_ref, cellsOf?_nils, faddr_iptr, faddr_ptr, List.drop_succ_cons, List.drop_zero, List.take_succ_cons, List.take_zero, load1_iptr, loadN_iptr, List.length_cons, List.length_nil, Nat.le_refl, if_true, List.getElem?_cons_zero, List.getElem?_cons_succ, List.getD_cons_zero, List.getD_cons_succ, extrF_tup, binF_add, binF_sub, binF_mul, binF_eql, binF_neq, binF_lss, binF_leq, binF_gtr, binF_geq, true_and]
    by_cases hlen : t[i].length = t.length
    · have e3 : (((t[i].length : Nat) : Int) != ((t.length : Nat) : Int)) = false := by simp; omega
      simp only [e3, condA_ff, letO_some]
      rw [if_neg (by omega)] at hk2
      refine ⟨fun L H'' => ∃ j : Nat, eqt L [.int .i64 j] ∧ j ≤ t[i].length ∧ eqt H'' H' ∧ (t[i].take j).any badC = false, fun L _ => (t[i].length - iv L 0).toNat, ⟨0, rfl, by omega, rfl, by simp⟩, ?_⟩
      rintro L H'' ⟨j, rfl, hj, rfl, hb⟩
      try simp only [letO_some, cellsOf?_agg, cellsOf?_int, cellsOf?_bool, cellsOf?_imm, cellsOf?_ref, cellsOf?_nils, faddr_iptr, faddr_ptr, List.drop_succ_cons, List.drop_zero, List.take_succ_cons, List.take_zero, load1_iptr, loadN_iptr, List.length_cons, List.length_nil, Nat.le_refl, if_true, List.getElem?_cons_zero, List.getElem?_cons_succ, List.getD_cons_zero, List.getD_cons_succ, extrF_tup, binF_add, binF_sub, binF_mul, binF_eql, binF_neq, binF_lss, binF_leq, binF_gtr, binF_geq, true_and]
      refine hv.get (Heap.le_refl _) (by omega) (by omega) fun a ha => ?_
      rw [Int.toNat_natCast, g1] at ha
      simp only [ha.len, letO_some, cellsOf?_agg, cellsOf?_int, cellsOf?_bool, cellsOf?_imm, cellsOf?_ref, cellsOf?_nils, faddr_iptr, faddr_ptr, List.drop_succ_cons, List.drop_zero, List.take_succ_cons, List.take_zero, load1_iptr, loadN_iptr, List.length_cons, List.length_nil, Nat.le_refl, if_true, List.getElem?_cons_zero, List.getElem?_cons_succ, List.getD_cons_zero, List.getD_cons_succ, extrF_tup, binF_add, binF_sub, binF_mul, binF_eql, binF_neq, binF_lss, binF_leq, binF_gtr, binF_geq, true_and]
      refine condA_t (fun hlt2 => ?_) (fun hge2 => ?_)
      · refine hv.get (Heap.le_refl _) (by omega) (by omega) fun a ha => ?_
        rw [Int.toNat_natCast, g1] at ha
        try simp only [letO_some, cellsOf?_agg, cellsOf?_int, cellsOf?_bool, cellsOf?_imm, cellsOf?_ref, cellsOf?_nils, faddr_iptr, faddr_ptr, List.drop_succ_cons, List.drop_zero, List.take_succ_cons, List.take_zero, load1_iptr, loadN_iptr, List.length_cons, List.length_nil, Nat.le_refl, if_true, List.getElem?_cons_zero, List.getElem?_cons_succ, List.getD_cons_zero, List.getD_cons_succ, extrF_tup, binF_add, binF_sub, binF_mul, binF_eql, binF_neq, binF_lss, binF_leq, binF_gtr, binF_geq, true_and]
        refine ha.get (Heap.le_refl _) (by omega) (by omega) ?_
        rw [Int.toNat_natCast]
        have b1 : j < t[i].length := by omega
        have g2 : t[i].getD j 0 = t[i][j] := by simp [List.getD_eq_getElem?_getD, b1]
        rw [g2]
        refine c78 ?_
        try simp only [not_v, letO_some, cellsOf?_agg, cellsOf?_int, cellsOf?_bool, cellsOf?_imm, cellsOf?_ref, cellsOf?_nils, faddr_iptr, faddr_ptr, List.drop_succ_cons, List.drop_zero, List.take_succ_cons, List.take_zero, load1_iptr, loadN_iptr, List.length_cons, List.length_nil, Nat.le_refl, if_true, List.getElem?_cons_zero, List.getElem?_cons_succ, List.getD_cons_zero, List.getD_cons_succ, extrF_tup, binF_add, binF_sub, binF_mul, binF_eql, binF_neq, binF_lss, binF_leq, binF_gtr, binF_geq, true_and]
        by_cases hbad : 0 ≤ t[i][j] ∧ t[i][j] ≤ 9
        · simp only [hbad, and_self, decide_true, Bool.not_true, condA_ff]
          rw [wrap_i64 (by omega) (by omega)]
          refine ⟨⟨j + 1, rfl, by omega, rfl, ?_⟩, by simp <;> omega⟩
          rw [List.take_add_one, List.getElem?_eq_getElem b1, List.any_append, hb]
          simp [badC]; omega
        · simp only [hbad, decide_false, Bool.not_false, condA_tt]
          rw [if_pos (List.any_eq_true.2 ⟨t[i][j], by simp, by simp [badC]; omega⟩)] at hk2
          exact endK_ret hk2
      · have hje : j = t[i].length := by omega
        subst hje
        rw [List.take_length] at hb
        rw [if_neg (by simp [hb])] at hk2
        rw [wrap_i64 (by omega) (by omega)]
        refine ⟨⟨i + 1, rfl, by omega, rfl, ?_⟩, by simp <;> omega⟩
        rw [List.take_add_one]
        have : t[i]?.toList = [t[i]] := by simp [a1]
        rw [this]
        exact chkRows_snoc _ _ he hlen hb
    · have e3 : (((t[i].length : Nat) : Int) != ((t.length : Nat) : Int)) = true := by simp; omega
      simp only [e3, condA_tt, letO_some]
      rw [if_pos hlen] at hk2
      exact endK_ret hk2
  · have hil : i = t.length := by omega
    subst hil
    rw [List.take_length] at he
    rw [he] at hk
    exact endK_ret hk
/-- The sum of a column, as far as some row. -/
def colS (t : Tb) (k i : Nat) : Int := ((List.range i).map fun r => cell t r k).sum
def rowS (t : Tb) (k i : Nat) : Int := ((List.range i).map fun c => cell t k c).sum
theorem colS_bd {t : Tb} (hc : chkT t = 0) (k i : Nat) : 0 ≤ colS t k i ∧ colS t k i ≤ 9 * i := by
  induction i with
  | zero => simp [colS]
  | succ i ih =>
    have := cell_rng hc i k
    simp only [colS, List.range_succ, List.map_append, List.sum_append, List.map_cons, List.map_nil, List.sum_cons, List.sum_nil] at ih ⊢
    omega
theorem rowS_bd {t : Tb} (hc : chkT t = 0) (k i : Nat) : 0 ≤ rowS t k i ∧ rowS t k i ≤ 9 * i := by
  induction i with
  | zero => simp [rowS]
  | succ i ih =>
    have := cell_rng hc k i
    simp only [rowS, List.range_succ, List.map_append, List.sum_append, List.map_cons, List.map_nil, List.sum_cons, List.sum_nil] at ih ⊢
    omega
theorem colS_succ (t : Tb) (k i : Nat) : colS t k (i + 1) = colS t k i + cell t i k := by simp [colS, List.range_succ]
theorem rowS_succ (t : Tb) (k i : Nat) : rowS t k (i + 1) = rowS t k i + cell t k i := by simp [rowS, List.range_succ]
theorem rowS_row {t : Tb} (hc : chkT t = 0) {k : Nat} (hk : k < t.length) : rowS t k t.length = (row t k).sum := by
  unfold rowS
  congr 1
  refine List.ext_getElem (by simp [row_len hc hk]) fun i h1 h2 => ?_
  have : i < (row t k).length := h2
  simp [cell, List.getD_eq_getElem?_getD, this]
theorem colS_turn {t : Tb} {k : Nat} (hk : k < t.length) : colS t k t.length = (row (turnE t) k).sum := by
  unfold colS
  congr 1
  simp [row, turnE, List.getD_eq_getElem?_getD, hk]
/-- ref.sums -/
theorem c72 {v : AV} {t : Tbl} {k : Nat} {H : Heap} {K : AV → Heap → Prop} (hc : chkT t = 0) (hv : RT H v t) (hkn : k < t.length) (hk : K (.tup [.int .i64 (rowS t k t.length), .int .i64 (colS t k t.length)]) H) : ACalls Tryd.prog 72 [v, .int .i64 k] H K := by
  apply W72_ok
  unfold W72
  obtain ⟨n1, n2, hrows⟩ := chkT_ok hc
  simp only [letO_some, cellsOf?_agg, cellsOf?_int, cellsOf?_bool, cellsOf?_imm, cellsOf?_ref, cellsOf?_nils, faddr_iptr, faddr_ptr, List.drop_succ_cons, List.drop_zero, List.take_succ_cons, List.take_zero, load1_iptr, loadN_iptr, List.length_cons, List.length_nil, Nat.le_refl, if_true, List.getElem?_cons_zero, List.getElem?_cons_succ, List.getD_cons_zero, List.getD_cons_succ, extrF_tup, binF_add, binF_sub, binF_mul, binF_eql, binF_neq, binF_lss, binF_leq, binF_gtr, binF_geq, true_and, hv.len]
  refine ⟨fun L H' => ∃ i : Nat, eqt L [.int .i64 (rowS t k i), .int .i64 (colS t k i), .int .i64 i] ∧ i ≤ t.length ∧ eqt H' H, fun L _ => (t.length - iv L 2).toNat, ⟨0, rfl, by omega, rfl⟩, ?_⟩
  rintro L H' ⟨i, rfl, hi, rfl⟩
  try simp only [letO_some, cellsOf?_agg, cellsOf?_int, cellsOf?_bool, cellsOf?_imm, cellsOf?_ref, cellsOf?_nils, faddr_iptr, faddr_ptr, List.drop_succ_cons, List.drop_zero, List.take_succ_cons, List.take_zero, load1_iptr, loadN_iptr, List.length_cons, List.length_nil, Nat.le_refl, if_true, List.getElem?_cons_zero, List.getElem?_cons_succ, List.getD_cons_zero, List.getD_cons_succ, extrF_tup, binF_add, binF_sub, binF_mul, binF_eql, binF_neq, binF_lss, binF_leq, binF_gtr, binF_geq, true_and]
  refine condA_t (fun hlt => ?_) (fun hge => ?_)
  · have a1 : i < t.length := by omega
    have l1 : (t.getD k []).length = t.length := row_len hc hkn
    have l2 : (t.getD i []).length = t.length := row_len hc a1
    refine hv.get (Heap.le_refl _) (by omega) (by omega) fun a ha => ?_
    rw [Int.toNat_natCast] at ha
    try simp only [letO_some, cellsOf?_agg, cellsOf?_int, cellsOf?_bool, cellsOf?_imm, cellsOf?_ref, cellsOf?_nils, faddr_iptr, faddr_ptr, List.drop_succ_cons, List.drop_zero, List.take_succ_cons, List.take_zero, load1_iptr, loadN_iptr, List.length_cons, List.length_nil, Nat.le_refl, if_true, List.getElem?_cons_zero, List.getElem?_cons_succ, List.getD_cons_zero, List.getD_cons_succ, extrF_tup, binF_add, binF_sub, binF_mul, binF_eql, binF_neq, binF_lss, binF_leq, binF_gtr, binF_geq, true_and]
    refine ha.get (Heap.le_refl _) (by omega) (by omega) ?_
    rw [Int.toNat_natCast]
    have b1 := rowS_bd hc k i
    have b2 := colS_bd hc k i
    have b3 := cell_rng hc k i
    have b4 := cell_rng hc i k
    try simp only [letO_some, cellsOf?_agg, cellsOf?_int, cellsOf?_bool, cellsOf?_imm, cellsOf?_ref, cellsOf?_nils, faddr_iptr, faddr_ptr, List.drop_succ_cons, List.drop_zero, List.take_succ_cons, List.take_zero, load1_iptr, loadN_iptr, List.length_cons, List.length_nil, Nat.le_refl, if_true, List.getElem?_cons_zero, List.getElem?_cons_succ, List.getD_cons_zero, List.getD_cons_succ, extrF_tup, binF_add, binF_sub, binF_mul, binF_eql, binF_neq, binF_lss, binF_leq, binF_gtr, binF_geq, true_and]
    rw [show (t.getD k []).getD i 0 = cell t k i from rfl, wrap_i64 (by omega) (by omega), ← rowS_succ]
    refine hv.get (Heap.le_refl _) (by omega) (by omega) fun a ha => ?_
    rw [Int.toNat_natCast] at ha
    try simp only [letO_some, cellsOf?_agg, cellsOf?_int, cellsOf?_bool, cellsOf?_imm, cellsOf?_ref, cellsOf?_nils, faddr_iptr, faddr_ptr, List.drop_succ_cons, List.drop_zero, List.take_succ_cons, List.take_zero, load1_iptr, loadN_iptr, List.length_cons, List.length_nil, Nat.le_refl, if_true, List.getElem?_cons_zero, List.getElem?_cons_succ, List.getD_cons_zero, List.getD_cons_succ, extrF_tup, binF_add, binF_sub, binF_mul, binF_eql, binF_neq, binF_lss, binF_leq, binF_gtr, binF_geq, true_and]
    refine ha.get (Heap.le_refl _) (by omega) (by omega) ?_
    rw [Int.toNat_natCast]
    try simp only [letO_some, cellsOf?_agg, cellsOf?_int, cellsOf?_bool, cellsOf?_imm, cellsOf?_ref, cellsOf?_nils, faddr_iptr, faddr_ptr, List.drop_succ_cons, List.drop_zero, List.take_succ_cons, List.take_zero, load1_iptr, loadN_iptr, List.length_cons, List.length_nil, Nat.le_refl, if_true, List.getElem?_cons_zero, List.getElem?_cons_succ, List.getD_cons_zero, List.getD_cons_succ, extrF_tup, binF_add, binF_sub, binF_mul, binF_eql, binF_neq, binF_lss, binF_leq, binF_gtr, binF_geq, true_and]
    rw [show (t.getD i []).getD k 0 = cell t i k from rfl, wrap_i64 (n := colS t k i + _) (by omega) (by omega), ← colS_succ, wrap_i64 (by omega) (by omega)]
    exact ⟨⟨i + 1, rfl, by omega, rfl⟩, by simp <;> omega⟩
  · have hie : i = t.length := by omega
    subst hie
    exact endK_ret hk
/-- What even tables are, row by row. -/
theorem evenE_iff {t : Tb} (hc : chkT t = 0) : evenE t = if ∀ k, k < t.length → rowS t k t.length = rowS t 0 t.length ∧ colS t k t.length = rowS t 0 t.length then (rowS t 0 t.length, 0) else (0, 17) := by
  obtain ⟨n1, n2, hrows⟩ := chkT_ok hc
  rw [evenE, if_neg (by simp [hc]), ← rowS_row hc (by omega)]
  have h : ((turnE t ++ t).all fun l => decide (l.sum = rowS t 0 t.length)) = true ↔ ∀ k, k < t.length → rowS t k t.length = rowS t 0 t.length ∧ colS t k t.length = rowS t 0 t.length := by
    rw [List.all_append, Bool.and_eq_true, List.all_eq_true, List.all_eq_true]
    constructor
    · rintro ⟨h1, h2⟩ k hk
      refine ⟨?_, ?_⟩
      · rw [rowS_row hc hk]; exact of_decide_eq_true (h2 _ (row_mem hk))
      · rw [colS_turn hk]; exact of_decide_eq_true (h1 _ (row_mem (by simpa using hk)))
    · intro h
      refine ⟨fun l hl => ?_, fun l hl => ?_⟩
      · obtain ⟨k, hk, rfl⟩ := List.getElem_of_mem hl
        have hk' : k < t.length := by simpa using hk
        have := (h k hk').2
        rw [colS_turn hk'] at this
        have e : row (turnE t) k = (turnE t)[k] := by simp only [row, List.getD_eq_getElem?_getD, List.getElem?_eq_getElem hk, Option.getD_some]
        rw [← e]; exact decide_eq_true this
      · obtain ⟨k, hk, rfl⟩ := List.getElem_of_mem hl
        have := (h k hk).1
        rw [rowS_row hc hk] at this
        have e : row t k = t[k] := by simp only [row, List.getD_eq_getElem?_getD, List.getElem?_eq_getElem hk, Option.getD_some]
        rw [← e]; exact decide_eq_true this
  by_cases hx : ∀ k, k < t.length → rowS t k t.length = rowS t 0 t.length ∧ colS t k t.length = rowS t 0 t.length
  · rw [if_pos (h.2 hx), if_pos hx]
  · rw [if_neg (fun h' => hx (h.1 h')), if_neg hx]
/-- ref.Even -/
theorem c19 {v : AV} {t : Tbl} {H : Heap} {K : AV → Heap → Prop} (hv : RT H v t) (hl : t.length < 2 ^ 63) (hl2 : ∀ l ∈ t, l.length < 2 ^ 63) (hk : K (.tup [.int .i64 (evenE t).1, .int .i64 (evenE t).2]) H) : ACalls Tryd.prog 19 [v] H K := by
  apply W19_ok
  unfold W19
  try simp only [letO_some, cellsOf?_agg, cellsOf?_int, cellsOf?_bool, cellsOf?_imm, cellsOf?_ref, cellsOf?_nils, faddr_iptr, faddr_ptr, List.drop_succ_cons, List.drop_zero, List.take_succ_cons, List.take_zero, load1_iptr, loadN_iptr, List.length_cons, List.length_nil, Nat.le_refl, if_true, List.getElem?_cons_zero, List.getElem?_cons_succ, List.getD_cons_zero, List.getD_cons_succ, extrF_tup, binF_add, binF_sub, binF_mul, binF_eql, binF_neq, binF_lss, binF_leq, binF_gtr, binF_geq, true_and]
  refine c31 hv hl hl2 ?_
  try simp only [letO_some, cellsOf?_agg, cellsOf?_int, cellsOf?_bool, cellsOf?_imm, cellsOf?_ref, cellsOf?_nils, faddr_iptr, faddr_ptr, List.drop_succ_cons, List.drop_zero, List.take_succ_cons, List.take_zero, load1_iptr, loadN_iptr, List.length_cons, List.length_nil, Nat.le_refl, if_true, List.getElem?_cons_zero, List.getElem?_cons_succ, List.getD_cons_zero, List.getD_cons_succ, extrF_tup, binF_add, binF_sub, binF_mul, binF_eql, binF_neq, binF_lss, binF_leq, binF_gtr, binF_geq, true_and]
  by_cases hc : chkT t = 0
  · have e1 : (chkT t != 0) = false := by rw [hc]; rfl
    simp only [e1, condA_ff]
    obtain ⟨n1, n2, hrows⟩ := chkT_ok hc
    refine c72 (k := 0) hc hv (by omega) ?_
    rw [evenE_iff hc] at hk
    simp only [letO_some, cellsOf?_agg, cellsOf?_int, cellsOf?_bool, cellsOf?_imm, cellsOf?_ref, cellsOf?_nils, faddr_iptr, faddr_ptr, List.drop_succ_cons, List.drop_zero, List.take_succ_cons, List.take_zero, load1_iptr, loadN_iptr, List.length_cons, List.length_nil, Nat.le_refl, if_true, List.getElem?_cons_zero, List.getElem?_cons_succ, List.getD_cons_zero, List.getD_cons_succ, extrF_tup, binF_add, binF_sub, binF_mul, binF_eql, binF_neq, binF_lss, binF_leq, binF_gtr, binF_geq, true_and, hv.len]
    refine ⟨fun L H' => ∃ i : Nat, eqt L [.int .i64 i] ∧ i ≤ t.length ∧ eqt H' H ∧ ∀ k, k < i → rowS t k t.length = rowS t 0 t.length ∧ colS t k t.length = rowS t 0 t.length, fun L _ => (t.length - iv L 0).toNat, ⟨0, rfl, by omega, rfl, fun k hk => by omega⟩, ?_⟩
    rintro L H' ⟨i, rfl, hi, rfl, he⟩
    try simp only [letO_some, cellsOf?_agg, cellsOf?_int, cellsOf?_bool, cellsOf?_imm, cellsOf?_ref, cellsOf?_nils, faddr_iptr, faddr_ptr, List.drop_succ_cons, List.drop_zero, List.take_succ_cons, List.take_zero, load1_iptr, loadN_iptr, List.length_cons, List.length_nil, Nat.le_refl, if_true, List.getElem?_cons_zero, List.getElem?_cons_succ, List.getD_cons_zero, List.getD_cons_succ, extrF_tup, binF_add, binF_sub, binF_mul, binF_eql, binF_neq, binF_lss, binF_leq, binF_gtr, binF_geq, true_and]
    refine condA_t (fun hlt => ?_) (fun hge => ?_)
    · have a1 : i < t.length := by omega
      refine c72 hc hv a1 ?_
      try simp only [letO_some, cellsOf?_agg, cellsOf?_int, cellsOf?_bool, cellsOf?_imm, cellsOf?_ref, cellsOf?_nils, faddr_iptr, faddr_ptr, List.drop_succ_cons, List.drop_zero, List.take_succ_cons, List.take_zero, load1_iptr, loadN_iptr, List.length_cons, List.length_nil, Nat.le_refl, if_true, List.getElem?_cons_zero, List.getElem?_cons_succ, List.getD_cons_zero, List.getD_cons_succ, extrF_tup, binF_add, binF_sub, binF_mul, binF_eql, binF_neq, binF_lss, binF_leq, binF_gtr, binF_geq, true_and]
      by_cases h1 : rowS t i t.length = rowS t 0 t.length
      · have e2 : (rowS t i t.length != rowS t 0 t.length) = false := by rw [h1]; simp
        simp only [e2, gval_bool, Int.reduceBNe, Int.reduceBEq, pickF_true, pickF_false, reduceIte, Bool.true_eq_false, Bool.false_eq_true, if_false, condA_tt, condA_ff, condG_tt, condG_ff, condG_tt', condG_ff', condG_undef, gval_undef, letO_some, cellsOf?_agg, cellsOf?_int, cellsOf?_bool, cellsOf?_imm, cellsOf?_ref, cellsOf?_nils, faddr_iptr, faddr_ptr, List.drop_succ_cons, List.drop_zero, List.take_succ_cons, List.take_zero, load1_iptr, loadN_iptr, List.length_cons, List.length_nil, Nat.le_refl, if_true, List.getElem?_cons_zero, List.getElem?_cons_succ, List.getD_cons_zero, List.getD_cons_succ, extrF_tup, binF_add, binF_sub, binF_mul, binF_eql, binF_neq, binF_lss, binF_leq, binF_gtr, binF_geq, true_and]
        by_cases h2 : colS t i t.length = rowS t 0 t.length
        · have e3 : (colS t i t.length != rowS t 0 t.length) = false := by rw [h2]; simp
          simp only [e3, condA_ff]
          rw [wrap_i64 (by omega) (by omega)]
          refine ⟨⟨i + 1, rfl, by omega, rfl, fun k hk => ?_⟩, by simp <;> omega⟩
          by_cases hki : k = i
          · subst hki; exact ⟨h1, h2⟩
          · exact he k (by omega)
        · have e3 : (colS t i t.length != rowS t 0 t.length) = true := by rw [bne_iff_ne]; exact h2
          simp only [e3, condA_tt]
          rw [if_neg fun h => h2 (h i a1).2] at hk
          exact endK_ret hk
      · have e2 : (rowS t i t.length != rowS t 0 t.length) = true := by rw [bne_iff_ne]; exact h1
        simp only [e2, gval_bool, Int.reduceBNe, Int.reduceBEq, pickF_true, pickF_false, reduceIte, Bool.true_eq_false, Bool.false_eq_true, if_false, condA_tt, condA_ff, condG_tt, condG_ff, condG_tt', condG_ff', condG_undef, gval_undef, letO_some, cellsOf?_agg, cellsOf?_int, cellsOf?_bool, cellsOf?_imm, cellsOf?_ref, cellsOf?_nils, faddr_iptr, faddr_ptr, List.drop_succ_cons, List.drop_zero, List.take_succ_cons, List.take_zero, load1_iptr, loadN_iptr, List.length_cons, List.length_nil, Nat.le_refl, if_true, List.getElem?_cons_zero, List.getElem?_cons_succ, List.getD_cons_zero, List.getD_cons_succ, extrF_tup, binF_add, binF_sub, binF_mul, binF_eql, binF_neq, binF_lss, binF_leq, binF_gtr, binF_geq, true_and]
        rw [if_neg fun h => h1 (h i a1).1] at hk
        exact endK_ret hk
    · have hie : i = t.length := by omega
      subst hie
      rw [if_pos he] at hk
      exact endK_ret hk
  · have e1 : (chkT t != 0) = true := by simp [hc]
    simp only [e1, condA_tt]
    rw [evenE, if_pos hc] at hk
    exact endK_ret hk
/-- The smallest number at a plan. -/
def leastK (t : Tb) (p : List Int) : Nat → Int
  | 0 => cell t 0 (p.getD 0 0).toNat
  | i + 1 => if cell t i (p.getD i 0).toNat < leastK t p i then cell t i (p.getD i 0).toNat else leastK t p i
theorem leastK_one (t : Tb) (p : List Int) : leastK t p 1 = leastK t p 0 := by simp [leastK]
/-- ref.least -/
theorem c81 {v u : AV} {t : Tbl} {p : List Int} {H : Heap} {K : AV → Heap → Prop} (hc : chkT t = 0) (hv : RT H v t) (hu : Reads H u p) (hpl : p.length = t.length) (hp : ∀ c ∈ p, 0 ≤ c ∧ c < t.length) (hk : K (.int .i64 (leastK t p p.length)) H) : ACalls Tryd.prog 81 [v, u] H K := by
  apply W81_ok
  unfold W81
  obtain ⟨n1, n2, hrows⟩ := chkT_ok hc
  have hget : ∀ i, i < p.length → p.getD i 0 ∈ p := fun i hi => by rw [List.getD_eq_getElem?_getD]; simp [hi]
  have hcell : ∀ (H' : Heap) (i : Nat) (k : AV → Prop), H.le H' → i < p.length → k (.int .i64 (cell t i (p.getD i 0).toNat)) →
      letO (idx 1 v (.int .i64 (i : Int))) fun q => letO (load1 q H') fun a => letO (idx 1 u (.int .i64 (i : Int))) fun q2 => letO (load1 q2 H') fun c => letO (idx 1 a c) fun q3 => letO (load1 q3 H') k := by
    intro H' i k hle hi hk
    have l1 : (t.getD i []).length = t.length := row_len hc (by omega)
    have hr := hp _ (hget i hi)
    refine hv.get hle (by omega) (by omega) fun a ha => ?_
    rw [Int.toNat_natCast] at ha
    refine hu.get hle (by omega) (by omega) ?_
    rw [Int.toNat_natCast]
    refine ha.get hle (by omega) (by omega) ?_
    exact hk
  try simp only [letO_some, cellsOf?_agg, cellsOf?_int, cellsOf?_bool, cellsOf?_imm, cellsOf?_ref, cellsOf?_nils, faddr_iptr, faddr_ptr, List.drop_succ_cons, List.drop_zero, List.take_succ_cons, List.take_zero, load1_iptr, loadN_iptr, List.length_cons, List.length_nil, Nat.le_refl, if_true, List.getElem?_cons_zero, List.getElem?_cons_succ, List.getD_cons_zero, List.getD_cons_succ, extrF_tup, binF_add, binF_sub, binF_mul, binF_eql, binF_neq, binF_lss, binF_leq, binF_gtr, binF_geq, true_and]
  refine hcell H 0 _ (Heap.le_refl _) (by omega) ?_
  try simp only [letO_some, cellsOf?_agg, cellsOf?_int, cellsOf?_bool, cellsOf?_imm, cellsOf?_ref, cellsOf?_nils, faddr_iptr, faddr_ptr, List.drop_succ_cons, List.drop_zero, List.take_succ_cons, List.take_zero, load1_iptr, loadN_iptr, List.length_cons, List.length_nil, Nat.le_refl, if_true, List.getElem?_cons_zero, List.getElem?_cons_succ, List.getD_cons_zero, List.getD_cons_succ, extrF_tup, binF_add, binF_sub, binF_mul, binF_eql, binF_neq, binF_lss, binF_leq, binF_gtr, binF_geq, true_and, hu.len]
  refine ⟨fun L H' => ∃ i : Nat, eqt L [.int .i64 (leastK t p i), .int .i64 i] ∧ 1 ≤ i ∧ i ≤ p.length ∧ eqt H' H, fun L _ => (p.length - iv L 1).toNat, ⟨1, by rw [leastK_one]; rfl, by omega, by omega, rfl⟩, ?_⟩
  rintro L H' ⟨i, rfl, h1, hi, rfl⟩
  try simp only [letO_some, cellsOf?_agg, cellsOf?_int, cellsOf?_bool, cellsOf?_imm, cellsOf?_ref, cellsOf?_nils, faddr_iptr, faddr_ptr, List.drop_succ_cons, List.drop_zero, List.take_succ_cons, List.take_zero, load1_iptr, loadN_iptr, List.length_cons, List.length_nil, Nat.le_refl, if_true, List.getElem?_cons_zero, List.getElem?_cons_succ, List.getD_cons_zero, List.getD_cons_succ, extrF_tup, binF_add, binF_sub, binF_mul, binF_eql, binF_neq, binF_lss, binF_leq, binF_gtr, binF_geq, true_and]
  refine condA_t (fun hlt => ?_) (fun hge => ?_)
  · refine hcell H' i _ (Heap.le_refl _) (by omega) ?_
    try simp only [min2F, letO_some, cellsOf?_agg, cellsOf?_int, cellsOf?_bool, cellsOf?_imm, cellsOf?_ref, cellsOf?_nils, faddr_iptr, faddr_ptr, List.drop_succ_cons, List.drop_zero, List.take_succ_cons, List.take_zero, load1_iptr, loadN_iptr, List.length_cons, List.length_nil, Nat.le_refl, if_true, List.getElem?_cons_zero, List.getElem?_cons_succ, List.getD_cons_zero, List.getD_cons_succ, extrF_tup, binF_add, binF_sub, binF_mul, binF_eql, binF_neq, binF_lss, binF_leq, binF_gtr, binF_geq, true_and]
    rw [wrap_i64 (by omega) (by omega)]
    exact ⟨⟨i + 1, rfl, by omega, by omega, rfl⟩, by simp <;> omega⟩
  · have hie : i = p.length := by omega
    subst hie
    exact endK_ret hk
theorem leastK_le {t : Tb} {p : List Int} : ∀ (i : Nat), ∀ r, r < i → leastK t p i ≤ cell t r (p.getD r 0).toNat
  | 0, r, h => by omega
  | i + 1, r, h => by
    unfold leastK
    by_cases hr : r = i
    · subst hr; split <;> omega
    · have := leastK_le (t := t) (p := p) i r (by omega)
      split <;> omega
theorem leastK_in {t : Tb} {p : List Int} : ∀ (i : Nat), 1 ≤ i → ∃ r, r < i ∧ leastK t p i = cell t r (p.getD r 0).toNat
  | 0, h => by omega
  | 1, h => ⟨0, by omega, by rw [leastK_one]; rfl⟩
  | i + 2, h => by
    obtain ⟨r, h1, h2⟩ := leastK_in (t := t) (p := p) (i + 1) (by omega)
    rw [leastK]
    split
    · exact ⟨i + 1, by omega, rfl⟩
    · exact ⟨r, by omega, h2⟩
theorem zeroAt_iff {t : Tb} : ∀ (p : List Int) (r : Nat), zeroAt t r p = true ↔ ∃ i, i < p.length ∧ cell t (r + i) (p.getD i 0).toNat = 0
  | [], r => by simp [zeroAt]
  | c :: p, r => by
    rw [zeroAt, Bool.or_eq_true, zeroAt_iff p (r + 1)]
    constructor
    · rintro (h | ⟨i, h1, h2⟩)
      · exact ⟨0, by simp, by simpa using h⟩
      · exact ⟨i + 1, by simp; omega, by rw [List.getD_cons_succ, show r + (i + 1) = r + 1 + i by omega]; exact h2⟩
    · rintro ⟨i, h1, h2⟩
      cases i with
      | zero => exact .inl (by simpa using h2)
      | succ i => exact .inr ⟨i, by simpa using h1, by rw [List.getD_cons_succ, show r + (i + 1) = r + 1 + i by omega] at h2; exact h2⟩
theorem least_zero {t : Tb} (hc : chkT t = 0) {p : List Int} (hp : 1 ≤ p.length) : leastK t p p.length = 0 ↔ zeroAt t 0 p = true := by
  rw [zeroAt_iff]
  constructor
  · intro h
    obtain ⟨r, h1, h2⟩ := leastK_in (t := t) (p := p) p.length hp
    exact ⟨r, h1, by rw [Nat.zero_add, ← h2, h]⟩
  · rintro ⟨i, h1, h2⟩
    rw [Nat.zero_add] at h2
    have := leastK_le (t := t) (p := p) p.length i h1
    obtain ⟨r, h3, h4⟩ := leastK_in (t := t) (p := p) p.length hp
    have := (cell_rng hc r (p.getD r 0).toNat).1
    omega
/-- ref.Within -/
theorem c33 {v u : AV} {t : Tbl} {p : List Int} {H : Heap} {K : AV → Heap → Prop} (hv : RT H v t) (hu : Reads H u p) (hl : t.length < 2 ^ 63) (hl2 : ∀ l ∈ t, l.length < 2 ^ 63) (hl3 : p.length < 2 ^ 63) (hk : K (.int .i64 (withE t p)) H) : ACalls Tryd.prog 33 [v, u] H K := by
  apply W33_ok
  unfold W33
  try simp only [letO_some, cellsOf?_agg, cellsOf?_int, cellsOf?_bool, cellsOf?_imm, cellsOf?_ref, cellsOf?_nils, faddr_iptr, faddr_ptr, List.drop_succ_cons, List.drop_zero, List.take_succ_cons, List.take_zero, load1_iptr, loadN_iptr, List.length_cons, List.length_nil, Nat.le_refl, if_true, List.getElem?_cons_zero, List.getElem?_cons_succ, List.getD_cons_zero, List.getD_cons_succ, extrF_tup, binF_add, binF_sub, binF_mul, binF_eql, binF_neq, binF_lss, binF_leq, binF_gtr, binF_geq, true_and]
  refine c31 hv hl hl2 ?_
  try simp only [letO_some, cellsOf?_agg, cellsOf?_int, cellsOf?_bool, cellsOf?_imm, cellsOf?_ref, cellsOf?_nils, faddr_iptr, faddr_ptr, List.drop_succ_cons, List.drop_zero, List.take_succ_cons, List.take_zero, load1_iptr, loadN_iptr, List.length_cons, List.length_nil, Nat.le_refl, if_true, List.getElem?_cons_zero, List.getElem?_cons_succ, List.getD_cons_zero, List.getD_cons_succ, extrF_tup, binF_add, binF_sub, binF_mul, binF_eql, binF_neq, binF_lss, binF_leq, binF_gtr, binF_geq, true_and]
  refine ⟨fun L H' => eqt L [.int .i64 (if chkT t ≠ 0 then chkT t else planE t.length p)] ∧ eqt H' H, ?_, ?_⟩
  · by_cases hc : chkT t = 0
    · have e1 : (chkT t == 0) = true := by rw [hc]; rfl
      simp only [e1, condA_tt, hv.len, letO_some]
      refine c80 hu hl3 ?_
      try simp only [letO_some, cellsOf?_agg, cellsOf?_int, cellsOf?_bool, cellsOf?_imm, cellsOf?_ref, cellsOf?_nils, faddr_iptr, faddr_ptr, List.drop_succ_cons, List.drop_zero, List.take_succ_cons, List.take_zero, load1_iptr, loadN_iptr, List.length_cons, List.length_nil, Nat.le_refl, if_true, List.getElem?_cons_zero, List.getElem?_cons_succ, List.getD_cons_zero, List.getD_cons_succ, extrF_tup, binF_add, binF_sub, binF_mul, binF_eql, binF_neq, binF_lss, binF_leq, binF_gtr, binF_geq, true_and]
      rw [if_neg (by simp [hc])]
      exact ⟨rfl, rfl⟩
    · have e1 : (chkT t == 0) = false := by rw [beq_eq_false_iff_ne]; exact hc
      simp only [e1, condA_ff]
      rw [if_pos hc]
      exact ⟨rfl, rfl⟩
  rintro L H' ⟨rfl, rfl⟩
  try simp only [letO_some, cellsOf?_agg, cellsOf?_int, cellsOf?_bool, cellsOf?_imm, cellsOf?_ref, cellsOf?_nils, faddr_iptr, faddr_ptr, List.drop_succ_cons, List.drop_zero, List.take_succ_cons, List.take_zero, load1_iptr, loadN_iptr, List.length_cons, List.length_nil, Nat.le_refl, if_true, List.getElem?_cons_zero, List.getElem?_cons_succ, List.getD_cons_zero, List.getD_cons_succ, extrF_tup, binF_add, binF_sub, binF_mul, binF_eql, binF_neq, binF_lss, binF_leq, binF_gtr, binF_geq, true_and]
  refine ⟨fun L H'' => eqt L [.int .i64 (withE t p)] ∧ eqt H'' H', ?_, ?_⟩
  · by_cases hx : (if chkT t ≠ 0 then chkT t else planE t.length p) = 0
    · have hc : chkT t = 0 := by
        by_cases hc : chkT t = 0
        · exact hc
        · rw [if_pos hc] at hx; exact hx
      rw [if_neg (by simp [hc])] at hx
      have hpl : p.length = t.length ∧ planS t.length [] p = 0 := by
        have := hx
        unfold planE at this
        split at this
        · cases this
        · exact ⟨by omega, this⟩
      have n1 := (chkT_ok hc).1
      simp only [hc, hx, ne_eq, not_true_eq_false, if_false, beq_self_eq_true, gval_bool, Int.reduceBNe, Int.reduceBEq, pickF_true, pickF_false, reduceIte, Bool.true_eq_false, Bool.false_eq_true, if_false, condA_tt, condA_ff, condG_tt, condG_ff, condG_tt', condG_ff', condG_undef, gval_undef, letO_some, cellsOf?_agg, cellsOf?_int, cellsOf?_bool, cellsOf?_imm, cellsOf?_ref, cellsOf?_nils, faddr_iptr, faddr_ptr, List.drop_succ_cons, List.drop_zero, List.take_succ_cons, List.take_zero, load1_iptr, loadN_iptr, List.length_cons, List.length_nil, Nat.le_refl, if_true, List.getElem?_cons_zero, List.getElem?_cons_succ, List.getD_cons_zero, List.getD_cons_succ, extrF_tup, binF_add, binF_sub, binF_mul, binF_eql, binF_neq, binF_lss, binF_leq, binF_gtr, binF_geq, true_and]
      refine exJ ?_
      refine c81 hc hv hu hpl.1 (planS_rng hpl.2) ?_
      try simp only [gval_bool, Int.reduceBNe, Int.reduceBEq, pickF_true, pickF_false, reduceIte, Bool.true_eq_false, Bool.false_eq_true, if_false, condA_tt, condA_ff, condG_tt, condG_ff, condG_tt', condG_ff', condG_undef, gval_undef, letO_some, cellsOf?_agg, cellsOf?_int, cellsOf?_bool, cellsOf?_imm, cellsOf?_ref, cellsOf?_nils, faddr_iptr, faddr_ptr, List.drop_succ_cons, List.drop_zero, List.take_succ_cons, List.take_zero, load1_iptr, loadN_iptr, List.length_cons, List.length_nil, Nat.le_refl, if_true, List.getElem?_cons_zero, List.getElem?_cons_succ, List.getD_cons_zero, List.getD_cons_succ, extrF_tup, binF_add, binF_sub, binF_mul, binF_eql, binF_neq, binF_lss, binF_leq, binF_gtr, binF_geq, true_and]
      rw [withE, if_neg (by simp [hc]), if_neg (by simp [hx])]
      by_cases hz : leastK t p p.length = 0
      · have e : (leastK t p p.length == 0) = true := by rw [hz]; rfl
        rw [if_pos ((least_zero hc (by omega)).1 hz)]
        simp only [e, condA_tt]
        exact ⟨rfl, rfl⟩
      · have e : (leastK t p p.length == 0) = false := by rw [beq_eq_false_iff_ne]; exact hz
        rw [if_neg fun h => hz ((least_zero hc (by omega)).2 h)]
        simp only [e, condA_ff]
        rw [← hx]
        exact ⟨rfl, rfl⟩
    · have e1 : ((if chkT t ≠ 0 then chkT t else planE t.length p) == 0) = false := by rw [beq_eq_false_iff_ne]; exact hx
      simp only [e1, gval_bool, Int.reduceBNe, Int.reduceBEq, pickF_true, pickF_false, reduceIte, Bool.true_eq_false, Bool.false_eq_true, if_false, condA_tt, condA_ff, condG_tt, condG_ff, condG_tt', condG_ff', condG_undef, gval_undef, letO_some, cellsOf?_agg, cellsOf?_int, cellsOf?_bool, cellsOf?_imm, cellsOf?_ref, cellsOf?_nils, faddr_iptr, faddr_ptr, List.drop_succ_cons, List.drop_zero, List.take_succ_cons, List.take_zero, load1_iptr, loadN_iptr, List.length_cons, List.length_nil, Nat.le_refl, if_true, List.getElem?_cons_zero, List.getElem?_cons_succ, List.getD_cons_zero, List.getD_cons_succ, extrF_tup, binF_add, binF_sub, binF_mul, binF_eql, binF_neq, binF_lss, binF_leq, binF_gtr, binF_geq, true_and]
      refine exU ?_
      try simp only [gval_bool, Int.reduceBNe, Int.reduceBEq, pickF_true, pickF_false, reduceIte, Bool.true_eq_false, Bool.false_eq_true, if_false, condA_tt, condA_ff, condG_tt, condG_ff, condG_tt', condG_ff', condG_undef, gval_undef, letO_some, cellsOf?_agg, cellsOf?_int, cellsOf?_bool, cellsOf?_imm, cellsOf?_ref, cellsOf?_nils, faddr_iptr, faddr_ptr, List.drop_succ_cons, List.drop_zero, List.take_succ_cons, List.take_zero, load1_iptr, loadN_iptr, List.length_cons, List.length_nil, Nat.le_refl, if_true, List.getElem?_cons_zero, List.getElem?_cons_succ, List.getD_cons_zero, List.getD_cons_succ, extrF_tup, binF_add, binF_sub, binF_mul, binF_eql, binF_neq, binF_lss, binF_leq, binF_gtr, binF_geq, true_and]
      refine ⟨?_, rfl⟩
      unfold eqt
      congr 2
      rw [withE]
      by_cases hc : chkT t = 0
      · rw [if_neg (by simp [hc])] at hx
        rw [if_neg (by simp [hc]), if_neg (by simp [hc]), if_pos hx]
      · rw [if_pos hc, if_pos hc]
  · rintro L H'' ⟨rfl, rfl⟩
    try simp only [letO_some, cellsOf?_agg, cellsOf?_int, cellsOf?_bool, cellsOf?_imm, cellsOf?_ref, cellsOf?_nils, faddr_iptr, faddr_ptr, List.drop_succ_cons, List.drop_zero, List.take_succ_cons, List.take_zero, load1_iptr, loadN_iptr, List.length_cons, List.length_nil, Nat.le_refl, if_true, List.getElem?_cons_zero, List.getElem?_cons_succ, List.getD_cons_zero, List.getD_cons_succ, extrF_tup, binF_add, binF_sub, binF_mul, binF_eql, binF_neq, binF_lss, binF_leq, binF_gtr, binF_geq, true_and]
    exact endK_ret hk
/-- large -/
theorem c16 {v : AV} {t : Tbl} {H : Heap} {K : AV → Heap → Prop} (hv : RT H v t) (hl : t.length < 2 ^ 63) (hk : ∀ b : Bool, (b = false → t.length ≤ 20 ∧ ∀ l ∈ t, l.length ≤ 20) → K (.bool b) H) : ACalls Tryd.prog 16 [v] H K := by
  apply W16_ok
  unfold W16
  simp only [letO_some, cellsOf?_agg, cellsOf?_int, cellsOf?_bool, cellsOf?_imm, cellsOf?_ref, cellsOf?_nils, faddr_iptr, faddr_ptr, List.drop_succ_cons, List.drop_zero, List.take_succ_cons, List.take_zero, load1_iptr, loadN_iptr, List.length_cons, List.length_nil, Nat.le_refl, if_true, List.getElem?_cons_zero, List.getElem?_cons_succ, List.getD_cons_zero, List.getD_cons_succ, extrF_tup, binF_add, binF_sub, binF_mul, binF_eql, binF_neq, binF_lss, binF_leq, binF_gtr, binF_geq, true_and, hv.len]
  refine condA_t (fun hlt => endK_ret (hk true (by simp))) (fun hge => ?_)
  refine ⟨fun L H' => ∃ i : Nat, eqt L [.int .i64 i] ∧ i ≤ t.length ∧ eqt H' H ∧ ∀ l ∈ t.take i, l.length ≤ 20, fun L _ => (t.length - iv L 0).toNat, ⟨0, rfl, by omega, rfl, by simp⟩, ?_⟩
  rintro L H' ⟨i, rfl, hi, rfl, he⟩
  try simp only [letO_some, cellsOf?_agg, cellsOf?_int, cellsOf?_bool, cellsOf?_imm, cellsOf?_ref, cellsOf?_nils, faddr_iptr, faddr_ptr, List.drop_succ_cons, List.drop_zero, List.take_succ_cons, List.take_zero, load1_iptr, loadN_iptr, List.length_cons, List.length_nil, Nat.le_refl, if_true, List.getElem?_cons_zero, List.getElem?_cons_succ, List.getD_cons_zero, List.getD_cons_succ, extrF_tup, binF_add, binF_sub, binF_mul, binF_eql, binF_neq, binF_lss, binF_leq, binF_gtr, binF_geq, true_and]
  refine condA_t (fun hlt => ?_) (fun hge2 => ?_)
  · refine hv.get (Heap.le_refl _) (by omega) (by omega) fun a ha => ?_
    rw [Int.toNat_natCast] at ha
    have a1 : i < t.length := by omega
    have g1 : t.getD i [] = t[i] := by simp [List.getD_eq_getElem?_getD, a1]
    rw [g1] at ha
    simp only [ha.len, letO_some, cellsOf?_agg, cellsOf?_int, cellsOf?_bool, cellsOf?_imm, cellsOf?_ref, cellsOf?_nils, faddr_iptr, faddr_ptr, List.drop_succ_cons, List.drop_zero, List.take_succ_cons, List.take_zero, load1_iptr, loadN_iptr, List.length_cons, List.length_nil, Nat.le_refl, if_true, List.getElem?_cons_zero, List.getElem?_cons_succ, List.getD_cons_zero, List.getD_cons_succ, extrF_tup, binF_add, binF_sub, binF_mul, binF_eql, binF_neq, binF_lss, binF_leq, binF_gtr, binF_geq, true_and]
    refine condA_t (fun hlt => endK_ret (hk true (by simp))) (fun hge3 => ?_)
    rw [wrap_i64 (by omega) (by omega)]
    refine ⟨⟨i + 1, rfl, by omega, rfl, fun l hl => ?_⟩, by simp <;> omega⟩
    rw [List.take_add_one, List.getElem?_eq_getElem a1] at hl
    rcases List.mem_append.1 hl with hl | hl
    · exact he l hl
    · simp at hl; subst hl; omega
  · have hie : i = t.length := by omega
    subst hie
    rw [List.take_length] at he
    exact endK_ret (hk false fun _ => ⟨by omega, he⟩)
end Go.Proofs.YtbofkeoebnjjkaaDoor

namespace Go.Proofs.YtbofkeoebnjjkaaDoor
open Go.Av Tab
set_option linter.unusedVariables false
set_option linter.unusedSimpArgs false
set_option maxRecDepth 4000

/-- All ways to go on with a plan. -/
def ext (n : Nat) : Nat → List Nat → List (List Nat)
  | 0, _ => [[]]
  | f + 1, E => (List.range n).flatMap fun c => if c ∈ E then [] else (ext n f (E ++ [c])).map (c :: ·)
def extTo (n f : Nat) (E : List Nat) (m : Nat) : List (List Nat) := (List.range m).flatMap fun c => if c ∈ E then [] else (ext n f (E ++ [c])).map (c :: ·)
theorem extTo_succ (n f : Nat) (E : List Nat) (m : Nat) : extTo n f E (m + 1) = extTo n f E m ++ if m ∈ E then [] else (ext n f (E ++ [m])).map (m :: ·) := by
  simp [extTo, List.range_succ]
theorem extTo_len {n f B : Nat} {E : List Nat} (h : ∀ c, (ext n f (E ++ [c])).length ≤ B) (m : Nat) : (extTo n f E m).length ≤ m * B := by
  induction m with
  | zero => simp [extTo]
  | succ m ih =>
    rw [extTo_succ, List.length_append, Nat.add_mul, Nat.one_mul]
    have := h m
    split
    · simp; omega
    · simp; omega
theorem ext_len {n : Nat} : ∀ (f : Nat) (E : List Nat), (ext n f E).length ≤ n ^ f
  | 0, E => by simp [ext]
  | f + 1, E => by
    have := extTo_len (n := n) (E := E) (fun c => ext_len f (E ++ [c])) n
    rw [Nat.pow_succ, Nat.mul_comm]
    exact this
/-- What 'plans' gives. -/
def plV (n f : Nat) (E : List Nat) (x : AV) : AV :=
  if f = 0 then .imm 1 false [x] else .imm (ext n f E).length false ((ext n f E).map fun G => sl (up (E ++ G)))
theorem mem_up {c : Nat} {E : List Nat} : (c : Int) ∈ up E ↔ c ∈ E := by
  simp only [up, List.mem_map]
  constructor
  · rintro ⟨a, h1, h2⟩
    obtain rfl : a = c := by omega
    exact h1
  · intro h; exact ⟨c, h, rfl⟩
/-- ref.plans -/
theorem c76 {n : Nat} (hn : n ≤ 4) : ∀ (f : Nat) (E : List Nat) (x : AV) (H : Heap) (K : AV → Heap → Prop), Reads H x (up E) → E.length + f = n →
    K (plV n f E x) H → ACalls Tryd.prog 76 [.int .i64 n, x] H K := by
  intro f
  induction f with
  | zero =>
    intro E x H K hx he hk
    apply W76_ok
    unfold W76
    have hxl := hx.len
    rw [up_length] at hxl
    have e1 : ((E.length : Int) == (n : Int)) = true := by rw [← he]; exact beq_self_eq_true _
    simp only [letO_some, cellsOf?_agg, cellsOf?_int, cellsOf?_bool, cellsOf?_imm, cellsOf?_ref, cellsOf?_nils, faddr_iptr, faddr_ptr, List.drop_succ_cons, List.drop_zero, List.take_succ_cons, List.take_zero, load1_iptr, loadN_iptr, List.length_cons, List.length_nil, Nat.le_refl, if_true, List.getElem?_cons_zero, List.getElem?_cons_succ, List.getD_cons_zero, List.getD_cons_succ, extrF_tup, binF_add, binF_sub, binF_mul, binF_eql, binF_neq, binF_lss, binF_leq, binF_gtr, binF_geq, true_and, hxl, e1, condA_tt, l22 hx.cells]
    rw [plV, if_pos rfl] at hk
    exact endK_weak (endK_ret hk)
  | succ f ih =>
    intro E x H K hx he hk
    apply W76_ok
    unfold W76
    have hxl := hx.len
    rw [up_length] at hxl
    have e1 : ((E.length : Int) == (n : Int)) = false := by rw [beq_eq_false_iff_ne]; omega
    simp only [letO_some, cellsOf?_agg, cellsOf?_int, cellsOf?_bool, cellsOf?_imm, cellsOf?_ref, cellsOf?_nils, faddr_iptr, faddr_ptr, List.drop_succ_cons, List.drop_zero, List.take_succ_cons, List.take_zero, load1_iptr, loadN_iptr, List.length_cons, List.length_nil, Nat.le_refl, if_true, List.getElem?_cons_zero, List.getElem?_cons_succ, List.getD_cons_zero, List.getD_cons_succ, extrF_tup, binF_add, binF_sub, binF_mul, binF_eql, binF_neq, binF_lss, binF_leq, binF_gtr, binF_geq, true_and, hxl, e1, condA_ff]
    rw [plV, if_neg (by omega)] at hk
    have hB : ∀ c, (ext n f (E ++ [c])).length ≤ 4 ^ 4 := fun c => by
      have h1 := ext_len (n := n) f (E ++ [c])
      have h2 : n ^ f ≤ 4 ^ f := Nat.pow_le_pow_left hn f
      have h3 : 4 ^ f ≤ 4 ^ 4 := Nat.pow_le_pow_right (by decide) (by omega)
      omega
    refine ⟨fun L H' => ∃ (m : Nat) (X : AV) (xs : List AV) (H1 : Heap), eqt L [X, .int .i64 m] ∧ m ≤ n ∧ H.le H1 ∧ Grow 1 H1 H' X xs.length xs ∧ ∀ H2, H1.le H2 → xs.map (conv H H2 1) = (extTo n f E m).map fun G => sl (up (E ++ G)), fun L _ => (n - iv L 1).toNat,
      ⟨0, .nils, [], H, rfl, by omega, Heap.le_refl _, Grow.nils 1 H, fun _ _ => by simp [extTo]⟩, ?_⟩
    intro L H' hI
    obtain ⟨m, X, xs, H1, rfl, hm, hle1, hg, hxs⟩ := hI
    have hleH : H.le H' := Heap.le_trans hle1 hg.le
    have hxslen : xs.length = (extTo n f E m).length := by
      have := congrArg List.length (hxs H1 (Heap.le_refl _)); simpa using this
    have hxb := extTo_len (n := n) (f := f) (E := E) hB m
    try simp only [letO_some, cellsOf?_agg, cellsOf?_int, cellsOf?_bool, cellsOf?_imm, cellsOf?_ref, cellsOf?_nils, faddr_iptr, faddr_ptr, List.drop_succ_cons, List.drop_zero, List.take_succ_cons, List.take_zero, load1_iptr, loadN_iptr, List.length_cons, List.length_nil, Nat.le_refl, if_true, List.getElem?_cons_zero, List.getElem?_cons_succ, List.getD_cons_zero, List.getD_cons_succ, extrF_tup, binF_add, binF_sub, binF_mul, binF_eql, binF_neq, binF_lss, binF_leq, binF_gtr, binF_geq, true_and]
    refine condA_t (fun hlt => ?_) (fun hgt => ?_)
    · have hmn : m < n := by omega
      have hxb2 : m * 4 ^ 4 ≤ 4 * 4 ^ 4 := Nat.mul_le_mul_right _ (by omega)
      refine ⟨fun L H'' => ∃ (X : AV) (xs : List AV) (H1 : Heap), eqt L [X] ∧ H.le H1 ∧ Grow 1 H1 H'' X xs.length xs ∧ ∀ H2, H1.le H2 → xs.map (conv H H2 1) = (extTo n f E (m + 1)).map fun G => sl (up (E ++ G)), ?_, ?_⟩
      · refine c89 (hx.le hleH) (by rw [up_length]; omega) ?_
        try simp only [not_v, letO_some, cellsOf?_agg, cellsOf?_int, cellsOf?_bool, cellsOf?_imm, cellsOf?_ref, cellsOf?_nils, faddr_iptr, faddr_ptr, List.drop_succ_cons, List.drop_zero, List.take_succ_cons, List.take_zero, load1_iptr, loadN_iptr, List.length_cons, List.length_nil, Nat.le_refl, if_true, List.getElem?_cons_zero, List.getElem?_cons_succ, List.getD_cons_zero, List.getD_cons_succ, extrF_tup, binF_add, binF_sub, binF_mul, binF_eql, binF_neq, binF_lss, binF_leq, binF_gtr, binF_geq, true_and]
        by_cases hin : m ∈ E
        · have e2 : decide ((m : Int) ∈ up E) = true := decide_eq_true (mem_up.2 hin)
          simp only [e2, Bool.not_true, condA_ff]
          have hx2 := extTo_succ n f E m
          rw [if_pos hin, List.append_nil] at hx2
          refine ⟨X, xs, H1, rfl, hle1, hg, ?_⟩
          rw [hx2]; exact hxs
        · have e2 : decide ((m : Int) ∈ up E) = false := decide_eq_false (fun h => hin (mem_up.1 h))
          simp only [e2, Bool.not_false, condA_tt, l23n, l23 cellsOf?_int, letO_some]
          refine appendA_grow (Grow.imm (H := H') (sz := 1) (n := 0) (cells := []) rfl) (reads_src (hx.le hleH)) (by simp [ints, isScalar]) (by simp) (by rw [up_length]; omega) (by rw [up_length]; omega) fun t36 H12 g36 => ?_
          rw [List.nil_append, Nat.zero_add, up_length] at g36
          refine appendA_oneR g36 (by omega) fun t39 H13 g39 o39 => ?_
          have hup : up E ++ [(m : Int)] = up (E ++ [m]) := by simp [up]
          rw [hup] at g39
          have hr39 := g39.reads
          obtain ⟨b13, hb13, rfl, rfl⟩ := g39.own o39
          have hle13 : H'.le (H'.put b13 (ints (up (E ++ [m])))) := Heap.le_put_self hb13
          refine ih (E ++ [m]) _ _ _ hr39 (by simp; omega) ?_
          have hb1 := fresh_of hg.le hb13
          have hbH := fresh_of hle1 hb1
          have hgX := alloc_grow (cs := ints (up (E ++ [m]))) hg hb13
          have hx2 := extTo_succ n f E m
          rw [if_neg hin] at hx2
          have hle1' : H.le (H1.put b13 (ints (up (E ++ [m])))) := Heap.le_trans hle1 (Heap.le_put_self hb1)
          by_cases hf0 : f = 0
          · subst hf0
            have hallv : plV n 0 (E ++ [m]) (.ref 1 b13 0 (E.length + 1) none) = .imm 1 false [.ref 1 b13 0 (E.length + 1) none] := by rw [plV, if_pos rfl]
            rw [hallv]
            refine appendA_grow hgX (m := 1) (new := [.ref 1 b13 0 (E.length + 1) none]) (by simp [srcOf]) rfl rfl (by omega) (by omega) fun v' H14 g14 => ?_
            refine ⟨v', xs ++ [.ref 1 b13 0 (E.length + 1) none], _, rfl, hle1', by simpa using g14, fun H2 hle2 => ?_⟩
            rw [List.map_append, hxs H2 (Heap.le_trans (Heap.le_put_self hb1) hle2), hx2, List.map_append]
            have := conv_own (l := up (E ++ [m])) hbH (hle2 _ _ Heap.put_same) 0 (n := E.length + 1) (by simp [up])
            simp only [ext, List.map_cons, List.map_nil]
            rw [this]
          · have hallv : plV n f (E ++ [m]) (.ref 1 b13 0 (E.length + 1) none) = .imm (ext n f (E ++ [m])).length false ((ext n f (E ++ [m])).map fun G => sl (up (E ++ [m] ++ G))) := by rw [plV, if_neg hf0]
            rw [hallv]
            have hBj := hB m
            refine appendA_grow hgX (m := (ext n f (E ++ [m])).length) (new := (ext n f (E ++ [m])).map fun G => sl (up (E ++ [m] ++ G))) (by simp [srcOf]) (by simp [isScalar, sl]) (by simp) (by omega) (by omega) fun v' H14 g14 => ?_
            refine ⟨v', xs ++ (ext n f (E ++ [m])).map fun G => sl (up (E ++ [m] ++ G)), _, rfl, hle1', by simpa using g14, fun H2 hle2 => ?_⟩
            rw [List.map_append, hxs H2 (Heap.le_trans (Heap.le_put_self hb1) hle2), hx2, List.map_append, List.map_map, List.map_map]
            congr 1
            refine List.map_congr_left fun G _ => ?_
            simp only [Function.comp, conv_sl]
            rw [List.append_assoc, List.singleton_append]
      · rintro L H'' ⟨X', xs', H1', rfl, h1, h2, h3⟩
        try simp only [letO_some, cellsOf?_agg, cellsOf?_int, cellsOf?_bool, cellsOf?_imm, cellsOf?_ref, cellsOf?_nils, faddr_iptr, faddr_ptr, List.drop_succ_cons, List.drop_zero, List.take_succ_cons, List.take_zero, load1_iptr, loadN_iptr, List.length_cons, List.length_nil, Nat.le_refl, if_true, List.getElem?_cons_zero, List.getElem?_cons_succ, List.getD_cons_zero, List.getD_cons_succ, extrF_tup, binF_add, binF_sub, binF_mul, binF_eql, binF_neq, binF_lss, binF_leq, binF_gtr, binF_geq, true_and]
        rw [wrap_i64 (by omega) (by omega)]
        exact ⟨⟨m + 1, X', xs', H1', rfl, by omega, h1, h2, h3⟩, by simp <;> omega⟩
    · have hm' : m = n := by omega
      subst hm'
      refine endK_all hleH 2 ?_
      rw [conv_grow hg hle1, hxs H' hg.le, hxslen]
      exact hk
/-- All plans of so many rows. -/
def plansS (n : Nat) : List (List Nat) := ext n n []
theorem c76n {n : Nat} {H : Heap} {K : AV → Heap → Prop} (hn : 1 ≤ n ∧ n ≤ 4) (hk : K (tl ((plansS n).map up)) H) : ACalls Tryd.prog 76 [.int .i64 n, .nils] H K := by
  refine c76 hn.2 n [] .nils H K rfl (by simp) ?_
  rw [plV, if_neg (by omega)]
  have e : (.imm (ext n n []).length false ((ext n n []).map fun G => sl (up ([] ++ G))) : AV) = tl ((plansS n).map up) := by
    simp [tl, plansS, Function.comp_def]
  rw [e]; exact hk
theorem ext_mem {n : Nat} : ∀ (f : Nat) (E G : List Nat), G ∈ ext n f E → G.length = f ∧ ∀ c ∈ G, c < n
  | 0, E, G, h => by simp [ext] at h; subst h; simp
  | f + 1, E, G, h => by
    simp only [ext, List.mem_flatMap, List.mem_range] at h
    obtain ⟨c, hc, h⟩ := h
    split at h
    · simp at h
    · obtain ⟨G', h1, rfl⟩ := List.mem_map.1 h
      obtain ⟨h2, h3⟩ := ext_mem f _ _ h1
      refine ⟨by simp [h2], fun x hx => ?_⟩
      rcases List.mem_cons.1 hx with rfl | hx
      · exact hc
      · exact h3 x hx
theorem plansS_mem {n : Nat} {p : List Nat} (h : p ∈ plansS n) : p.length = n ∧ ∀ c ∈ p, c < n := ext_mem n [] p h
theorem plansS_len {n : Nat} (hn : n ≤ 4) : (plansS n).length ≤ 256 := by
  have := ext_len (n := n) n []
  have h2 : n ^ n ≤ 4 ^ n := Nat.pow_le_pow_left hn n
  have h3 : 4 ^ n ≤ 4 ^ 4 := Nat.pow_le_pow_right (by decide) (by omega)
  unfold plansS
  omega
/-- The plans within a table. -/
def withinS (t : Tb) : List (List Nat) := (plansS t.length).filter fun p => decide (0 < leastK t (up p) t.length)
/-- ref.within -/
theorem c74 {v : AV} {t : Tbl} {H : Heap} {K : AV → Heap → Prop} (hc : chkT t = 0) (hv : RT H v t) (hk : K (tl ((withinS t).map up)) H) : ACalls Tryd.prog 74 [v] H K := by
  apply W74_ok
  unfold W74
  obtain ⟨n1, n2, hrows⟩ := chkT_ok hc
  simp only [letO_some, cellsOf?_agg, cellsOf?_int, cellsOf?_bool, cellsOf?_imm, cellsOf?_ref, cellsOf?_nils, faddr_iptr, faddr_ptr, List.drop_succ_cons, List.drop_zero, List.take_succ_cons, List.take_zero, load1_iptr, loadN_iptr, List.length_cons, List.length_nil, Nat.le_refl, if_true, List.getElem?_cons_zero, List.getElem?_cons_succ, List.getD_cons_zero, List.getD_cons_succ, extrF_tup, binF_add, binF_sub, binF_mul, binF_eql, binF_neq, binF_lss, binF_leq, binF_gtr, binF_geq, true_and, hv.len]
  refine c76n ⟨n1, n2⟩ ?_
  have hPl := plansS_len n2
  have hPR : RT H (tl ((plansS t.length).map up)) ((plansS t.length).map up) := RT.tl _ _
  have hPL : ((plansS t.length).map up).length = (plansS t.length).length := by simp
  generalize hP : plansS t.length = P at *
  simp only [letO_some, cellsOf?_agg, cellsOf?_int, cellsOf?_bool, cellsOf?_imm, cellsOf?_ref, cellsOf?_nils, faddr_iptr, faddr_ptr, List.drop_succ_cons, List.drop_zero, List.take_succ_cons, List.take_zero, load1_iptr, loadN_iptr, List.length_cons, List.length_nil, Nat.le_refl, if_true, List.getElem?_cons_zero, List.getElem?_cons_succ, List.getD_cons_zero, List.getD_cons_succ, extrF_tup, binF_add, binF_sub, binF_mul, binF_eql, binF_neq, binF_lss, binF_leq, binF_gtr, binF_geq, true_and, hPR.len]
  refine ⟨fun L H' => ∃ (i : Nat) (X : AV), eqt L [X, .int .i64 i] ∧ i ≤ P.length ∧ ∃ xs, Grow 1 H H' X xs.length xs ∧ xs = ((P.take i).filter fun p => decide (0 < leastK t (up p) t.length)).map fun p => sl (up p), fun L _ => (P.length - iv L 1).toNat, ⟨0, .nils, rfl, by omega, [], Grow.nils 1 H, by simp⟩, ?_⟩
  rintro L H' ⟨i, X, rfl, hi, xs, hg, rfl⟩
  have hle := hg.le
  rw [List.length_map] at hg
  try simp only [letO_some, cellsOf?_agg, cellsOf?_int, cellsOf?_bool, cellsOf?_imm, cellsOf?_ref, cellsOf?_nils, faddr_iptr, faddr_ptr, List.drop_succ_cons, List.drop_zero, List.take_succ_cons, List.take_zero, load1_iptr, loadN_iptr, List.length_cons, List.length_nil, Nat.le_refl, if_true, List.getElem?_cons_zero, List.getElem?_cons_succ, List.getD_cons_zero, List.getD_cons_succ, extrF_tup, binF_add, binF_sub, binF_mul, binF_eql, binF_neq, binF_lss, binF_leq, binF_gtr, binF_geq, true_and]
  refine condA_t (fun hlt => ?_) (fun hge => ?_)
  · have a1 : i < P.length := by omega
    have g1 : (P.map up).getD i [] = up P[i] := by simp [List.getD_eq_getElem?_getD, a1]
    have hpm : P[i] ∈ plansS t.length := by rw [hP]; exact List.getElem_mem a1
    obtain ⟨hpl, hpn⟩ := plansS_mem hpm
    have hget : ∀ (H' : Heap) (k : AV → Prop), k (sl (up P[i])) → letO (idx 1 (tl (P.map up)) (.int .i64 (i : Int))) fun q => letO (load1 q H') k := by
      intro H' k hk
      refine ReadsC.get (Heap.le_refl _) (n := P.length) (cells := (P.map up).map sl) ⟨by simp, by simp [tl]⟩ (x := sl (up P[i])) (by omega) (by omega) ?_ hk
      simp [a1]
    refine ⟨fun L H'' => ∃ X', eqt L [X'] ∧ ∃ xs, Grow 1 H H'' X' xs.length xs ∧ xs = ((P.take (i + 1)).filter fun p => decide (0 < leastK t (up p) t.length)).map fun p => sl (up p), ?_, ?_⟩
    · refine hget _ _ ?_
      refine c81 hc (hv.le hle) (Reads.sl _ _) (by rw [up_length, hpl]) (fun c hcm => ?_) ?_
      · obtain ⟨x, hx, rfl⟩ := List.mem_map.1 hcm
        have := hpn x hx; omega
      try simp only [letO_some, cellsOf?_agg, cellsOf?_int, cellsOf?_bool, cellsOf?_imm, cellsOf?_ref, cellsOf?_nils, faddr_iptr, faddr_ptr, List.drop_succ_cons, List.drop_zero, List.take_succ_cons, List.take_zero, load1_iptr, loadN_iptr, List.length_cons, List.length_nil, Nat.le_refl, if_true, List.getElem?_cons_zero, List.getElem?_cons_succ, List.getD_cons_zero, List.getD_cons_succ, extrF_tup, binF_add, binF_sub, binF_mul, binF_eql, binF_neq, binF_lss, binF_leq, binF_gtr, binF_geq, true_and]
      rw [up_length, hpl]
      have hstep : ((P.take (i + 1)).filter fun p => decide (0 < leastK t (up p) t.length)) = ((P.take i).filter fun p => decide (0 < leastK t (up p) t.length)) ++ if 0 < leastK t (up P[i]) t.length then [P[i]] else [] := by
        rw [List.take_add_one, List.getElem?_eq_getElem a1, List.filter_append]
        by_cases h : 0 < leastK t (up P[i]) t.length <;> simp [h]
      have hfl : ((P.take i).filter fun p => decide (0 < leastK t (up p) t.length)).length ≤ 256 := by
        refine Nat.le_trans (List.length_filter_le _ _) ?_
        rw [List.length_take]; omega
      refine condA_t (fun hpos => ?_) (fun hnp => ?_)
      · refine hget _ _ ?_
        simp only [l22 (show cellsOf? (sl (up P[i])) = some [sl (up P[i])] from rfl), letO_some]
        refine appendA_grow hg (m := 1) (new := [sl (up P[i])]) (by simp [srcOf]) rfl rfl (by omega) (by omega) fun v' H14 g14 => ?_
        refine ⟨v', rfl, _, ?_, rfl⟩
        rw [hstep, if_pos (by omega)]
        simpa using g14
      · refine ⟨X, rfl, _, ?_, rfl⟩
        rw [hstep, if_neg (by omega)]
        simpa using hg
    · rintro L H'' ⟨X', rfl, xs, h1, rfl⟩
      try simp only [letO_some, cellsOf?_agg, cellsOf?_int, cellsOf?_bool, cellsOf?_imm, cellsOf?_ref, cellsOf?_nils, faddr_iptr, faddr_ptr, List.drop_succ_cons, List.drop_zero, List.take_succ_cons, List.take_zero, load1_iptr, loadN_iptr, List.length_cons, List.length_nil, Nat.le_refl, if_true, List.getElem?_cons_zero, List.getElem?_cons_succ, List.getD_cons_zero, List.getD_cons_succ, extrF_tup, binF_add, binF_sub, binF_mul, binF_eql, binF_neq, binF_lss, binF_leq, binF_gtr, binF_geq, true_and]
      rw [wrap_i64 (by omega) (by omega)]
      exact ⟨⟨i + 1, X', rfl, by omega, _, h1, rfl⟩, by simp <;> omega⟩
  · have hie : i = P.length := by omega
    subst hie
    rw [List.take_length] at hg
    refine hg.end1 ?_
    have e : (.imm (P.filter fun p => decide (0 < leastK t (up p) t.length)).length false ((P.filter fun p => decide (0 < leastK t (up p) t.length)).map fun p => sl (up p)) : AV) = tl ((withinS t).map up) := by
      simp [tl, withinS, hP, Function.comp_def]
    rw [e]; exact hk
/-- ref.First -/
theorem c21 {v : AV} {t : Tbl} {H : Heap} {K : AV → Heap → Prop} (hv : RT H v t) (hl : t.length < 2 ^ 63) (hl2 : ∀ l ∈ t, l.length < 2 ^ 63)
    (hk : ∀ a, Reads H a (if chkT t ≠ 0 then [] else match withinS t with | [] => [] | p :: _ => up p) → K (.tup [a, .int .i64 (if chkT t ≠ 0 then chkT t else match withinS t with | [] => 12 | _ => 0)]) H) : ACalls Tryd.prog 21 [v] H K := by
  apply W21_ok
  unfold W21
  try simp only [letO_some, cellsOf?_agg, cellsOf?_int, cellsOf?_bool, cellsOf?_imm, cellsOf?_ref, cellsOf?_nils, faddr_iptr, faddr_ptr, List.drop_succ_cons, List.drop_zero, List.take_succ_cons, List.take_zero, load1_iptr, loadN_iptr, List.length_cons, List.length_nil, Nat.le_refl, if_true, List.getElem?_cons_zero, List.getElem?_cons_succ, List.getD_cons_zero, List.getD_cons_succ, extrF_tup, binF_add, binF_sub, binF_mul, binF_eql, binF_neq, binF_lss, binF_leq, binF_gtr, binF_geq, true_and]
  refine c31 hv hl hl2 ?_
  try simp only [letO_some, cellsOf?_agg, cellsOf?_int, cellsOf?_bool, cellsOf?_imm, cellsOf?_ref, cellsOf?_nils, faddr_iptr, faddr_ptr, List.drop_succ_cons, List.drop_zero, List.take_succ_cons, List.take_zero, load1_iptr, loadN_iptr, List.length_cons, List.length_nil, Nat.le_refl, if_true, List.getElem?_cons_zero, List.getElem?_cons_succ, List.getD_cons_zero, List.getD_cons_succ, extrF_tup, binF_add, binF_sub, binF_mul, binF_eql, binF_neq, binF_lss, binF_leq, binF_gtr, binF_geq, true_and]
  by_cases hc : chkT t = 0
  · have e1 : (chkT t != 0) = false := by rw [hc]; rfl
    simp only [e1, condA_ff, letO_some]
    rw [if_neg (by simp [hc]), if_neg (by simp [hc])] at hk
    refine c74 hc hv ?_
    have hL := (RT.tl H ((withinS t).map up)).len
    simp only [letO_some, cellsOf?_agg, cellsOf?_int, cellsOf?_bool, cellsOf?_imm, cellsOf?_ref, cellsOf?_nils, faddr_iptr, faddr_ptr, List.drop_succ_cons, List.drop_zero, List.take_succ_cons, List.take_zero, load1_iptr, loadN_iptr, List.length_cons, List.length_nil, Nat.le_refl, if_true, List.getElem?_cons_zero, List.getElem?_cons_succ, List.getD_cons_zero, List.getD_cons_succ, extrF_tup, binF_add, binF_sub, binF_mul, binF_eql, binF_neq, binF_lss, binF_leq, binF_gtr, binF_geq, true_and, hL]
    cases hw : withinS t with
    | nil =>
      have e2 : ((([] : List (List Nat)).map up).length : Int) = 0 := rfl
      rw [e2]
      simp only [beq_self_eq_true, condA_tt]
      rw [hw] at hk
      exact endK_ret (hk .nils rfl)
    | cons p r =>
      have e2 : ((((p :: r).map up).length : Int) == 0) = false := by rw [beq_eq_false_iff_ne]; simp; omega
      simp only [e2, condA_ff]
      rw [hw] at hk
      have : (tl ((p :: r).map up)) = .imm (r.length + 1) false (sl (up p) :: r.map fun p => sl (up p)) := by simp [tl, Function.comp_def]
      rw [this]
      refine ReadsC.get (H := H) (v := .imm (r.length + 1) false (sl (up p) :: r.map fun p => sl (up p))) (Heap.le_refl _) (n := r.length + 1) (cells := sl (up p) :: r.map fun p => sl (up p)) ⟨by simp, rfl, rfl⟩ (x := sl (up p)) (by omega) (by omega) rfl ?_
      try simp only [letO_some, cellsOf?_agg, cellsOf?_int, cellsOf?_bool, cellsOf?_imm, cellsOf?_ref, cellsOf?_nils, faddr_iptr, faddr_ptr, List.drop_succ_cons, List.drop_zero, List.take_succ_cons, List.take_zero, load1_iptr, loadN_iptr, List.length_cons, List.length_nil, Nat.le_refl, if_true, List.getElem?_cons_zero, List.getElem?_cons_succ, List.getD_cons_zero, List.getD_cons_succ, extrF_tup, binF_add, binF_sub, binF_mul, binF_eql, binF_neq, binF_lss, binF_leq, binF_gtr, binF_geq, true_and]
      exact endK_ret (hk _ (Reads.sl _ _))
  · have e1 : (chkT t != 0) = true := by simp [hc]
    simp only [e1, condA_tt, letO_some]
    rw [if_pos hc, if_pos hc] at hk
    exact endK_ret (hk .nils rfl)
/-- ref.Count -/
theorem c23 {v : AV} {t : Tbl} {H : Heap} {K : AV → Heap → Prop} (hv : RT H v t) (hl : t.length < 2 ^ 63) (hl2 : ∀ l ∈ t, l.length < 2 ^ 63)
    (hk : K (.tup [.int .i64 (if chkT t ≠ 0 then 0 else (withinS t).length), .int .i64 (chkT t)]) H) : ACalls Tryd.prog 23 [v] H K := by
  apply W23_ok
  unfold W23
  try simp only [letO_some, cellsOf?_agg, cellsOf?_int, cellsOf?_bool, cellsOf?_imm, cellsOf?_ref, cellsOf?_nils, faddr_iptr, faddr_ptr, List.drop_succ_cons, List.drop_zero, List.take_succ_cons, List.take_zero, load1_iptr, loadN_iptr, List.length_cons, List.length_nil, Nat.le_refl, if_true, List.getElem?_cons_zero, List.getElem?_cons_succ, List.getD_cons_zero, List.getD_cons_succ, extrF_tup, binF_add, binF_sub, binF_mul, binF_eql, binF_neq, binF_lss, binF_leq, binF_gtr, binF_geq, true_and]
  refine c31 hv hl hl2 ?_
  try simp only [letO_some, cellsOf?_agg, cellsOf?_int, cellsOf?_bool, cellsOf?_imm, cellsOf?_ref, cellsOf?_nils, faddr_iptr, faddr_ptr, List.drop_succ_cons, List.drop_zero, List.take_succ_cons, List.take_zero, load1_iptr, loadN_iptr, List.length_cons, List.length_nil, Nat.le_refl, if_true, List.getElem?_cons_zero, List.getElem?_cons_succ, List.getD_cons_zero, List.getD_cons_succ, extrF_tup, binF_add, binF_sub, binF_mul, binF_eql, binF_neq, binF_lss, binF_leq, binF_gtr, binF_geq, true_and]
  by_cases hc : chkT t = 0
  · have e1 : (chkT t != 0) = false := by rw [hc]; rfl
    simp only [e1, condA_ff, letO_some]
    rw [if_neg (by simp [hc]), hc] at hk
    refine c74 hc hv ?_
    have hL := (RT.tl H ((withinS t).map up)).len
    simp only [letO_some, cellsOf?_agg, cellsOf?_int, cellsOf?_bool, cellsOf?_imm, cellsOf?_ref, cellsOf?_nils, faddr_iptr, faddr_ptr, List.drop_succ_cons, List.drop_zero, List.take_succ_cons, List.take_zero, load1_iptr, loadN_iptr, List.length_cons, List.length_nil, Nat.le_refl, if_true, List.getElem?_cons_zero, List.getElem?_cons_succ, List.getD_cons_zero, List.getD_cons_succ, extrF_tup, binF_add, binF_sub, binF_mul, binF_eql, binF_neq, binF_lss, binF_leq, binF_gtr, binF_geq, true_and, hL, List.length_map]
    exact endK_ret hk
  · have e1 : (chkT t != 0) = true := by simp [hc]
    simp only [e1, condA_tt, letO_some]
    rw [if_pos hc] at hk
    exact endK_ret hk
end Go.Proofs.YtbofkeoebnjjkaaDoor

namespace Go.Proofs.YtbofkeoebnjjkaaDoor
open Go.Av Tab
set_option linter.unusedVariables false
set_option linter.unusedSimpArgs false
set_option maxRecDepth 4000

/-- A list of rows that is being built: nothing, or a block of one's own. -/
def BT (H H' : Heap) (X : AV) (t : Tbl) : Prop := (X = .nils ∧ H' = H ∧ t = []) ∨ ∃ bo cells, X = .ref 1 bo 0 t.length none ∧ PT H H' bo cells t
theorem BT.nil (H : Heap) : BT H H .nils [] := .inl ⟨rfl, rfl, rfl⟩
theorem BT.le {H H' : Heap} {X : AV} {t : Tbl} (h : BT H H' X t) : H.le H' := by
  rcases h with ⟨_, rfl, _⟩ | ⟨_, _, _, hP⟩
  · exact Heap.le_refl _
  · exact hP.le
theorem BT.rt {H H' : Heap} {X : AV} {t : Tbl} (h : BT H H' X t) : RT H' X t := by
  rcases h with ⟨rfl, rfl, rfl⟩ | ⟨bo, cells, rfl, hP⟩
  · exact ⟨[], ⟨rfl, rfl⟩, fun r hr => by simp at hr⟩
  · exact hP.rt none
theorem BT.push {H H' : Heap} {X : AV} {t : Tbl} {l : List Int} {b n : Nat} {cp : Option Nat} {K : AV → Heap → Prop} (h : BT H H' X t) (hne : ∀ l ∈ t, l ≠ []) (hb : H' b = none) (hn : n = l.length) (hlen : t.length < 1000000)
    (hk : ∀ X' H7, BT H H7 X' (t ++ [l]) → K X' H7) : appendA 1 24 X (.imm 1 true [.ref 1 b 0 n cp]) K (H'.put b (ints l)) := by
  subst hn
  have key : ∀ (Hx : Heap) (cells : List AV) (X : AV), PR H Hx cells t → Hx b = none → Grow 1 (Hx.put b (ints l)) (H'.put b (ints l)) X t.length cells → appendA 1 24 X (.imm 1 true [.ref 1 b 0 l.length cp]) K (H'.put b (ints l)) := by
    intro Hx cells X hPR hbx hg
    refine appendA_growR hg (m := 1) (new := [.ref 1 b 0 l.length cp]) (by simp [srcOf]) rfl rfl (by omega) (by omega) (by omega) fun v2 H2 hg2 ho2 => ?_
    obtain ⟨b2, hb2, rfl, rfl⟩ := hg2.own ho2
    have hP1 := hPR.push (l := l) (cp := cp) hbx
    have hP2 := hP1.pt hb2
    refine hk _ _ (.inr ⟨b2, _, ?_, hP2⟩)
    rw [List.length_append]; rfl
  rcases h with ⟨rfl, rfl, rfl⟩ | ⟨bo, cells, rfl, hP⟩
  · exact key H' [] .nils (PR.nil H') hb (Grow.nils 1 _)
  · have hbo : b ≠ bo := by rintro rfl; rw [hP.out] at hb; cases hb
    refine key (H'.del bo) cells _ (hP.pr hne) (by simp only [Heap.del, if_neg hbo]; exact hb) ?_
    have hd : ((H'.del bo).put b (ints l)) bo = none := by rw [Heap.put_ne (Ne.symm hbo)]; simp [Heap.del]
    have hput : H'.put b (ints l) = ((H'.del bo).put b (ints l)).put bo cells := by
      funext y
      simp only [Heap.put, Heap.del]
      by_cases hy : y = bo
      · subst hy; rw [if_pos rfl, if_neg (Ne.symm hbo)]; exact hP.out
      · rw [if_neg hy, if_neg hy]
    have := Grow.ref (sz := 1) (H := (H'.del bo).put b (ints l)) (b := bo) (n := t.length) (cells := cells) hd (by rw [hP.len]; simp)
    rwa [← hput] at this
/-- Published, with a number behind it. -/
theorem BT.end2 {H H' : Heap} {X : AV} {t : Tbl} {k : IntKind} {x : Int} {K : AV → Heap → Prop} (h : BT H H' X t) (hk : K (.tup [tl t, .int k x]) H) : endK (.tup [X, .int k x]) H' K := by
  rcases h with ⟨rfl, rfl, rfl⟩ | ⟨bo, cells, rfl, hP⟩
  · exact Grow.end2 (Grow.nils 1 H') hk
  · refine endK_all hP.le 3 ?_
    show K (.tup [conv H H' 2 (.ref 1 bo 0 t.length none), .int k x]) H
    rw [hP.pub none 0]; exact hk
theorem BT.end1 {H H' : Heap} {X : AV} {t : Tbl} {K : AV → Heap → Prop} (h : BT H H' X t) (hk : K (tl t) H) : endK X H' K := by
  rcases h with ⟨rfl, rfl, rfl⟩ | ⟨bo, cells, rfl, hP⟩
  · exact (Grow.nils 1 H').end1 hk
  · refine endK_all hP.le 2 ?_
    rw [hP.pub none 0]; exact hk
/-- ref.Turn -/
theorem c28 {v : AV} {t : Tbl} {H : Heap} {K : AV → Heap → Prop} (hv : RT H v t) (hl : t.length < 2 ^ 63) (hl2 : ∀ l ∈ t, l.length < 2 ^ 63) (hk : K (.tup [tl (if chkT t ≠ 0 then [] else turnE t), .int .i64 (chkT t)]) H) : ACalls Tryd.prog 28 [v] H K := by
  apply W28_ok
  unfold W28
  try simp only [letO_some, cellsOf?_agg, cellsOf?_int, cellsOf?_bool, cellsOf?_imm, cellsOf?_ref, cellsOf?_nils, faddr_iptr, faddr_ptr, List.drop_succ_cons, List.drop_zero, List.take_succ_cons, List.take_zero, load1_iptr, loadN_iptr, List.length_cons, List.length_nil, Nat.le_refl, if_true, List.getElem?_cons_zero, List.getElem?_cons_succ, List.getD_cons_zero, List.getD_cons_succ, extrF_tup, binF_add, binF_sub, binF_mul, binF_eql, binF_neq, binF_lss, binF_leq, binF_gtr, binF_geq, true_and]
  refine c31 hv hl hl2 ?_
  try simp only [letO_some, cellsOf?_agg, cellsOf?_int, cellsOf?_bool, cellsOf?_imm, cellsOf?_ref, cellsOf?_nils, faddr_iptr, faddr_ptr, List.drop_succ_cons, List.drop_zero, List.take_succ_cons, List.take_zero, load1_iptr, loadN_iptr, List.length_cons, List.length_nil, Nat.le_refl, if_true, List.getElem?_cons_zero, List.getElem?_cons_succ, List.getD_cons_zero, List.getD_cons_succ, extrF_tup, binF_add, binF_sub, binF_mul, binF_eql, binF_neq, binF_lss, binF_leq, binF_gtr, binF_geq, true_and]
  by_cases hc : chkT t = 0
  · have e1 : (chkT t != 0) = false := by rw [hc]; rfl
    simp only [e1, condA_ff]
    rw [if_neg (by simp [hc]), hc] at hk
    obtain ⟨n1, n2, hrows⟩ := chkT_ok hc
    have hTl : ∀ i, ((turnE t).take i).length ≤ 4 := fun i => by rw [List.length_take, turnE_length]; omega
    have hTm : ∀ l ∈ turnE t, l.length = t.length := by
      intro l hl
      obtain ⟨k, hk, rfl⟩ := List.mem_map.1 hl
      simp
    simp only [hv.len, letO_some]
    refine ⟨fun L H' => ∃ (i : Nat) (X : AV), eqt L [X, .int .i64 i] ∧ i ≤ t.length ∧ BT H H' X ((turnE t).take i), fun L _ => (t.length - iv L 1).toNat, ⟨0, .nils, rfl, by omega, BT.nil H⟩, ?_⟩
    rintro L H' ⟨i, X, rfl, hi, hB⟩
    have hle := hB.le
    try simp only [letO_some, cellsOf?_agg, cellsOf?_int, cellsOf?_bool, cellsOf?_imm, cellsOf?_ref, cellsOf?_nils, faddr_iptr, faddr_ptr, List.drop_succ_cons, List.drop_zero, List.take_succ_cons, List.take_zero, load1_iptr, loadN_iptr, List.length_cons, List.length_nil, Nat.le_refl, if_true, List.getElem?_cons_zero, List.getElem?_cons_succ, List.getD_cons_zero, List.getD_cons_succ, extrF_tup, binF_add, binF_sub, binF_mul, binF_eql, binF_neq, binF_lss, binF_leq, binF_gtr, binF_geq, true_and]
    refine condA_t (fun hlt => ?_) (fun hge => ?_)
    · have a1 : i < t.length := by omega
      refine ⟨fun L H'' => ∃ (j : Nat) (Y : AV), eqt L [Y, .int .i64 j] ∧ j ≤ t.length ∧ Grow 1 H' H'' Y j (ints ((List.range j).map fun r => cell t r i)) ∧ (0 < j → isOwn Y), fun L _ => (t.length - iv L 1).toNat, ⟨0, .nils, rfl, by omega, Grow.nils 1 H', by omega⟩, ?_⟩
      rintro L H'' ⟨j, Y, rfl, hj, hg, ho⟩
      try simp only [letO_some, cellsOf?_agg, cellsOf?_int, cellsOf?_bool, cellsOf?_imm, cellsOf?_ref, cellsOf?_nils, faddr_iptr, faddr_ptr, List.drop_succ_cons, List.drop_zero, List.take_succ_cons, List.take_zero, load1_iptr, loadN_iptr, List.length_cons, List.length_nil, Nat.le_refl, if_true, List.getElem?_cons_zero, List.getElem?_cons_succ, List.getD_cons_zero, List.getD_cons_succ, extrF_tup, binF_add, binF_sub, binF_mul, binF_eql, binF_neq, binF_lss, binF_leq, binF_gtr, binF_geq, true_and]
      refine condA_t (fun hlt2 => ?_) (fun hge2 => ?_)
      · have b1 : j < t.length := by omega
        have l2 : (t.getD j []).length = t.length := row_len hc b1
        refine hv.get (Heap.le_trans hle hg.le) (by omega) (by omega) fun a ha => ?_
        rw [Int.toNat_natCast] at ha
        try simp only [letO_some, cellsOf?_agg, cellsOf?_int, cellsOf?_bool, cellsOf?_imm, cellsOf?_ref, cellsOf?_nils, faddr_iptr, faddr_ptr, List.drop_succ_cons, List.drop_zero, List.take_succ_cons, List.take_zero, load1_iptr, loadN_iptr, List.length_cons, List.length_nil, Nat.le_refl, if_true, List.getElem?_cons_zero, List.getElem?_cons_succ, List.getD_cons_zero, List.getD_cons_succ, extrF_tup, binF_add, binF_sub, binF_mul, binF_eql, binF_neq, binF_lss, binF_leq, binF_gtr, binF_geq, true_and]
        refine ha.get (Heap.le_trans hle hg.le) (by omega) (by omega) ?_
        rw [Int.toNat_natCast, show (t.getD j []).getD i 0 = cell t j i from rfl]
        simp only [l23 cellsOf?_int, letO_some]
        refine appendA_oneR hg (by omega) fun v' H3 hg3 ho3 => ?_
        rw [wrap_i64 (by omega) (by omega)]
        refine ⟨⟨j + 1, v', rfl, by omega, ?_, fun _ => ho3⟩, by simp <;> omega⟩
        rw [List.range_succ, List.map_append]
        exact hg3
      · have hje : j = t.length := by omega
        subst hje
        obtain ⟨b, hb, rfl, rfl⟩ := hg.own (ho (by omega))
        simp only [l22 cellsOf?_ref, letO_some]
        refine hB.push (l := (List.range t.length).map fun r => cell t r i) (fun l hl => ?_) hb (by simp) (by have := hTl i; omega) fun X' H7 hB7 => ?_
        · have := hTm l (List.mem_of_mem_take hl)
          intro h; rw [h] at this; simp at this; omega
        · rw [wrap_i64 (by omega) (by omega)]
          refine ⟨⟨i + 1, X', rfl, by omega, ?_⟩, by simp <;> omega⟩
          have e : (turnE t).take (i + 1) = (turnE t).take i ++ [(List.range t.length).map fun r => cell t r i] := by
            rw [List.take_add_one]
            simp [turnE, a1]
          rw [e]; exact hB7
    · have hie : i = t.length := by omega
      subst hie
      rw [List.take_of_length_le (by simp)] at hB
      exact hB.end2 hk
  · have e1 : (chkT t != 0) = true := by simp [hc]
    simp only [e1, condA_tt]
    rw [if_pos hc] at hk
    exact endK_weak (endK_ret hk)
/-- The product of the numbers at a plan. -/
def prodK (t : Tb) (p : List Nat) : Nat → Int
  | 0 => 1
  | i + 1 => prodK t p i * cell t i (p.getD i 0)
theorem prodK_bd {t : Tb} (hc : chkT t = 0) (p : List Nat) : ∀ i, 0 ≤ prodK t p i ∧ prodK t p i ≤ 9 ^ i
  | 0 => by simp [prodK]
  | i + 1 => by
    obtain ⟨h1, h2⟩ := prodK_bd hc p i
    obtain ⟨h3, h4⟩ := cell_rng hc i (p.getD i 0)
    rw [prodK, Int.pow_succ]
    refine ⟨Int.mul_nonneg h1 h3, ?_⟩
    exact Int.mul_le_mul h2 h4 h3 (Int.pow_nonneg (by decide))
def sumP (t : Tb) (l : List (List Nat)) : Int := (l.map fun p => prodK t p t.length).sum
theorem sumP_bd {t : Tb} (hc : chkT t = 0) (l : List (List Nat)) : 0 ≤ sumP t l ∧ sumP t l ≤ 6561 * l.length := by
  obtain ⟨n1, n2, hrows⟩ := chkT_ok hc
  have h9 : (9 : Int) ^ t.length ≤ 6561 := by
    have hp : t.length = 1 ∨ t.length = 2 ∨ t.length = 3 ∨ t.length = 4 := by omega
    rcases hp with h | h | h | h <;> rw [h] <;> decide
  induction l with
  | nil => simp [sumP]
  | cons p l ih =>
    have := prodK_bd hc p t.length
    simp only [sumP, List.map_cons, List.sum_cons, List.length_cons] at ih ⊢
    omega
/-- ref.Weight -/
theorem c26 {v : AV} {t : Tbl} {H : Heap} {K : AV → Heap → Prop} (hv : RT H v t) (hl : t.length < 2 ^ 63) (hl2 : ∀ l ∈ t, l.length < 2 ^ 63)
    (hk : K (.tup [.int .i64 (if chkT t ≠ 0 then 0 else sumP t (plansS t.length)), .int .i64 (chkT t)]) H) : ACalls Tryd.prog 26 [v] H K := by
  apply W26_ok
  unfold W26
  try simp only [letO_some, cellsOf?_agg, cellsOf?_int, cellsOf?_bool, cellsOf?_imm, cellsOf?_ref, cellsOf?_nils, faddr_iptr, faddr_ptr, List.drop_succ_cons, List.drop_zero, List.take_succ_cons, List.take_zero, load1_iptr, loadN_iptr, List.length_cons, List.length_nil, Nat.le_refl, if_true, List.getElem?_cons_zero, List.getElem?_cons_succ, List.getD_cons_zero, List.getD_cons_succ, extrF_tup, binF_add, binF_sub, binF_mul, binF_eql, binF_neq, binF_lss, binF_leq, binF_gtr, binF_geq, true_and]
  refine c31 hv hl hl2 ?_
  try simp only [letO_some, cellsOf?_agg, cellsOf?_int, cellsOf?_bool, cellsOf?_imm, cellsOf?_ref, cellsOf?_nils, faddr_iptr, faddr_ptr, List.drop_succ_cons, List.drop_zero, List.take_succ_cons, List.take_zero, load1_iptr, loadN_iptr, List.length_cons, List.length_nil, Nat.le_refl, if_true, List.getElem?_cons_zero, List.getElem?_cons_succ, List.getD_cons_zero, List.getD_cons_succ, extrF_tup, binF_add, binF_sub, binF_mul, binF_eql, binF_neq, binF_lss, binF_leq, binF_gtr, binF_geq, true_and]
  by_cases hc : chkT t = 0
  · have e1 : (chkT t != 0) = false := by rw [hc]; rfl
    simp only [e1, condA_ff]
    rw [if_neg (by simp [hc]), hc] at hk
    obtain ⟨n1, n2, hrows⟩ := chkT_ok hc
    simp only [hv.len, letO_some]
    refine c76n ⟨n1, n2⟩ ?_
    have hPl := plansS_len n2
    have hPR := (RT.tl H ((plansS t.length).map up)).len
    have hPL : ((plansS t.length).map up).length = (plansS t.length).length := by simp
    have hPm : ∀ p ∈ plansS t.length, p.length = t.length ∧ ∀ c ∈ p, c < t.length := fun p hp => plansS_mem hp
    generalize hP : plansS t.length = P at *
    simp only [hPR, hPL, letO_some, cellsOf?_agg, cellsOf?_int, cellsOf?_bool, cellsOf?_imm, cellsOf?_ref, cellsOf?_nils, faddr_iptr, faddr_ptr, List.drop_succ_cons, List.drop_zero, List.take_succ_cons, List.take_zero, load1_iptr, loadN_iptr, List.length_cons, List.length_nil, Nat.le_refl, if_true, List.getElem?_cons_zero, List.getElem?_cons_succ, List.getD_cons_zero, List.getD_cons_succ, extrF_tup, binF_add, binF_sub, binF_mul, binF_eql, binF_neq, binF_lss, binF_leq, binF_gtr, binF_geq, true_and]
    have hget : ∀ (i : Nat) (hi : i < P.length) (H' : Heap) (k : AV → Prop), k (sl (up P[i])) → letO (idx 1 (tl (P.map up)) (.int .i64 (i : Int))) fun q => letO (load1 q H') k := by
      intro i hi H' k hk
      refine ReadsC.get (Heap.le_refl _) (n := P.length) (cells := (P.map up).map sl) ⟨by simp, by simp [tl]⟩ (x := sl (up P[i])) (by omega) (by omega) ?_ hk
      simp [hi]
    refine ⟨fun L H' => ∃ i : Nat, eqt L [.int .i64 (sumP t (P.take i)), .int .i64 i] ∧ i ≤ P.length ∧ eqt H' H, fun L _ => (P.length - iv L 1).toNat, ⟨0, rfl, by omega, rfl⟩, ?_⟩
    rintro L H' ⟨i, rfl, hi, rfl⟩
    try simp only [letO_some, cellsOf?_agg, cellsOf?_int, cellsOf?_bool, cellsOf?_imm, cellsOf?_ref, cellsOf?_nils, faddr_iptr, faddr_ptr, List.drop_succ_cons, List.drop_zero, List.take_succ_cons, List.take_zero, load1_iptr, loadN_iptr, List.length_cons, List.length_nil, Nat.le_refl, if_true, List.getElem?_cons_zero, List.getElem?_cons_succ, List.getD_cons_zero, List.getD_cons_succ, extrF_tup, binF_add, binF_sub, binF_mul, binF_eql, binF_neq, binF_lss, binF_leq, binF_gtr, binF_geq, true_and]
    refine condA_t (fun hlt => ?_) (fun hge => ?_)
    · have a1 : i < P.length := by omega
      obtain ⟨q1, q2⟩ := hPm P[i] (List.getElem_mem a1)
      refine ⟨fun L H'' => ∃ j : Nat, eqt L [.int .i64 (prodK t P[i] j), .int .i64 j] ∧ j ≤ t.length ∧ eqt H'' H', fun L _ => (t.length - iv L 1).toNat, ⟨0, rfl, by omega, rfl⟩, ?_⟩
      rintro L H'' ⟨j, rfl, hj, rfl⟩
      try simp only [letO_some, cellsOf?_agg, cellsOf?_int, cellsOf?_bool, cellsOf?_imm, cellsOf?_ref, cellsOf?_nils, faddr_iptr, faddr_ptr, List.drop_succ_cons, List.drop_zero, List.take_succ_cons, List.take_zero, load1_iptr, loadN_iptr, List.length_cons, List.length_nil, Nat.le_refl, if_true, List.getElem?_cons_zero, List.getElem?_cons_succ, List.getD_cons_zero, List.getD_cons_succ, extrF_tup, binF_add, binF_sub, binF_mul, binF_eql, binF_neq, binF_lss, binF_leq, binF_gtr, binF_geq, true_and]
      have hp1 := prodK_bd hc P[i] j
      have h9 : (9 : Int) ^ j ≤ 6561 := by
        have hp : j = 0 ∨ j = 1 ∨ j = 2 ∨ j = 3 ∨ j = 4 := by omega
        rcases hp with h | h | h | h | h <;> rw [h] <;> decide
      refine condA_t (fun hlt2 => ?_) (fun hge2 => ?_)
      · have b1 : j < t.length := by omega
        have l2 : (t.getD j []).length = t.length := row_len hc b1
        have gj : (up P[i]).getD j 0 = ((P[i].getD j 0 : Nat) : Int) := by
          have hj1 : j < P[i].length := by omega
          simp [up, List.getD_eq_getElem?_getD, hj1]
        have hcj : P[i].getD j 0 < t.length := by
          have hj1 : j < P[i].length := by omega
          have := q2 (P[i].getD j 0) (by rw [List.getD_eq_getElem?_getD]; simp [hj1])
          exact this
        refine hv.get (Heap.le_refl _) (by omega) (by omega) fun a ha => ?_
        rw [Int.toNat_natCast] at ha
        try simp only [letO_some, cellsOf?_agg, cellsOf?_int, cellsOf?_bool, cellsOf?_imm, cellsOf?_ref, cellsOf?_nils, faddr_iptr, faddr_ptr, List.drop_succ_cons, List.drop_zero, List.take_succ_cons, List.take_zero, load1_iptr, loadN_iptr, List.length_cons, List.length_nil, Nat.le_refl, if_true, List.getElem?_cons_zero, List.getElem?_cons_succ, List.getD_cons_zero, List.getD_cons_succ, extrF_tup, binF_add, binF_sub, binF_mul, binF_eql, binF_neq, binF_lss, binF_leq, binF_gtr, binF_geq, true_and]
        refine hget i a1 _ _ ?_
        try simp only [letO_some, cellsOf?_agg, cellsOf?_int, cellsOf?_bool, cellsOf?_imm, cellsOf?_ref, cellsOf?_nils, faddr_iptr, faddr_ptr, List.drop_succ_cons, List.drop_zero, List.take_succ_cons, List.take_zero, load1_iptr, loadN_iptr, List.length_cons, List.length_nil, Nat.le_refl, if_true, List.getElem?_cons_zero, List.getElem?_cons_succ, List.getD_cons_zero, List.getD_cons_succ, extrF_tup, binF_add, binF_sub, binF_mul, binF_eql, binF_neq, binF_lss, binF_leq, binF_gtr, binF_geq, true_and]
        refine (Reads.sl H'' (up P[i])).get (Heap.le_refl _) (by omega) (by rw [up_length]; omega) ?_
        rw [Int.toNat_natCast, gj]
        refine ha.get (Heap.le_refl _) (by omega) (by omega) ?_
        rw [Int.toNat_natCast, show (t.getD j []).getD (P[i].getD j 0) 0 = cell t j (P[i].getD j 0) from rfl]
        have hcr := cell_rng hc j (P[i].getD j 0)
        have hp2 := prodK_bd hc P[i] (j + 1)
        have h92 : (9 : Int) ^ (j + 1) ≤ 59049 := by
          have hp : j = 0 ∨ j = 1 ∨ j = 2 ∨ j = 3 := by omega
          rcases hp with h | h | h | h <;> rw [h] <;> decide
        try simp only [letO_some, cellsOf?_agg, cellsOf?_int, cellsOf?_bool, cellsOf?_imm, cellsOf?_ref, cellsOf?_nils, faddr_iptr, faddr_ptr, List.drop_succ_cons, List.drop_zero, List.take_succ_cons, List.take_zero, load1_iptr, loadN_iptr, List.length_cons, List.length_nil, Nat.le_refl, if_true, List.getElem?_cons_zero, List.getElem?_cons_succ, List.getD_cons_zero, List.getD_cons_succ, extrF_tup, binF_add, binF_sub, binF_mul, binF_eql, binF_neq, binF_lss, binF_leq, binF_gtr, binF_geq, true_and]
        rw [prodK] at hp2
        rw [wrap_i64 (n := prodK t P[i] j * _) (by omega) (by omega), wrap_i64 (by omega) (by omega)]
        exact ⟨⟨j + 1, rfl, by omega, rfl⟩, by simp <;> omega⟩
      · have hje : j = t.length := by omega
        subst hje
        have hs1 := sumP_bd hc (P.take i)
        rw [List.length_take] at hs1
        try simp only [letO_some, cellsOf?_agg, cellsOf?_int, cellsOf?_bool, cellsOf?_imm, cellsOf?_ref, cellsOf?_nils, faddr_iptr, faddr_ptr, List.drop_succ_cons, List.drop_zero, List.take_succ_cons, List.take_zero, load1_iptr, loadN_iptr, List.length_cons, List.length_nil, Nat.le_refl, if_true, List.getElem?_cons_zero, List.getElem?_cons_succ, List.getD_cons_zero, List.getD_cons_succ, extrF_tup, binF_add, binF_sub, binF_mul, binF_eql, binF_neq, binF_lss, binF_leq, binF_gtr, binF_geq, true_and]
        rw [wrap_i64 (n := sumP t (P.take i) + _) (by omega) (by omega), wrap_i64 (by omega) (by omega)]
        have e : sumP t (P.take i) + prodK t P[i] t.length = sumP t (P.take (i + 1)) := by
          have e2 : P.take (i + 1) = P.take i ++ [P[i]] := by rw [List.take_add_one, List.getElem?_eq_getElem a1]; rfl
          rw [e2]; unfold sumP
          rw [List.map_append, List.sum_append]
          simp only [List.map_cons, List.map_nil, List.sum_cons, List.sum_nil, Int.add_zero]
        rw [e]
        exact ⟨⟨i + 1, rfl, by omega, rfl⟩, by simp <;> omega⟩
    · have hie : i = P.length := by omega
      subst hie
      rw [List.take_length]
      exact endK_ret hk
  · have e1 : (chkT t != 0) = true := by simp [hc]
    simp only [e1, condA_tt]
    rw [if_pos hc] at hk
    exact endK_ret hk
end Go.Proofs.YtbofkeoebnjjkaaDoor

namespace Go.Proofs.YtbofkeoebnjjkaaDoor
open Tab
set_option linter.unusedVariables false
set_option linter.unusedSimpArgs false

/- The walk through a table, and all plans of it. -/
def posG (t : Tb) : Nat → List Nat → Bool
  | _, [] => true
  | r, c :: G => decide (0 < cell t r c) && posG t (r + 1) G
def prodG (t : Tb) : Nat → Int → List Nat → Int
  | _, w, [] => w
  | r, w, c :: G => prodG t (r + 1) (w * cell t r c) G
def leastG (t : Tb) : Nat → Int → List Nat → Int
  | _, l, [] => l
  | r, l, c :: G => leastG t (r + 1) (if cell t r c < l then cell t r c else l) G
theorem posG_snoc (t : Tb) : ∀ (G : List Nat) (r c : Nat), posG t r (G ++ [c]) = (posG t r G && decide (0 < cell t (r + G.length) c))
  | [], r, c => by simp [posG]
  | a :: G, r, c => by
    rw [List.cons_append, posG, posG, posG_snoc t G, Bool.and_assoc, List.length_cons, show r + (G.length + 1) = r + 1 + G.length by omega]
theorem prodG_snoc (t : Tb) : ∀ (G : List Nat) (r : Nat) (w : Int) (c : Nat), prodG t r w (G ++ [c]) = prodG t r w G * cell t (r + G.length) c
  | [], r, w, c => by simp [prodG]
  | a :: G, r, w, c => by
    rw [List.cons_append, prodG, prodG, prodG_snoc t G, List.length_cons, show r + (G.length + 1) = r + 1 + G.length by omega]
theorem leastG_snoc (t : Tb) : ∀ (G : List Nat) (r : Nat) (l : Int) (c : Nat), leastG t r l (G ++ [c]) = if cell t (r + G.length) c < leastG t r l G then cell t (r + G.length) c else leastG t r l G
  | [], r, l, c => rfl
  | a :: G, r, l, c => by
    rw [List.cons_append, leastG, leastG, leastG_snoc t G, List.length_cons, show r + (G.length + 1) = r + 1 + G.length by omega]
theorem wk_ext {t : Tb} : ∀ (f : Nat) (p : List Nat) (w l : Int), wk t f p w l = ((ext t.length f p).filter (posG t p.length)).map fun G => (p ++ G, prodG t p.length w G, leastG t p.length l G)
  | 0, p, w, l => by
    show [(p, w, l)] = [(p ++ [], w, l)]
    rw [List.append_nil]
  | f + 1, p, w, l => by
    rw [wk, ext, List.filter_flatMap, List.map_flatMap]
    congr 1
    funext c
    by_cases hc : c ∈ p
    · rw [if_neg (fun h => h.2 hc), if_pos hc]; rfl
    · rw [if_neg hc]
      by_cases h0 : 0 < cell t p.length c
      · rw [if_pos ⟨h0, hc⟩, wk_ext f, List.filter_map, List.map_map]
        have e1 : ((ext t.length f (p ++ [c])).filter (posG t (p ++ [c]).length)) = (ext t.length f (p ++ [c])).filter (posG t p.length ∘ fun G => c :: G) := by
          refine List.filter_congr fun G _ => ?_
          simp [posG, h0]
        rw [e1]
        refine List.map_congr_left fun G _ => ?_
        simp [prodG, leastG]
      · rw [if_neg (fun h => h0 h.1), List.filter_map]
        have : (ext t.length f (p ++ [c])).filter (posG t p.length ∘ fun G => c :: G) = [] := by
          rw [List.filter_eq_nil_iff]
          intro G _
          simp [posG, h0]
        rw [this]; rfl
theorem take_snoc {α : Type} {G : List α} {i : Nat} (h : i < G.length) : G.take (i + 1) = G.take i ++ [G[i]] := by
  rw [List.take_add_one, List.getElem?_eq_getElem h]; rfl
theorem up_getN (G : List Nat) (i : Nat) : ((up G).getD i 0).toNat = G.getD i 0 := by
  rw [List.getD_eq_getElem?_getD, List.getD_eq_getElem?_getD]
  simp only [up, List.getElem?_map]
  cases G[i]? <;> simp
theorem prodG_K (t : Tb) (G : List Nat) : ∀ i, i ≤ G.length → prodG t 0 1 (G.take i) = prodK t G i
  | 0, _ => by simp [prodG, prodK]
  | i + 1, h => by
    rw [take_snoc (by omega), prodG_snoc, prodG_K t G i (by omega), prodK, List.length_take, Nat.min_eq_left (by omega), Nat.zero_add]
    have : G.getD i 0 = G[i] := by simp [List.getD_eq_getElem?_getD, show i < G.length by omega]
    rw [this]
theorem leastG_K {t : Tb} (hc : chkT t = 0) (G : List Nat) : ∀ i, 1 ≤ i → i ≤ G.length → leastG t 0 9 (G.take i) = leastK t (up G) i
  | 0, h, _ => by omega
  | 1, _, h => by
    rw [take_snoc (by omega), leastG_snoc]
    have e : G.getD 0 0 = G[0] := by simp [List.getD_eq_getElem?_getD, show 0 < G.length by omega]
    have hs : leastK t (up G) 1 = cell t 0 G[0] := by rw [leastK_one, leastK, up_getN, e]
    rw [hs]
    have := (cell_rng hc 0 G[0]).2
    simp only [List.take_zero, leastG, List.length_nil, Nat.add_zero]
    split <;> omega
  | i + 2, _, h => by
    have : G.getD (i + 1) 0 = G[i + 1] := by simp [List.getD_eq_getElem?_getD, show i + 1 < G.length by omega]
    have hs : leastK t (up G) (i + 2) = if cell t (i + 1) G[i + 1] < leastK t (up G) (i + 1) then cell t (i + 1) G[i + 1] else leastK t (up G) (i + 1) := by rw [← this, ← up_getN]; rfl
    rw [take_snoc (by omega), leastG_snoc, leastG_K hc G (i + 1) (by omega) (by omega), hs, List.length_take, Nat.min_eq_left (by omega), Nat.zero_add]
theorem posG_least {t : Tb} (hc : chkT t = 0) (G : List Nat) : ∀ i, 1 ≤ i → i ≤ G.length → posG t 0 (G.take i) = decide (0 < leastK t (up G) i)
  | 0, h, _ => by omega
  | 1, _, h => by
    rw [take_snoc (by omega), posG_snoc]
    have e : G.getD 0 0 = G[0] := by simp [List.getD_eq_getElem?_getD, show 0 < G.length by omega]
    have hs : leastK t (up G) 1 = cell t 0 G[0] := by rw [leastK_one, leastK, up_getN, e]
    rw [hs]
    simp only [posG, List.take_zero, List.length_nil, Nat.add_zero, Bool.true_and]
    rfl
  | i + 2, _, h => by
    have : G.getD (i + 1) 0 = G[i + 1] := by simp [List.getD_eq_getElem?_getD, show i + 1 < G.length by omega]
    have hs : leastK t (up G) (i + 2) = if cell t (i + 1) G[i + 1] < leastK t (up G) (i + 1) then cell t (i + 1) G[i + 1] else leastK t (up G) (i + 1) := by rw [← this, ← up_getN]; rfl
    rw [take_snoc (by omega), posG_snoc, posG_least hc G (i + 1) (by omega) (by omega), hs, List.length_take, Nat.min_eq_left (by omega), Nat.zero_add]
    by_cases h1 : 0 < leastK t (up G) (i + 1) <;> by_cases h2 : 0 < cell t (i + 1) G[i + 1] <;> simp [h1, h2] <;> split <;> omega
/-- THE WALK'S PLANS ARE THE REFERENCE'S. -/
theorem wkAll_eq {t : Tb} (hc : chkT t = 0) : wkAll t = (withinS t).map fun p => (p, prodK t p t.length, leastK t (up p) t.length) := by
  obtain ⟨n1, n2, hrows⟩ := chkT_ok hc
  have e0 : ∀ p ∈ plansS t.length, p.take t.length = p := fun p hp => List.take_of_length_le (by have := (plansS_mem hp).1; omega)
  have e1 : (plansS t.length).filter (posG t 0) = withinS t := by
    refine List.filter_congr fun p hp => ?_
    have := posG_least hc p t.length n1 (by have := (plansS_mem hp).1; omega)
    rw [e0 p hp] at this
    exact this
  have e2 : wkAll t = ((plansS t.length).filter (posG t 0)).map fun G => ([] ++ G, prodG t 0 1 G, leastG t 0 9 G) := wk_ext t.length [] 1 9
  rw [e2, e1]
  refine List.map_congr_left fun p hp => ?_
  have hp' : p ∈ plansS t.length := (List.mem_filter.1 hp).1
  have hl := (plansS_mem hp').1
  have h1 := prodG_K t p t.length (by omega)
  have h2 := leastG_K hc p t.length n1 (by omega)
  rw [e0 p hp'] at h1 h2
  rw [h1, h2, List.nil_append]
theorem prodK_zero {t : Tb} {p : List Nat} : ∀ (i r : Nat), r < i → cell t r (p.getD r 0) = 0 → prodK t p i = 0
  | 0, r, h, _ => by omega
  | i + 1, r, h, hz => by
    rw [prodK]
    by_cases hr : r = i
    · subst hr; rw [hz, Int.mul_zero]
    · rw [prodK_zero i r (by omega) hz, Int.zero_mul]
/-- Plans that are not within a table weigh nothing. -/
theorem sumP_within {t : Tb} (hc : chkT t = 0) : sumP t (plansS t.length) = sumP t (withinS t) := by
  obtain ⟨n1, n2, hrows⟩ := chkT_ok hc
  have key : ∀ l : List (List Nat), (∀ p ∈ l, p.length = t.length) → sumP t l = sumP t (l.filter fun p => decide (0 < leastK t (up p) t.length)) := by
    intro l
    induction l with
    | nil => intro _; rfl
    | cons p l ih =>
      intro h
      have ih' := ih fun q hq => h q (by simp [hq])
      have hp := h p (by simp)
      rw [List.filter_cons]
      by_cases hpos : 0 < leastK t (up p) t.length
      · rw [if_pos (by simpa using hpos)]
        simp only [sumP, List.map_cons, List.sum_cons] at ih' ⊢
        rw [ih']
      · rw [if_neg (by simpa using hpos), ← ih']
        obtain ⟨r, h1, h2⟩ := leastK_in (t := t) (p := up p) t.length n1
        have h3 := (cell_rng hc r ((up p).getD r 0).toNat).1
        have hz : cell t r (p.getD r 0) = 0 := by rw [up_getN] at h2 h3; have : leastK t (up p) t.length ≤ 0 := Int.not_lt.1 hpos; omega
        simp only [sumP, List.map_cons, List.sum_cons]
        rw [prodK_zero t.length r h1 hz, Int.zero_add]
  exact key _ fun p hp => (plansS_mem hp).1
theorem countE_eq {t : Tb} (hc : chkT t = 0) : (countE t).1 = (withinS t).length := by
  rw [countE, if_neg (by simp [hc]), wkAll_eq hc, List.length_map]
theorem weightE_eq {t : Tb} (hc : chkT t = 0) : (weightE t).1 = sumP t (plansS t.length) := by
  rw [weightE, if_neg (by simp [hc]), wkAll_eq hc, sumP_within hc, List.map_map]; rfl
end Go.Proofs.YtbofkeoebnjjkaaDoor

namespace Go.Proofs.YtbofkeoebnjjkaaDoor
open Tab
set_option linter.unusedVariables false
set_option linter.unusedSimpArgs false

/- Lists of rows and columns in ascending order, as sets. -/
theorem rd_gt {n : Nat} : ∀ {l : List Int} {last : Int}, rdE n last l = 0 → ∀ x ∈ l, last < x
  | [], _, _, x, hx => by simp at hx
  | a :: r, last, h, x, hx => by
    unfold rdE at h
    split at h
    · cases h
    · split at h
      · cases h
      · rcases List.mem_cons.1 hx with rfl | hx
        · omega
        · have := rd_gt h x hx; omega
theorem rd_lst {n : Nat} (hn : n ≤ 4) : ∀ (l : List Int) (last : Int), -1 ≤ last → rdE n last l = 0 → (List.range 4).filter (fun (c : Nat) => decide (last < (c : Int)) && memB l c) = l.map Int.toNat
  | [], last, _, _ => by simp [memB]
  | a :: r, last, hl, h => by
    have hgt := rd_gt h
    unfold rdE at h
    split at h
    · cases h
    · rename_i h1
      split at h
      · cases h
      · rename_i h2
        have ih := rd_lst hn r a (by omega) h
        have hgr := rd_gt h
        have h3 : ∀ c : Nat, (decide (last < (c : Int)) && memB (a :: r) c) = (decide ((c : Int) = a) || (decide (a < (c : Int)) && memB r c)) := by
          intro c
          unfold memB
          by_cases hc : (c : Int) = a
          · have : last < (c : Int) := by omega
            simp [hc]; omega
          · by_cases hm : (c : Int) ∈ r
            · have := hgr _ hm
              simp [hc, hm, this]; omega
            · simp [hc, hm]
        rw [List.filter_congr fun c _ => h3 c, List.map_cons, ← ih]
        have ha : a = 0 ∨ a = 1 ∨ a = 2 ∨ a = 3 := by omega
        have hr4 : List.range 4 = [0, 1, 2, 3] := rfl
        rw [hr4]
        rcases ha with rfl | rfl | rfl | rfl <;> simp [List.filter_cons]
theorem rd_bits {n : Nat} (hn : n ≤ 4) {l : List Int} (h : rdE n (-1) l = 0) : lst (bits4 (memB l)) = l.map Int.toNat := by
  rw [lst_bits, ← rd_lst hn l (-1) (by omega) h]
  refine List.filter_congr fun c _ => ?_
  have : (-1 : Int) < (c : Int) := by omega
  simp [this]
theorem bits4_zero {f : Nat → Bool} : bits4 f = 0 ↔ ∀ k, k < 4 → f k = false := by
  have key : ∀ a b c d : Bool, b4 a b c d = 0 ↔ (a = false ∧ b = false ∧ c = false ∧ d = false) := by decide
  unfold bits4
  rw [key]
  constructor
  · rintro ⟨h0, h1, h2, h3⟩ k hk
    rcases lt4 hk with rfl | rfl | rfl | rfl <;> assumption
  · intro h
    exact ⟨h 0 (by omega), h 1 (by omega), h 2 (by omega), h 3 (by omega)⟩
/-- Whether some number of a block is above 0. -/
def hitB (t : Tb) (rows cols : List Int) : Bool := rows.any fun r => cols.any fun c => decide (0 < cell t r.toNat c.toNat)
theorem proves_eq {t : Tb} (hc : chkT t = 0) (rows cols : List Int) : provesE t rows cols = if rdE t.length (-1) rows ≠ 0 then rdE t.length (-1) rows else if rdE t.length (-1) cols ≠ 0 then rdE t.length (-1) cols else if hitB t rows cols = true ∨ rows.length + cols.length ≤ t.length then 14 else 0 := by
  obtain ⟨n1, n2, hrows⟩ := chkT_ok hc
  rw [provesE, if_neg (by simp [hc])]
  by_cases h1 : rdE t.length (-1) rows = 0
  · have hR : readE t.length rows = (bits4 (memB rows), 0) := by rw [readE, if_pos h1]
    rw [hR, if_neg (c := rdE t.length (-1) rows ≠ 0) (by simp [h1]), if_neg (by simp)]
    by_cases h2 : rdE t.length (-1) cols = 0
    · have hC : readE t.length cols = (bits4 (memB cols), 0) := by rw [readE, if_pos h2]
      rw [hC, if_neg (c := rdE t.length (-1) cols ≠ 0) (by simp [h2]), if_neg (by simp)]
      simp only
      have e1 : popN (bits4 (memB rows)) = rows.length := by rw [popN, rd_bits n2 h1, List.length_map]
      have e2 : popN (bits4 (memB cols)) = cols.length := by rw [popN, rd_bits n2 h2, List.length_map]
      rw [e1, e2]
      have e3 : andN (bits4 (memB cols)) (zerosN t (bits4 (memB rows))) ≠ 0 ↔ hitB t rows cols = true := by
        have hm := rdE_mem h2
        have hmr := rdE_mem h1
        constructor
        · intro h
          unfold andN at h
          rw [Ne, bits4_zero] at h
          have h' : ∃ k, k < 4 ∧ ((bits4 (memB cols)).testBit k && !(zerosN t (bits4 (memB rows))).testBit k) = true := by
            refine Classical.byContradiction fun hx => h fun k hk => ?_
            cases hb : ((bits4 (memB cols)).testBit k && !(zerosN t (bits4 (memB rows))).testBit k) with
            | false => rfl
            | true => exact absurd ⟨k, hk, hb⟩ hx
          obtain ⟨k, hk, hb⟩ := h'
          rw [bits4_test hk, zerosN, bits4_test hk, Bool.and_eq_true, rd_bits n2 h1] at hb
          obtain ⟨hb1, hb2⟩ := hb
          have hkc : (k : Int) ∈ cols := of_decide_eq_true hb1
          have hkn := hm _ hkc
          unfold zerosB at hb2
          rw [decide_eq_true (by omega : k < t.length), Bool.true_and, Bool.not_eq_true', List.all_eq_false] at hb2
          obtain ⟨r, hr, hr2⟩ := hb2
          obtain ⟨r', hr', rfl⟩ := List.mem_map.1 hr
          unfold hitB
          rw [List.any_eq_true]
          refine ⟨r', hr', ?_⟩
          rw [List.any_eq_true]
          refine ⟨(k : Int), hkc, ?_⟩
          rw [Int.toNat_natCast]
          simpa using hr2
        · intro h
          unfold hitB at h
          rw [List.any_eq_true] at h
          obtain ⟨r, hr, h⟩ := h
          rw [List.any_eq_true] at h
          obtain ⟨c, hcm, h⟩ := h
          have hcn := hm c hcm
          unfold andN
          rw [Ne, bits4_zero]
          intro hx
          have := hx c.toNat (by omega)
          rw [bits4_test (by omega), zerosN, bits4_test (by omega), rd_bits n2 h1] at this
          have hb1 : memB cols c.toNat = true := by
            unfold memB
            rw [show ((c.toNat : Nat) : Int) = c by omega]
            exact decide_eq_true hcm
          rw [hb1, Bool.true_and, Bool.not_eq_false'] at this
          unfold zerosB at this
          rw [Bool.and_eq_true, List.all_eq_true] at this
          have h3 := this.2 r.toNat (List.mem_map.2 ⟨r, hr, rfl⟩)
          simp at h3 h
          omega
      by_cases h3 : hitB t rows cols = true
      · rw [if_pos (.inl (e3.2 h3)), if_pos (.inl h3)]
      · by_cases h4 : rows.length + cols.length ≤ t.length
        · rw [if_pos (.inr h4), if_pos (.inr h4)]
        · rw [if_neg (fun h => h.elim (fun h => h3 (e3.1 h)) h4), if_neg (fun h => h.elim h3 h4)]
    · have hC : readE t.length cols = (0, rdE t.length (-1) cols) := by rw [readE, if_neg h2]
      rw [hC, if_pos h2, if_pos h2]
  · have hR : readE t.length rows = (0, rdE t.length (-1) rows) := by rw [readE, if_neg h1]
    rw [hR, if_pos h1, if_pos h1]
end Go.Proofs.YtbofkeoebnjjkaaDoor

namespace Go.Proofs.YtbofkeoebnjjkaaDoor
open Go.Av Tab
set_option linter.unusedVariables false
set_option linter.unusedSimpArgs false
set_option maxRecDepth 4000

/-- All ways to go on with an ascending list. -/
def exL (n : Nat) : Nat → Nat → List (List Nat)
  | 0, _ => [[]]
  | f + 1, fr => (List.range (n - fr)).flatMap fun m => (exL n f (fr + m + 1)).map ((fr + m) :: ·)
def exLTo (n f fr k : Nat) : List (List Nat) := (List.range k).flatMap fun m => (exL n f (fr + m + 1)).map ((fr + m) :: ·)
theorem exLTo_succ (n f fr k : Nat) : exLTo n f fr (k + 1) = exLTo n f fr k ++ (exL n f (fr + k + 1)).map ((fr + k) :: ·) := by
  simp [exLTo, List.range_succ]
theorem exLTo_len {n f fr B : Nat} (h : ∀ c, (exL n f c).length ≤ B) (m : Nat) : (exLTo n f fr m).length ≤ m * B := by
  induction m with
  | zero => simp [exLTo]
  | succ m ih =>
    rw [exLTo_succ, List.length_append, Nat.add_mul, Nat.one_mul, List.length_map]
    have := h (fr + m + 1)
    omega
theorem exL_len {n : Nat} : ∀ (f fr : Nat), (exL n f fr).length ≤ n ^ f
  | 0, fr => by simp [exL]
  | f + 1, fr => by
    have h1 := exLTo_len (n := n) (f := f) (fr := fr) (fun c => exL_len f c) (n - fr)
    have h2 : (n - fr) * n ^ f ≤ n * n ^ f := Nat.mul_le_mul_right _ (by omega)
    rw [Nat.pow_succ, Nat.mul_comm]
    exact Nat.le_trans h1 h2
def plVL (n f fr : Nat) (E : List Nat) (x : AV) : AV :=
  if f = 0 then .imm 1 false [x] else .imm (exL n f fr).length false ((exL n f fr).map fun G => sl (up (E ++ G)))
def lastF (E : List Nat) : Nat := if E.length = 0 then 0 else E.getD (E.length - 1) 0 + 1
theorem lastF_snoc (E : List Nat) (c : Nat) : lastF (E ++ [c]) = c + 1 := by
  rw [lastF, if_neg (by simp)]
  simp [List.getD_eq_getElem?_getD]
/-- ref.lists -/
theorem c85 {n many : Nat} (hn : n ≤ 4) : ∀ (f fr : Nat) (E : List Nat) (x : AV) (H : Heap) (K : AV → Heap → Prop), Reads H x (up E) → E.length + f = many → lastF E = fr → fr ≤ n → many ≤ 4 →
    K (plVL n f fr E x) H → ACalls Tryd.prog 85 [.int .i64 n, .int .i64 many, x] H K := by
  intro f
  induction f with
  | zero =>
    intro fr E x H K hx he hfr hfn hm4 hk
    apply W85_ok
    unfold W85
    have hxl := hx.len
    rw [up_length] at hxl
    have e1 : ((E.length : Int) == (many : Int)) = true := by rw [← he]; exact beq_self_eq_true _
    simp only [letO_some, cellsOf?_agg, cellsOf?_int, cellsOf?_bool, cellsOf?_imm, cellsOf?_ref, cellsOf?_nils, faddr_iptr, faddr_ptr, List.drop_succ_cons, List.drop_zero, List.take_succ_cons, List.take_zero, load1_iptr, loadN_iptr, List.length_cons, List.length_nil, Nat.le_refl, if_true, List.getElem?_cons_zero, List.getElem?_cons_succ, List.getD_cons_zero, List.getD_cons_succ, extrF_tup, binF_add, binF_sub, binF_mul, binF_eql, binF_neq, binF_lss, binF_leq, binF_gtr, binF_geq, true_and, hxl, e1, condA_tt, l22 hx.cells]
    rw [plVL, if_pos rfl] at hk
    exact endK_weak (endK_ret hk)
  | succ f ih =>
    intro fr E x H K hx he hfr hfn hm4 hk
    apply W85_ok
    unfold W85
    have hxl := hx.len
    rw [up_length] at hxl
    have e1 : ((E.length : Int) == (many : Int)) = false := by rw [beq_eq_false_iff_ne]; omega
    simp only [letO_some, cellsOf?_agg, cellsOf?_int, cellsOf?_bool, cellsOf?_imm, cellsOf?_ref, cellsOf?_nils, faddr_iptr, faddr_ptr, List.drop_succ_cons, List.drop_zero, List.take_succ_cons, List.take_zero, load1_iptr, loadN_iptr, List.length_cons, List.length_nil, Nat.le_refl, if_true, List.getElem?_cons_zero, List.getElem?_cons_succ, List.getD_cons_zero, List.getD_cons_succ, extrF_tup, binF_add, binF_sub, binF_mul, binF_eql, binF_neq, binF_lss, binF_leq, binF_gtr, binF_geq, true_and, hxl, e1, condA_ff]
    rw [plVL, if_neg (by omega)] at hk
    have hB : ∀ c, (exL n f c).length ≤ 4 ^ 4 := fun c => by
      have h1 := exL_len (n := n) f c
      have h2 : n ^ f ≤ 4 ^ f := Nat.pow_le_pow_left hn f
      have h3 : 4 ^ f ≤ 4 ^ 4 := Nat.pow_le_pow_right (by decide) (by omega)
      omega
    refine ⟨fun L H' => eqt L [.int .i64 fr] ∧ eqt H' H, ?_, ?_⟩
    · refine condA_t (fun hpos => ?_) (fun hz => ?_)
      · have h0 : 0 < E.length := by omega
        rw [wrap_i64 (by omega) (by omega)]
        have e2 : ((E.length : Int) - 1) = ((E.length - 1 : Nat) : Int) := by omega
        rw [e2]
        refine hx.get (Heap.le_refl _) (by omega) (by rw [up_length]; omega) ?_
        rw [Int.toNat_natCast, up_getD]
        rw [lastF, if_neg (by omega)] at hfr
        try simp only [letO_some, cellsOf?_agg, cellsOf?_int, cellsOf?_bool, cellsOf?_imm, cellsOf?_ref, cellsOf?_nils, faddr_iptr, faddr_ptr, List.drop_succ_cons, List.drop_zero, List.take_succ_cons, List.take_zero, load1_iptr, loadN_iptr, List.length_cons, List.length_nil, Nat.le_refl, if_true, List.getElem?_cons_zero, List.getElem?_cons_succ, List.getD_cons_zero, List.getD_cons_succ, extrF_tup, binF_add, binF_sub, binF_mul, binF_eql, binF_neq, binF_lss, binF_leq, binF_gtr, binF_geq, true_and]
        rw [wrap_i64 (by omega) (by omega)]
        refine ⟨?_, rfl⟩
        unfold eqt
        congr 2
        omega
      · rw [lastF, if_pos (by omega)] at hfr
        subst hfr
        exact ⟨rfl, rfl⟩
    rintro L Hq ⟨rfl, rfl⟩
    try simp only [letO_some, cellsOf?_agg, cellsOf?_int, cellsOf?_bool, cellsOf?_imm, cellsOf?_ref, cellsOf?_nils, faddr_iptr, faddr_ptr, List.drop_succ_cons, List.drop_zero, List.take_succ_cons, List.take_zero, load1_iptr, loadN_iptr, List.length_cons, List.length_nil, Nat.le_refl, if_true, List.getElem?_cons_zero, List.getElem?_cons_succ, List.getD_cons_zero, List.getD_cons_succ, extrF_tup, binF_add, binF_sub, binF_mul, binF_eql, binF_neq, binF_lss, binF_leq, binF_gtr, binF_geq, true_and]
    refine ⟨fun L H' => ∃ (m : Nat) (X : AV) (xs : List AV) (H1 : Heap), eqt L [X, .int .i64 ((fr + m : Nat) : Int)] ∧ fr + m ≤ n ∧ Hq.le H1 ∧ Grow 1 H1 H' X xs.length xs ∧ ∀ H2, H1.le H2 → xs.map (conv Hq H2 1) = (exLTo n f fr m).map fun G => sl (up (E ++ G)), fun L _ => (n - iv L 1).toNat,
      ⟨0, .nils, [], Hq, rfl, by omega, Heap.le_refl _, Grow.nils 1 Hq, fun _ _ => by simp [exLTo]⟩, ?_⟩
    intro L H' hI
    obtain ⟨m, X, xs, H1, rfl, hm, hle1, hg, hxs⟩ := hI
    have hleH : Hq.le H' := Heap.le_trans hle1 hg.le
    have hxslen : xs.length = (exLTo n f fr m).length := by
      have := congrArg List.length (hxs H1 (Heap.le_refl _)); simpa using this
    have hxb := exLTo_len (n := n) (f := f) (fr := fr) hB m
    have hxb2 : m * 4 ^ 4 ≤ 4 * 4 ^ 4 := Nat.mul_le_mul_right _ (by omega)
    try simp only [letO_some, cellsOf?_agg, cellsOf?_int, cellsOf?_bool, cellsOf?_imm, cellsOf?_ref, cellsOf?_nils, faddr_iptr, faddr_ptr, List.drop_succ_cons, List.drop_zero, List.take_succ_cons, List.take_zero, load1_iptr, loadN_iptr, List.length_cons, List.length_nil, Nat.le_refl, if_true, List.getElem?_cons_zero, List.getElem?_cons_succ, List.getD_cons_zero, List.getD_cons_succ, extrF_tup, binF_add, binF_sub, binF_mul, binF_eql, binF_neq, binF_lss, binF_leq, binF_gtr, binF_geq, true_and]
    refine condA_t (fun hlt => ?_) (fun hgt => ?_)
    · have hmn : fr + m < n := by omega
      simp only [l23n, l23 cellsOf?_int, letO_some]
      refine appendA_grow (Grow.imm (H := H') (sz := 1) (n := 0) (cells := []) rfl) (reads_src (hx.le hleH)) (by simp [ints, isScalar]) (by simp) (by rw [up_length]; omega) (by rw [up_length]; omega) fun t36 H12 g36 => ?_
      rw [List.nil_append, Nat.zero_add, up_length] at g36
      refine appendA_oneR g36 (by omega) fun t39 H13 g39 o39 => ?_
      have hup : up E ++ [((fr + m : Nat) : Int)] = up (E ++ [fr + m]) := by simp [up]
      rw [hup] at g39
      have hr39 := g39.reads
      obtain ⟨b13, hb13, rfl, rfl⟩ := g39.own o39
      have hle13 : H'.le (H'.put b13 (ints (up (E ++ [fr + m])))) := Heap.le_put_self hb13
      refine ih (fr + m + 1) (E ++ [fr + m]) _ _ _ hr39 (by simp; omega) (lastF_snoc _ _) (by omega) hm4 ?_
      have hb1 := fresh_of hg.le hb13
      have hbH := fresh_of hle1 hb1
      have hgX := alloc_grow (cs := ints (up (E ++ [fr + m]))) hg hb13
      have hx2 := exLTo_succ n f fr m
      have hle1' : Hq.le (H1.put b13 (ints (up (E ++ [fr + m])))) := Heap.le_trans hle1 (Heap.le_put_self hb1)
      by_cases hf0 : f = 0
      · subst hf0
        have hallv : plVL n 0 (fr + m + 1) (E ++ [fr + m]) (.ref 1 b13 0 (E.length + 1) none) = .imm 1 false [.ref 1 b13 0 (E.length + 1) none] := by rw [plVL, if_pos rfl]
        rw [hallv]
        refine appendA_grow hgX (m := 1) (new := [.ref 1 b13 0 (E.length + 1) none]) (by simp [srcOf]) rfl rfl (by omega) (by omega) fun v' H14 g14 => ?_
        rw [wrap_i64 (by omega) (by omega)]
        refine ⟨⟨m + 1, v', xs ++ [.ref 1 b13 0 (E.length + 1) none], _, by unfold eqt; congr 3, by omega, hle1', by simpa using g14, fun H2 hle2 => ?_⟩, by simp <;> omega⟩
        rw [List.map_append, hxs H2 (Heap.le_trans (Heap.le_put_self hb1) hle2), hx2, List.map_append]
        have := conv_own (l := up (E ++ [fr + m])) hbH (hle2 _ _ Heap.put_same) 0 (n := E.length + 1) (by simp [up])
        simp only [exL, List.map_cons, List.map_nil]
        rw [this]
      · have hallv : plVL n f (fr + m + 1) (E ++ [fr + m]) (.ref 1 b13 0 (E.length + 1) none) = .imm (exL n f (fr + m + 1)).length false ((exL n f (fr + m + 1)).map fun G => sl (up (E ++ [fr + m] ++ G))) := by rw [plVL, if_neg hf0]
        rw [hallv]
        have hBj := hB (fr + m + 1)
        refine appendA_grow hgX (m := (exL n f (fr + m + 1)).length) (new := (exL n f (fr + m + 1)).map fun G => sl (up (E ++ [fr + m] ++ G))) (by simp [srcOf]) (by simp [isScalar, sl]) (by simp) (by omega) (by omega) fun v' H14 g14 => ?_
        rw [wrap_i64 (by omega) (by omega)]
        refine ⟨⟨m + 1, v', xs ++ (exL n f (fr + m + 1)).map fun G => sl (up (E ++ [fr + m] ++ G)), _, by unfold eqt; congr 3, by omega, hle1', by simpa using g14, fun H2 hle2 => ?_⟩, by simp <;> omega⟩
        rw [List.map_append, hxs H2 (Heap.le_trans (Heap.le_put_self hb1) hle2), hx2, List.map_append, List.map_map, List.map_map]
        congr 1
        refine List.map_congr_left fun G _ => ?_
        simp only [Function.comp, conv_sl]
        rw [List.append_assoc, List.singleton_append]
    · have hm' : m = n - fr := by omega
      subst hm'
      refine endK_all hleH 2 ?_
      rw [conv_grow hg hle1, hxs H' hg.le, hxslen]
      exact hk
def listsS (n many : Nat) : List (List Nat) := exL n many 0
theorem c85n {n many : Nat} {H : Heap} {K : AV → Heap → Prop} (hn : n ≤ 4) (hm : 1 ≤ many ∧ many ≤ 4) (hk : K (tl ((listsS n many).map up)) H) : ACalls Tryd.prog 85 [.int .i64 n, .int .i64 many, .nils] H K := by
  refine c85 hn many 0 [] .nils H K rfl (by simp) rfl (by omega) hm.2 ?_
  rw [plVL, if_neg (by omega)]
  have e : (.imm (exL n many 0).length false ((exL n many 0).map fun G => sl (up ([] ++ G))) : AV) = tl ((listsS n many).map up) := by
    simp [tl, listsS, Function.comp_def]
  rw [e]; exact hk
theorem exL_mem {n : Nat} : ∀ (f fr : Nat) (G : List Nat), G ∈ exL n f fr → G.length = f ∧ ∀ c ∈ G, c < n
  | 0, fr, G, h => by simp [exL] at h; subst h; simp
  | f + 1, fr, G, h => by
    simp only [exL, List.mem_flatMap, List.mem_range] at h
    obtain ⟨m, hm, h⟩ := h
    obtain ⟨G', h1, rfl⟩ := List.mem_map.1 h
    obtain ⟨h2, h3⟩ := exL_mem f _ _ h1
    refine ⟨by simp [h2], fun x hx => ?_⟩
    rcases List.mem_cons.1 hx with rfl | hx
    · omega
    · exact h3 x hx
/-- Columns that have 0 in all of some rows. -/
def zerosZ (t : Tb) (p : List Int) : List Nat := (List.range t.length).filter fun c => p.all fun r => decide (cell t r.toNat c = 0)
/-- ref.zeros -/
theorem c86 {v u : AV} {t : Tbl} {p : List Int} {H : Heap} {K : AV → Heap → Prop} (hc : chkT t = 0) (hv : RT H v t) (hu : Reads H u p) (hp : ∀ r ∈ p, 0 ≤ r ∧ r < t.length) (hl : p.length < 2 ^ 63) (hk : K (sl (up (zerosZ t p))) H) : ACalls Tryd.prog 86 [v, u] H K := by
  apply W86_ok
  unfold W86
  obtain ⟨n1, n2, hrows⟩ := chkT_ok hc
  simp only [letO_some, cellsOf?_agg, cellsOf?_int, cellsOf?_bool, cellsOf?_imm, cellsOf?_ref, cellsOf?_nils, faddr_iptr, faddr_ptr, List.drop_succ_cons, List.drop_zero, List.take_succ_cons, List.take_zero, load1_iptr, loadN_iptr, List.length_cons, List.length_nil, Nat.le_refl, if_true, List.getElem?_cons_zero, List.getElem?_cons_succ, List.getD_cons_zero, List.getD_cons_succ, extrF_tup, binF_add, binF_sub, binF_mul, binF_eql, binF_neq, binF_lss, binF_leq, binF_gtr, binF_geq, true_and, hv.len, hu.len]
  refine ⟨fun L H' => ∃ (i : Nat) (X : AV), eqt L [X, .int .i64 i] ∧ i ≤ t.length ∧ ∃ l : List Nat, Grow 1 H H' X l.length (ints (up l)) ∧ l = (List.range i).filter fun c => p.all fun r => decide (cell t r.toNat c = 0), fun L _ => (t.length - iv L 1).toNat, ⟨0, .nils, rfl, by omega, [], Grow.nils 1 H, rfl⟩, ?_⟩
  rintro L H' ⟨i, X, rfl, hi, l, hg, hll⟩
  have hle := hg.le
  try simp only [letO_some, cellsOf?_agg, cellsOf?_int, cellsOf?_bool, cellsOf?_imm, cellsOf?_ref, cellsOf?_nils, faddr_iptr, faddr_ptr, List.drop_succ_cons, List.drop_zero, List.take_succ_cons, List.take_zero, load1_iptr, loadN_iptr, List.length_cons, List.length_nil, Nat.le_refl, if_true, List.getElem?_cons_zero, List.getElem?_cons_succ, List.getD_cons_zero, List.getD_cons_succ, extrF_tup, binF_add, binF_sub, binF_mul, binF_eql, binF_neq, binF_lss, binF_leq, binF_gtr, binF_geq, true_and]
  refine condA_t (fun hlt => ?_) (fun hge => ?_)
  · have a1 : i < t.length := by omega
    refine ⟨fun L H'' => ∃ X' : AV, eqt L [X'] ∧ ∃ l : List Nat, Grow 1 H H'' X' l.length (ints (up l)) ∧ l = (List.range (i + 1)).filter fun c => p.all fun r => decide (cell t r.toNat c = 0), ?_, ?_⟩
    · refine ⟨fun L H'' => ∃ j : Nat, eqt L [.bool ((p.take j).all fun r => decide (cell t r.toNat i = 0)), .int .i64 j] ∧ j ≤ p.length ∧ eqt H'' H', fun L _ => (p.length - iv L 1).toNat, ⟨0, rfl, by omega, rfl⟩, ?_⟩
      rintro L H'' ⟨j, rfl, hj, rfl⟩
      try simp only [letO_some, cellsOf?_agg, cellsOf?_int, cellsOf?_bool, cellsOf?_imm, cellsOf?_ref, cellsOf?_nils, faddr_iptr, faddr_ptr, List.drop_succ_cons, List.drop_zero, List.take_succ_cons, List.take_zero, load1_iptr, loadN_iptr, List.length_cons, List.length_nil, Nat.le_refl, if_true, List.getElem?_cons_zero, List.getElem?_cons_succ, List.getD_cons_zero, List.getD_cons_succ, extrF_tup, binF_add, binF_sub, binF_mul, binF_eql, binF_neq, binF_lss, binF_leq, binF_gtr, binF_geq, true_and]
      refine condA_t (fun hlt2 => ?_) (fun hge2 => ?_)
      · have b1 : j < p.length := by omega
        have g1 : p.getD j 0 = p[j] := by simp [List.getD_eq_getElem?_getD, b1]
        have hpj := hp p[j] (List.getElem_mem b1)
        have hstep : ((p.take (j + 1)).all fun r => decide (cell t r.toNat i = 0)) = (((p.take j).all fun r => decide (cell t r.toNat i = 0)) && decide (cell t p[j].toNat i = 0)) := by
          rw [take_snoc b1, List.all_append]; simp
        have hrl : (t.getD p[j].toNat []).length = t.length := row_len hc (by omega)
        cases hb : ((p.take j).all fun r => decide (cell t r.toNat i = 0)) with
        | true =>
          simp only [gval_bool, Int.reduceBNe, Int.reduceBEq, pickF_true, pickF_false, reduceIte, Bool.true_eq_false, Bool.false_eq_true, if_false, condA_tt, condA_ff, condG_tt, condG_ff, condG_tt', condG_ff', condG_undef, gval_undef, letO_some, cellsOf?_agg, cellsOf?_int, cellsOf?_bool, cellsOf?_imm, cellsOf?_ref, cellsOf?_nils, faddr_iptr, faddr_ptr, List.drop_succ_cons, List.drop_zero, List.take_succ_cons, List.take_zero, load1_iptr, loadN_iptr, List.length_cons, List.length_nil, Nat.le_refl, if_true, List.getElem?_cons_zero, List.getElem?_cons_succ, List.getD_cons_zero, List.getD_cons_succ, extrF_tup, binF_add, binF_sub, binF_mul, binF_eql, binF_neq, binF_lss, binF_leq, binF_gtr, binF_geq, true_and]
          refine hu.get hle (by omega) (by omega) ?_
          rw [Int.toNat_natCast, g1]
          try simp only [letO_some, cellsOf?_agg, cellsOf?_int, cellsOf?_bool, cellsOf?_imm, cellsOf?_ref, cellsOf?_nils, faddr_iptr, faddr_ptr, List.drop_succ_cons, List.drop_zero, List.take_succ_cons, List.take_zero, load1_iptr, loadN_iptr, List.length_cons, List.length_nil, Nat.le_refl, if_true, List.getElem?_cons_zero, List.getElem?_cons_succ, List.getD_cons_zero, List.getD_cons_succ, extrF_tup, binF_add, binF_sub, binF_mul, binF_eql, binF_neq, binF_lss, binF_leq, binF_gtr, binF_geq, true_and]
          refine hv.get hle hpj.1 (by omega) fun a ha => ?_
          try simp only [letO_some, cellsOf?_agg, cellsOf?_int, cellsOf?_bool, cellsOf?_imm, cellsOf?_ref, cellsOf?_nils, faddr_iptr, faddr_ptr, List.drop_succ_cons, List.drop_zero, List.take_succ_cons, List.take_zero, load1_iptr, loadN_iptr, List.length_cons, List.length_nil, Nat.le_refl, if_true, List.getElem?_cons_zero, List.getElem?_cons_succ, List.getD_cons_zero, List.getD_cons_succ, extrF_tup, binF_add, binF_sub, binF_mul, binF_eql, binF_neq, binF_lss, binF_leq, binF_gtr, binF_geq, true_and]
          refine ha.get hle (by omega) (by omega) ?_
          rw [Int.toNat_natCast, show (t.getD p[j].toNat []).getD i 0 = cell t p[j].toNat i from rfl]
          simp only [gval_bool, Int.reduceBNe, Int.reduceBEq, pickF_true, pickF_false, reduceIte, Bool.true_eq_false, Bool.false_eq_true, if_false, condA_tt, condA_ff, condG_tt, condG_ff, condG_tt', condG_ff', condG_undef, gval_undef, letO_some, cellsOf?_agg, cellsOf?_int, cellsOf?_bool, cellsOf?_imm, cellsOf?_ref, cellsOf?_nils, faddr_iptr, faddr_ptr, List.drop_succ_cons, List.drop_zero, List.take_succ_cons, List.take_zero, load1_iptr, loadN_iptr, List.length_cons, List.length_nil, Nat.le_refl, if_true, List.getElem?_cons_zero, List.getElem?_cons_succ, List.getD_cons_zero, List.getD_cons_succ, extrF_tup, binF_add, binF_sub, binF_mul, binF_eql, binF_neq, binF_lss, binF_leq, binF_gtr, binF_geq, true_and]
          rw [wrap_i64 (by omega) (by omega)]
          refine ⟨⟨j + 1, ?_, by omega, rfl⟩, by simp <;> omega⟩
          rw [hstep, hb, Bool.true_and]
          have : (cell t p[j].toNat i == 0) = decide (cell t p[j].toNat i = 0) := rfl
          rw [this]; rfl
        | false =>
          simp only [gval_bool, Int.reduceBNe, Int.reduceBEq, pickF_true, pickF_false, reduceIte, Bool.true_eq_false, Bool.false_eq_true, if_false, condA_tt, condA_ff, condG_tt, condG_ff, condG_tt', condG_ff', condG_undef, gval_undef, letO_some, cellsOf?_agg, cellsOf?_int, cellsOf?_bool, cellsOf?_imm, cellsOf?_ref, cellsOf?_nils, faddr_iptr, faddr_ptr, List.drop_succ_cons, List.drop_zero, List.take_succ_cons, List.take_zero, load1_iptr, loadN_iptr, List.length_cons, List.length_nil, Nat.le_refl, if_true, List.getElem?_cons_zero, List.getElem?_cons_succ, List.getD_cons_zero, List.getD_cons_succ, extrF_tup, binF_add, binF_sub, binF_mul, binF_eql, binF_neq, binF_lss, binF_leq, binF_gtr, binF_geq, true_and]
          rw [wrap_i64 (by omega) (by omega)]
          refine ⟨⟨j + 1, ?_, by omega, rfl⟩, by simp <;> omega⟩
          rw [hstep, hb, Bool.false_and]; rfl
      · have hje : j = p.length := by omega
        subst hje
        rw [List.take_length]
        have hstep : ((List.range (i + 1)).filter fun c => p.all fun r => decide (cell t r.toNat c = 0)) = l ++ if (p.all fun r => decide (cell t r.toNat i = 0)) = true then [i] else [] := by
          rw [List.range_succ, List.filter_append, ← hll]
          cases h : (p.all fun r => decide (cell t r.toNat i = 0)) <;> simp [h]
        have hl4 : l.length ≤ 4 := by
          rw [hll]
          refine Nat.le_trans (List.length_filter_le _ _) ?_
          simp; omega
        cases hb : (p.all fun r => decide (cell t r.toNat i = 0)) with
        | true =>
          simp only [condA_tt, l23 cellsOf?_int, letO_some]
          refine appendA_oneR hg (by omega) fun v' H7 hg7 _ => ?_
          refine ⟨v', rfl, l ++ [i], ?_, by rw [hstep, hb]; rfl⟩
          have e : up (l ++ [i]) = up l ++ [(i : Int)] := by simp [up]
          rw [e, List.length_append]
          exact hg7
        | false =>
          simp only [condA_ff]
          exact ⟨X, rfl, l, hg, by rw [hstep, hb]; simp⟩
    · rintro L H'' ⟨X', rfl, l', hg', hl'⟩
      try simp only [letO_some, cellsOf?_agg, cellsOf?_int, cellsOf?_bool, cellsOf?_imm, cellsOf?_ref, cellsOf?_nils, faddr_iptr, faddr_ptr, List.drop_succ_cons, List.drop_zero, List.take_succ_cons, List.take_zero, load1_iptr, loadN_iptr, List.length_cons, List.length_nil, Nat.le_refl, if_true, List.getElem?_cons_zero, List.getElem?_cons_succ, List.getD_cons_zero, List.getD_cons_succ, extrF_tup, binF_add, binF_sub, binF_mul, binF_eql, binF_neq, binF_lss, binF_leq, binF_gtr, binF_geq, true_and]
      rw [wrap_i64 (by omega) (by omega)]
      exact ⟨⟨i + 1, X', rfl, by omega, l', hg', hl'⟩, by simp <;> omega⟩
  · have hie : i = t.length := by omega
    subst hie
    refine hg.end1 ?_
    have e : (.imm l.length false (ints (up l)) : AV) = sl (up (zerosZ t p)) := by
      rw [show zerosZ t p = l from hll.symm]
      simp [sl]
    rw [e]; exact hk
/-- ref.listed -/
theorem c88 {v : AV} {l : List Int} {n : Nat} {H : Heap} {K : AV → Heap → Prop} (hv : Reads H v l) (hn : n ≤ 4) (hl : l.length < 2 ^ 63) (hk : K (.int .i64 (rdE n (-1) l)) H) : ACalls Tryd.prog 88 [.int .i64 n, v] H K := by
  apply W88_ok
  unfold W88
  simp only [letO_some, cellsOf?_agg, cellsOf?_int, cellsOf?_bool, cellsOf?_imm, cellsOf?_ref, cellsOf?_nils, faddr_iptr, faddr_ptr, List.drop_succ_cons, List.drop_zero, List.take_succ_cons, List.take_zero, load1_iptr, loadN_iptr, List.length_cons, List.length_nil, Nat.le_refl, if_true, List.getElem?_cons_zero, List.getElem?_cons_succ, List.getD_cons_zero, List.getD_cons_succ, extrF_tup, binF_add, binF_sub, binF_mul, binF_eql, binF_neq, binF_lss, binF_leq, binF_gtr, binF_geq, true_and, hv.len]
  refine ⟨fun L H' => ∃ i : Nat, eqt L [.int .i64 i] ∧ i ≤ l.length ∧ eqt H' H ∧ rdE n (-1) l = rdE n (if i = 0 then -1 else l.getD (i - 1) 0) (l.drop i), fun L _ => (l.length - iv L 0).toNat, ⟨0, rfl, by omega, rfl, by simp⟩, ?_⟩
  rintro L H' ⟨i, rfl, hi, rfl, he⟩
  try simp only [letO_some, cellsOf?_agg, cellsOf?_int, cellsOf?_bool, cellsOf?_imm, cellsOf?_ref, cellsOf?_nils, faddr_iptr, faddr_ptr, List.drop_succ_cons, List.drop_zero, List.take_succ_cons, List.take_zero, load1_iptr, loadN_iptr, List.length_cons, List.length_nil, Nat.le_refl, if_true, List.getElem?_cons_zero, List.getElem?_cons_succ, List.getD_cons_zero, List.getD_cons_succ, extrF_tup, binF_add, binF_sub, binF_mul, binF_eql, binF_neq, binF_lss, binF_leq, binF_gtr, binF_geq, true_and]
  refine condA_t (fun hlt => ?_) (fun hge => ?_)
  · have a1 : i < l.length := by omega
    have g1 : l.getD i 0 = l[i] := by simp [List.getD_eq_getElem?_getD, a1]
    rw [List.drop_eq_getElem_cons a1, rdE] at he
    refine hv.get (Heap.le_refl _) (by omega) (by omega) ?_
    rw [Int.toNat_natCast, g1]
    try simp only [letO_some, cellsOf?_agg, cellsOf?_int, cellsOf?_bool, cellsOf?_imm, cellsOf?_ref, cellsOf?_nils, faddr_iptr, faddr_ptr, List.drop_succ_cons, List.drop_zero, List.take_succ_cons, List.take_zero, load1_iptr, loadN_iptr, List.length_cons, List.length_nil, Nat.le_refl, if_true, List.getElem?_cons_zero, List.getElem?_cons_succ, List.getD_cons_zero, List.getD_cons_succ, extrF_tup, binF_add, binF_sub, binF_mul, binF_eql, binF_neq, binF_lss, binF_leq, binF_gtr, binF_geq, true_and]
    rw [wrap_i64 (by omega) (by omega)]
    refine c78 ?_
    try simp only [not_v, letO_some, cellsOf?_agg, cellsOf?_int, cellsOf?_bool, cellsOf?_imm, cellsOf?_ref, cellsOf?_nils, faddr_iptr, faddr_ptr, List.drop_succ_cons, List.drop_zero, List.take_succ_cons, List.take_zero, load1_iptr, loadN_iptr, List.length_cons, List.length_nil, Nat.le_refl, if_true, List.getElem?_cons_zero, List.getElem?_cons_succ, List.getD_cons_zero, List.getD_cons_succ, extrF_tup, binF_add, binF_sub, binF_mul, binF_eql, binF_neq, binF_lss, binF_leq, binF_gtr, binF_geq, true_and]
    by_cases hbad : l[i] < 0 ∨ (n : Int) ≤ l[i]
    · rw [if_pos hbad] at he
      have e : decide (0 ≤ l[i] ∧ l[i] ≤ (n : Int) - 1) = false := decide_eq_false (by omega)
      simp only [e, Bool.not_false, condA_tt]
      rw [he] at hk
      exact endK_ret hk
    · rw [if_neg hbad] at he
      have e : decide (0 ≤ l[i] ∧ l[i] ≤ (n : Int) - 1) = true := decide_eq_true (by omega)
      simp only [e, Bool.not_true, condA_ff, letO_some, cellsOf?_agg, cellsOf?_int, cellsOf?_bool, cellsOf?_imm, cellsOf?_ref, cellsOf?_nils, faddr_iptr, faddr_ptr, List.drop_succ_cons, List.drop_zero, List.take_succ_cons, List.take_zero, load1_iptr, loadN_iptr, List.length_cons, List.length_nil, Nat.le_refl, if_true, List.getElem?_cons_zero, List.getElem?_cons_succ, List.getD_cons_zero, List.getD_cons_succ, extrF_tup, binF_add, binF_sub, binF_mul, binF_eql, binF_neq, binF_lss, binF_leq, binF_gtr, binF_geq, true_and]
      have next : ∀ (h : ¬ l[i] ≤ (if i = 0 then -1 else l.getD (i - 1) 0)), rdE n (-1) l = rdE n (if i + 1 = 0 then -1 else l.getD (i + 1 - 1) 0) (l.drop (i + 1)) := by
        intro h
        rw [he, if_neg h, if_neg (by omega), Nat.add_sub_cancel, g1]
      by_cases h0 : i = 0
      · subst h0
        have e2 : decide ((0 : Int) < ((0 : Nat) : Int)) = false := rfl
        simp only [e2, gval_bool, Int.reduceBNe, Int.reduceBEq, pickF_true, pickF_false, reduceIte, Bool.true_eq_false, Bool.false_eq_true, if_false, condA_tt, condA_ff, condG_tt, condG_ff, condG_tt', condG_ff', condG_undef, gval_undef, letO_some, cellsOf?_agg, cellsOf?_int, cellsOf?_bool, cellsOf?_imm, cellsOf?_ref, cellsOf?_nils, faddr_iptr, faddr_ptr, List.drop_succ_cons, List.drop_zero, List.take_succ_cons, List.take_zero, load1_iptr, loadN_iptr, List.length_cons, List.length_nil, Nat.le_refl, if_true, List.getElem?_cons_zero, List.getElem?_cons_succ, List.getD_cons_zero, List.getD_cons_succ, extrF_tup, binF_add, binF_sub, binF_mul, binF_eql, binF_neq, binF_lss, binF_leq, binF_gtr, binF_geq, true_and]
        rw [wrap_i64 (by omega) (by omega)]
        refine ⟨⟨1, rfl, by omega, rfl, next ?_⟩, by simp <;> omega⟩
        rw [if_pos rfl]; omega
      · have e2 : decide ((0 : Int) < (i : Int)) = true := decide_eq_true (by omega)
        rw [if_neg h0] at he
        simp only [e2, gval_bool, Int.reduceBNe, Int.reduceBEq, pickF_true, pickF_false, reduceIte, Bool.true_eq_false, Bool.false_eq_true, if_false, condA_tt, condA_ff, condG_tt, condG_ff, condG_tt', condG_ff', condG_undef, gval_undef, letO_some, cellsOf?_agg, cellsOf?_int, cellsOf?_bool, cellsOf?_imm, cellsOf?_ref, cellsOf?_nils, faddr_iptr, faddr_ptr, List.drop_succ_cons, List.drop_zero, List.take_succ_cons, List.take_zero, load1_iptr, loadN_iptr, List.length_cons, List.length_nil, Nat.le_refl, if_true, List.getElem?_cons_zero, List.getElem?_cons_succ, List.getD_cons_zero, List.getD_cons_succ, extrF_tup, binF_add, binF_sub, binF_mul, binF_eql, binF_neq, binF_lss, binF_leq, binF_gtr, binF_geq, true_and]
        refine hv.get (Heap.le_refl _) (by omega) (by omega) ?_
        rw [Int.toNat_natCast, g1]
        rw [wrap_i64 (n := (i : Int) - 1) (by omega) (by omega)]
        try simp only [letO_some, cellsOf?_agg, cellsOf?_int, cellsOf?_bool, cellsOf?_imm, cellsOf?_ref, cellsOf?_nils, faddr_iptr, faddr_ptr, List.drop_succ_cons, List.drop_zero, List.take_succ_cons, List.take_zero, load1_iptr, loadN_iptr, List.length_cons, List.length_nil, Nat.le_refl, if_true, List.getElem?_cons_zero, List.getElem?_cons_succ, List.getD_cons_zero, List.getD_cons_succ, extrF_tup, binF_add, binF_sub, binF_mul, binF_eql, binF_neq, binF_lss, binF_leq, binF_gtr, binF_geq, true_and]
        refine hv.get (Heap.le_refl _) (by omega) (by omega) ?_
        rw [show ((i : Int) - 1).toNat = i - 1 by omega]
        simp only [gval_bool, Int.reduceBNe, Int.reduceBEq, pickF_true, pickF_false, reduceIte, Bool.true_eq_false, Bool.false_eq_true, if_false, condA_tt, condA_ff, condG_tt, condG_ff, condG_tt', condG_ff', condG_undef, gval_undef, letO_some, cellsOf?_agg, cellsOf?_int, cellsOf?_bool, cellsOf?_imm, cellsOf?_ref, cellsOf?_nils, faddr_iptr, faddr_ptr, List.drop_succ_cons, List.drop_zero, List.take_succ_cons, List.take_zero, load1_iptr, loadN_iptr, List.length_cons, List.length_nil, Nat.le_refl, if_true, List.getElem?_cons_zero, List.getElem?_cons_succ, List.getD_cons_zero, List.getD_cons_succ, extrF_tup, binF_add, binF_sub, binF_mul, binF_eql, binF_neq, binF_lss, binF_leq, binF_gtr, binF_geq, true_and]
        refine condA_t (fun hh => ?_) (fun hh => ?_)
        · rw [if_pos hh] at he
          rw [he] at hk
          exact endK_ret hk
        · rw [wrap_i64 (by omega) (by omega)]
          refine ⟨⟨i + 1, rfl, by omega, rfl, next ?_⟩, by simp <;> omega⟩
          rw [if_neg h0]; exact hh
  · have hie : i = l.length := by omega
    subst hie
    rw [List.drop_length, rdE] at he
    rw [he] at hk
    exact endK_ret hk
theorem zerosZ_mem {t : Tb} {p : List Int} {c : Nat} (hc : c < t.length) : c ∈ zerosZ t p ↔ ∀ r ∈ p, cell t r.toNat c = 0 := by
  simp [zerosZ, hc]
theorem hitB_iff {t : Tb} {rows cols : List Int} : hitB t rows cols = true ↔ ∃ r ∈ rows, ∃ c ∈ cols, 0 < cell t r.toNat c.toNat := by
  simp [hitB]
/-- ref.Proves -/
theorem c37 {v u w : AV} {t : Tbl} {rows cols : List Int} {H : Heap} {K : AV → Heap → Prop} (hv : RT H v t) (hu : Reads H u rows) (hw : Reads H w cols) (hl : t.length < 2 ^ 63) (hl2 : ∀ l ∈ t, l.length < 2 ^ 63) (hl3 : rows.length < 2 ^ 60) (hl4 : cols.length < 2 ^ 60)
    (hk : K (.int .i64 (provesE t rows cols)) H) : ACalls Tryd.prog 37 [v, u, w] H K := by
  apply W37_ok
  unfold W37
  try simp only [letO_some, cellsOf?_agg, cellsOf?_int, cellsOf?_bool, cellsOf?_imm, cellsOf?_ref, cellsOf?_nils, faddr_iptr, faddr_ptr, List.drop_succ_cons, List.drop_zero, List.take_succ_cons, List.take_zero, load1_iptr, loadN_iptr, List.length_cons, List.length_nil, Nat.le_refl, if_true, List.getElem?_cons_zero, List.getElem?_cons_succ, List.getD_cons_zero, List.getD_cons_succ, extrF_tup, binF_add, binF_sub, binF_mul, binF_eql, binF_neq, binF_lss, binF_leq, binF_gtr, binF_geq, true_and]
  refine c31 hv hl hl2 ?_
  try simp only [letO_some, cellsOf?_agg, cellsOf?_int, cellsOf?_bool, cellsOf?_imm, cellsOf?_ref, cellsOf?_nils, faddr_iptr, faddr_ptr, List.drop_succ_cons, List.drop_zero, List.take_succ_cons, List.take_zero, load1_iptr, loadN_iptr, List.length_cons, List.length_nil, Nat.le_refl, if_true, List.getElem?_cons_zero, List.getElem?_cons_succ, List.getD_cons_zero, List.getD_cons_succ, extrF_tup, binF_add, binF_sub, binF_mul, binF_eql, binF_neq, binF_lss, binF_leq, binF_gtr, binF_geq, true_and]
  by_cases hc : chkT t = 0
  · obtain ⟨n1, n2, hrows⟩ := chkT_ok hc
    rw [proves_eq hc] at hk
    rw [hc]
    refine ⟨fun L H' => eqt L [.int .i64 (rdE t.length (-1) rows)] ∧ eqt H' H, ?_, ?_⟩
    · simp only [beq_self_eq_true, condA_tt, hv.len, letO_some]
      refine c88 hu n2 (by omega) ?_
      try simp only [letO_some, cellsOf?_agg, cellsOf?_int, cellsOf?_bool, cellsOf?_imm, cellsOf?_ref, cellsOf?_nils, faddr_iptr, faddr_ptr, List.drop_succ_cons, List.drop_zero, List.take_succ_cons, List.take_zero, load1_iptr, loadN_iptr, List.length_cons, List.length_nil, Nat.le_refl, if_true, List.getElem?_cons_zero, List.getElem?_cons_succ, List.getD_cons_zero, List.getD_cons_succ, extrF_tup, binF_add, binF_sub, binF_mul, binF_eql, binF_neq, binF_lss, binF_leq, binF_gtr, binF_geq, true_and]
      exact ⟨rfl, rfl⟩
    rintro L H' ⟨rfl, rfl⟩
    try simp only [letO_some, cellsOf?_agg, cellsOf?_int, cellsOf?_bool, cellsOf?_imm, cellsOf?_ref, cellsOf?_nils, faddr_iptr, faddr_ptr, List.drop_succ_cons, List.drop_zero, List.take_succ_cons, List.take_zero, load1_iptr, loadN_iptr, List.length_cons, List.length_nil, Nat.le_refl, if_true, List.getElem?_cons_zero, List.getElem?_cons_succ, List.getD_cons_zero, List.getD_cons_succ, extrF_tup, binF_add, binF_sub, binF_mul, binF_eql, binF_neq, binF_lss, binF_leq, binF_gtr, binF_geq, true_and]
    refine ⟨fun L H'' => eqt L [.int .i64 (if rdE t.length (-1) rows ≠ 0 then rdE t.length (-1) rows else rdE t.length (-1) cols)] ∧ eqt H'' H', ?_, ?_⟩
    · by_cases h1 : rdE t.length (-1) rows = 0
      · have e : (rdE t.length (-1) rows == 0) = true := by rw [h1]; rfl
        simp only [e, condA_tt, hv.len, letO_some]
        refine c88 hw n2 (by omega) ?_
        try simp only [letO_some, cellsOf?_agg, cellsOf?_int, cellsOf?_bool, cellsOf?_imm, cellsOf?_ref, cellsOf?_nils, faddr_iptr, faddr_ptr, List.drop_succ_cons, List.drop_zero, List.take_succ_cons, List.take_zero, load1_iptr, loadN_iptr, List.length_cons, List.length_nil, Nat.le_refl, if_true, List.getElem?_cons_zero, List.getElem?_cons_succ, List.getD_cons_zero, List.getD_cons_succ, extrF_tup, binF_add, binF_sub, binF_mul, binF_eql, binF_neq, binF_lss, binF_leq, binF_gtr, binF_geq, true_and]
        rw [if_neg (by simp [h1])]
        exact ⟨rfl, rfl⟩
      · have e : (rdE t.length (-1) rows == 0) = false := by rw [beq_eq_false_iff_ne]; exact h1
        simp only [e, condA_ff]
        rw [if_pos h1]
        exact ⟨rfl, rfl⟩
    rintro L H'' ⟨rfl, rfl⟩
    try simp only [letO_some, cellsOf?_agg, cellsOf?_int, cellsOf?_bool, cellsOf?_imm, cellsOf?_ref, cellsOf?_nils, faddr_iptr, faddr_ptr, List.drop_succ_cons, List.drop_zero, List.take_succ_cons, List.take_zero, load1_iptr, loadN_iptr, List.length_cons, List.length_nil, Nat.le_refl, if_true, List.getElem?_cons_zero, List.getElem?_cons_succ, List.getD_cons_zero, List.getD_cons_succ, extrF_tup, binF_add, binF_sub, binF_mul, binF_eql, binF_neq, binF_lss, binF_leq, binF_gtr, binF_geq, true_and]
    by_cases h1 : rdE t.length (-1) rows = 0
    · rw [if_neg (by simp [h1])] at hk
      rw [if_neg (c := rdE t.length (-1) rows ≠ 0) (by simp [h1])]
      by_cases h2 : rdE t.length (-1) cols = 0
      · rw [if_neg (by simp [h2])] at hk
        have e : (rdE t.length (-1) cols != 0) = false := by rw [h2]; rfl
        have hmr := rdE_mem h1
        have hmc := rdE_mem h2
        simp only [e, condA_ff]
        refine c86 hc hv hu hmr (by omega) ?_
        simp only [letO_some, cellsOf?_agg, cellsOf?_int, cellsOf?_bool, cellsOf?_imm, cellsOf?_ref, cellsOf?_nils, faddr_iptr, faddr_ptr, List.drop_succ_cons, List.drop_zero, List.take_succ_cons, List.take_zero, load1_iptr, loadN_iptr, List.length_cons, List.length_nil, Nat.le_refl, if_true, List.getElem?_cons_zero, List.getElem?_cons_succ, List.getD_cons_zero, List.getD_cons_succ, extrF_tup, binF_add, binF_sub, binF_mul, binF_eql, binF_neq, binF_lss, binF_leq, binF_gtr, binF_geq, true_and, hw.len]
        refine ⟨fun L H3 => ∃ i : Nat, eqt L [.int .i64 i] ∧ i ≤ cols.length ∧ eqt H3 H'' ∧ ∀ c ∈ cols.take i, ∀ r ∈ rows, cell t r.toNat c.toNat = 0, fun L _ => (cols.length - iv L 0).toNat, ⟨0, rfl, by omega, rfl, by simp⟩, ?_⟩
        rintro L H3 ⟨i, rfl, hi, rfl, he⟩
        try simp only [letO_some, cellsOf?_agg, cellsOf?_int, cellsOf?_bool, cellsOf?_imm, cellsOf?_ref, cellsOf?_nils, faddr_iptr, faddr_ptr, List.drop_succ_cons, List.drop_zero, List.take_succ_cons, List.take_zero, load1_iptr, loadN_iptr, List.length_cons, List.length_nil, Nat.le_refl, if_true, List.getElem?_cons_zero, List.getElem?_cons_succ, List.getD_cons_zero, List.getD_cons_succ, extrF_tup, binF_add, binF_sub, binF_mul, binF_eql, binF_neq, binF_lss, binF_leq, binF_gtr, binF_geq, true_and]
        refine condA_t (fun hlt => ?_) (fun hge => ?_)
        · have a1 : i < cols.length := by omega
          have g1 : cols.getD i 0 = cols[i] := by simp [List.getD_eq_getElem?_getD, a1]
          have hci := hmc _ (List.getElem_mem a1)
          refine hw.get (Heap.le_refl _) (by omega) (by omega) ?_
          rw [Int.toNat_natCast, g1]
          have hzl : (zerosZ t rows).length ≤ 4 := Nat.le_trans (List.length_filter_le _ _) (by simp; omega)
          refine c89 (Reads.sl _ _) (by rw [up_length]; omega) ?_
          try simp only [not_v, letO_some, cellsOf?_agg, cellsOf?_int, cellsOf?_bool, cellsOf?_imm, cellsOf?_ref, cellsOf?_nils, faddr_iptr, faddr_ptr, List.drop_succ_cons, List.drop_zero, List.take_succ_cons, List.take_zero, load1_iptr, loadN_iptr, List.length_cons, List.length_nil, Nat.le_refl, if_true, List.getElem?_cons_zero, List.getElem?_cons_succ, List.getD_cons_zero, List.getD_cons_succ, extrF_tup, binF_add, binF_sub, binF_mul, binF_eql, binF_neq, binF_lss, binF_leq, binF_gtr, binF_geq, true_and]
          have hmem : cols[i] ∈ up (zerosZ t rows) ↔ ∀ r ∈ rows, cell t r.toNat cols[i].toNat = 0 := by
            rw [← zerosZ_mem (by omega), ← mem_up, show ((cols[i].toNat : Nat) : Int) = cols[i] by omega]
          by_cases hin : cols[i] ∈ up (zerosZ t rows)
          · simp only [decide_eq_true hin, Bool.not_true, condA_ff]
            rw [wrap_i64 (by omega) (by omega)]
            refine ⟨⟨i + 1, rfl, by omega, rfl, fun c hcm => ?_⟩, by simp <;> omega⟩
            rw [take_snoc a1] at hcm
            rcases List.mem_append.1 hcm with hcm | hcm
            · exact he c hcm
            · simp at hcm; subst hcm; exact hmem.1 hin
          · simp only [decide_eq_false hin, Bool.not_false, condA_tt]
            have hhit : hitB t rows cols = true := by
              rw [hitB_iff]
              refine Classical.byContradiction fun hx => hin (hmem.2 fun r hr => ?_)
              have h0 := (cell_rng hc r.toNat cols[i].toNat).1
              by_cases hp : 0 < cell t r.toNat cols[i].toNat
              · exact absurd ⟨r, hr, cols[i], List.getElem_mem a1, hp⟩ hx
              · omega
            rw [if_pos (.inl hhit)] at hk
            exact endK_ret hk
        · have hie : i = cols.length := by omega
          subst hie
          rw [List.take_length] at he
          have hhit : ¬ hitB t rows cols = true := by
            rw [hitB_iff]
            rintro ⟨r, hr, c, hcm, hp⟩
            have := he c hcm r hr
            omega
          simp only [hu.len, hw.len, hv.len, letO_some, cellsOf?_agg, cellsOf?_int, cellsOf?_bool, cellsOf?_imm, cellsOf?_ref, cellsOf?_nils, faddr_iptr, faddr_ptr, List.drop_succ_cons, List.drop_zero, List.take_succ_cons, List.take_zero, load1_iptr, loadN_iptr, List.length_cons, List.length_nil, Nat.le_refl, if_true, List.getElem?_cons_zero, List.getElem?_cons_succ, List.getD_cons_zero, List.getD_cons_succ, extrF_tup, binF_add, binF_sub, binF_mul, binF_eql, binF_neq, binF_lss, binF_leq, binF_gtr, binF_geq, true_and]
          rw [wrap_i64 (by omega) (by omega)]
          refine condA_t (fun hh => ?_) (fun hh => ?_)
          · rw [if_pos (.inr (by omega))] at hk
            exact endK_ret hk
          · rw [if_neg (fun h => h.elim hhit (fun h => hh (by omega)))] at hk
            exact endK_ret hk
      · rw [if_pos h2] at hk
        have e : (rdE t.length (-1) cols != 0) = true := by rw [bne_iff_ne]; exact h2
        simp only [e, condA_tt]
        exact endK_ret hk
    · rw [if_pos h1] at hk
      rw [if_pos (c := rdE t.length (-1) rows ≠ 0) h1]
      have e : (rdE t.length (-1) rows != 0) = true := by rw [bne_iff_ne]; exact h1
      simp only [e, condA_tt]
      exact endK_ret hk
  · rw [provesE, if_pos hc] at hk
    have e : (chkT t == 0) = false := by rw [beq_eq_false_iff_ne]; exact hc
    have e2 : (chkT t != 0) = true := by rw [bne_iff_ne]; exact hc
    refine ⟨fun L H' => eqt L [.int .i64 (chkT t)] ∧ eqt H' H, ?_, ?_⟩
    · simp only [e, condA_ff]
      exact ⟨rfl, rfl⟩
    rintro L H' ⟨rfl, rfl⟩
    try simp only [letO_some, cellsOf?_agg, cellsOf?_int, cellsOf?_bool, cellsOf?_imm, cellsOf?_ref, cellsOf?_nils, faddr_iptr, faddr_ptr, List.drop_succ_cons, List.drop_zero, List.take_succ_cons, List.take_zero, load1_iptr, loadN_iptr, List.length_cons, List.length_nil, Nat.le_refl, if_true, List.getElem?_cons_zero, List.getElem?_cons_succ, List.getD_cons_zero, List.getD_cons_succ, extrF_tup, binF_add, binF_sub, binF_mul, binF_eql, binF_neq, binF_lss, binF_leq, binF_gtr, binF_geq, true_and]
    refine ⟨fun L H'' => eqt L [.int .i64 (chkT t)] ∧ eqt H'' H', ?_, ?_⟩
    · simp only [e, condA_ff]
      exact ⟨rfl, rfl⟩
    rintro L H'' ⟨rfl, rfl⟩
    simp only [letO_some, cellsOf?_agg, cellsOf?_int, cellsOf?_bool, cellsOf?_imm, cellsOf?_ref, cellsOf?_nils, faddr_iptr, faddr_ptr, List.drop_succ_cons, List.drop_zero, List.take_succ_cons, List.take_zero, load1_iptr, loadN_iptr, List.length_cons, List.length_nil, Nat.le_refl, if_true, List.getElem?_cons_zero, List.getElem?_cons_succ, List.getD_cons_zero, List.getD_cons_succ, extrF_tup, binF_add, binF_sub, binF_mul, binF_eql, binF_neq, binF_lss, binF_leq, binF_gtr, binF_geq, true_and, e2, condA_tt]
    exact endK_ret hk
/-- All lists of rows, the shorter ones first. -/
def allK (n k : Nat) : List (List Nat) := (List.range k).flatMap fun i => listsS n (i + 1)
theorem allK_succ (n k : Nat) : allK n (k + 1) = allK n k ++ listsS n (k + 1) := by simp [allK, List.range_succ]
def barQ (t : Tb) (l : List Nat) : Bool := decide (t.length < (zerosZ t (up l)).length + l.length)
theorem allK_find {n : Nat} {Q : List Nat → Bool} {l : List Nat} : ∀ {k m : Nat}, k ≤ m → (allK n k).find? Q = some l → (allK n m).find? Q = some l
  | k, 0, h, hf => by obtain rfl : k = 0 := by omega
                      exact hf
  | k, m + 1, h, hf => by
    by_cases hk : k = m + 1
    · subst hk; exact hf
    · rw [allK_succ, List.find?_append, allK_find (by omega) hf]; rfl
def barR (t : Tb) : List Int × List Int × Int := if chkT t ≠ 0 then ([], [], chkT t) else match (allK t.length t.length).find? (barQ t) with
  | none => ([], [], 13)
  | some l => (up l, up (zerosZ t (up l)), 0)
/-- ref.Bar -/
theorem c35 {v : AV} {t : Tbl} {H : Heap} {K : AV → Heap → Prop} (hv : RT H v t) (hl : t.length < 2 ^ 63) (hl2 : ∀ l ∈ t, l.length < 2 ^ 63) (hk : K (.tup [sl (barR t).1, sl (barR t).2.1, .int .i64 (barR t).2.2]) H) : ACalls Tryd.prog 35 [v] H K := by
  apply W35_ok
  unfold W35
  try simp only [letO_some, cellsOf?_agg, cellsOf?_int, cellsOf?_bool, cellsOf?_imm, cellsOf?_ref, cellsOf?_nils, faddr_iptr, faddr_ptr, List.drop_succ_cons, List.drop_zero, List.take_succ_cons, List.take_zero, load1_iptr, loadN_iptr, List.length_cons, List.length_nil, Nat.le_refl, if_true, List.getElem?_cons_zero, List.getElem?_cons_succ, List.getD_cons_zero, List.getD_cons_succ, extrF_tup, binF_add, binF_sub, binF_mul, binF_eql, binF_neq, binF_lss, binF_leq, binF_gtr, binF_geq, true_and]
  refine c31 hv hl hl2 ?_
  try simp only [letO_some, cellsOf?_agg, cellsOf?_int, cellsOf?_bool, cellsOf?_imm, cellsOf?_ref, cellsOf?_nils, faddr_iptr, faddr_ptr, List.drop_succ_cons, List.drop_zero, List.take_succ_cons, List.take_zero, load1_iptr, loadN_iptr, List.length_cons, List.length_nil, Nat.le_refl, if_true, List.getElem?_cons_zero, List.getElem?_cons_succ, List.getD_cons_zero, List.getD_cons_succ, extrF_tup, binF_add, binF_sub, binF_mul, binF_eql, binF_neq, binF_lss, binF_leq, binF_gtr, binF_geq, true_and]
  have weak : ∀ e : Int, K (.tup [sl [], sl [], .int .i64 e]) H → endK (.tup [.nils, .nils, .int .i64 e]) H K := fun e h => endK_weak (endK_ret h)
  unfold barR at hk
  by_cases hc : chkT t = 0
  · have e1 : (chkT t != 0) = false := by rw [hc]; rfl
    obtain ⟨n1, n2, hrows⟩ := chkT_ok hc
    rw [if_neg (by simp [hc])] at hk
    simp only [e1, condA_ff, hv.len, letO_some]
    refine ⟨fun L H' => ∃ k : Nat, eqt L [.int .i64 ((k + 1 : Nat) : Int)] ∧ k ≤ t.length ∧ eqt H' H ∧ (allK t.length k).find? (barQ t) = none, fun L _ => (t.length + 1 - iv L 0).toNat, ⟨0, rfl, by omega, rfl, rfl⟩, ?_⟩
    rintro L H' ⟨k, rfl, hk1, rfl, he⟩
    try simp only [letO_some, cellsOf?_agg, cellsOf?_int, cellsOf?_bool, cellsOf?_imm, cellsOf?_ref, cellsOf?_nils, faddr_iptr, faddr_ptr, List.drop_succ_cons, List.drop_zero, List.take_succ_cons, List.take_zero, load1_iptr, loadN_iptr, List.length_cons, List.length_nil, Nat.le_refl, if_true, List.getElem?_cons_zero, List.getElem?_cons_succ, List.getD_cons_zero, List.getD_cons_succ, extrF_tup, binF_add, binF_sub, binF_mul, binF_eql, binF_neq, binF_lss, binF_leq, binF_gtr, binF_geq, true_and]
    refine condA_t (fun hlt => ?_) (fun hge => ?_)
    · have a1 : k < t.length := by omega
      refine c85n n2 (by omega) ?_
      have hLm : ∀ l ∈ listsS t.length (k + 1), l.length = k + 1 ∧ ∀ c ∈ l, c < t.length := fun l hl => exL_mem _ _ _ hl
      have hLl : (listsS t.length (k + 1)).length ≤ 256 := by
        have h1 := exL_len (n := t.length) (k + 1) 0
        exact Nat.le_trans h1 (pow_le4 n2 (by omega))
      have hPR := (RT.tl H' ((listsS t.length (k + 1)).map up)).len
      have hPL : ((listsS t.length (k + 1)).map up).length = (listsS t.length (k + 1)).length := by simp
      have hsucc := allK_succ t.length k
      generalize hP : listsS t.length (k + 1) = P at *
      simp only [hPR, hPL, letO_some, cellsOf?_agg, cellsOf?_int, cellsOf?_bool, cellsOf?_imm, cellsOf?_ref, cellsOf?_nils, faddr_iptr, faddr_ptr, List.drop_succ_cons, List.drop_zero, List.take_succ_cons, List.take_zero, load1_iptr, loadN_iptr, List.length_cons, List.length_nil, Nat.le_refl, if_true, List.getElem?_cons_zero, List.getElem?_cons_succ, List.getD_cons_zero, List.getD_cons_succ, extrF_tup, binF_add, binF_sub, binF_mul, binF_eql, binF_neq, binF_lss, binF_leq, binF_gtr, binF_geq, true_and]
      have hget : ∀ (i : Nat) (hi : i < P.length) (H' : Heap) (k : AV → Prop), k (sl (up P[i])) → letO (idx 1 (tl (P.map up)) (.int .i64 (i : Int))) fun q => letO (load1 q H') k := by
        intro i hi H' k hk
        refine ReadsC.get (Heap.le_refl _) (n := P.length) (cells := (P.map up).map sl) ⟨by simp, by simp [tl]⟩ (x := sl (up P[i])) (by omega) (by omega) ?_ hk
        simp [hi]
      refine ⟨fun L H'' => ∃ i : Nat, eqt L [.int .i64 i] ∧ i ≤ P.length ∧ eqt H'' H' ∧ (P.take i).find? (barQ t) = none, fun L _ => (P.length - iv L 0).toNat, ⟨0, rfl, by omega, rfl, rfl⟩, ?_⟩
      rintro L H'' ⟨i, rfl, hi, rfl, hn⟩
      try simp only [letO_some, cellsOf?_agg, cellsOf?_int, cellsOf?_bool, cellsOf?_imm, cellsOf?_ref, cellsOf?_nils, faddr_iptr, faddr_ptr, List.drop_succ_cons, List.drop_zero, List.take_succ_cons, List.take_zero, load1_iptr, loadN_iptr, List.length_cons, List.length_nil, Nat.le_refl, if_true, List.getElem?_cons_zero, List.getElem?_cons_succ, List.getD_cons_zero, List.getD_cons_succ, extrF_tup, binF_add, binF_sub, binF_mul, binF_eql, binF_neq, binF_lss, binF_leq, binF_gtr, binF_geq, true_and]
      refine condA_t (fun hlt2 => ?_) (fun hge2 => ?_)
      · have b1 : i < P.length := by omega
        obtain ⟨q1, q2⟩ := hLm P[i] (List.getElem_mem b1)
        refine hget i b1 _ _ ?_
        refine c86 hc hv (Reads.sl _ _) (fun r hr => ?_) (by rw [up_length]; omega) ?_
        · obtain ⟨x, hx, rfl⟩ := List.mem_map.1 hr
          have := q2 x hx; omega
        have hzl : (zerosZ t (up P[i])).length ≤ 4 := Nat.le_trans (List.length_filter_le _ _) (by simp; omega)
        have hsl : lenA (sl (up (zerosZ t (up P[i])))) = some (.int .i64 (zerosZ t (up P[i])).length) := by rw [(Reads.sl H'' _).len, up_length]
        simp only [letO_some, cellsOf?_agg, cellsOf?_int, cellsOf?_bool, cellsOf?_imm, cellsOf?_ref, cellsOf?_nils, faddr_iptr, faddr_ptr, List.drop_succ_cons, List.drop_zero, List.take_succ_cons, List.take_zero, load1_iptr, loadN_iptr, List.length_cons, List.length_nil, Nat.le_refl, if_true, List.getElem?_cons_zero, List.getElem?_cons_succ, List.getD_cons_zero, List.getD_cons_succ, extrF_tup, binF_add, binF_sub, binF_mul, binF_eql, binF_neq, binF_lss, binF_leq, binF_gtr, binF_geq, true_and, hsl]
        rw [wrap_i64 (n := ((zerosZ t (up P[i])).length : Int) + _) (by omega) (by omega)]
        refine condA_t (fun hh => ?_) (fun hh => ?_)
        · have hQ : barQ t P[i] = true := decide_eq_true (by omega)
          have hf : (allK t.length t.length).find? (barQ t) = some P[i] := by
            refine allK_find (show k + 1 ≤ t.length by omega) ?_
            rw [hsucc, List.find?_append, he, Option.none_or]
            have this : P = P.take i ++ P[i] :: P.drop (i + 1) := by
              rw [← List.drop_eq_getElem_cons b1, List.take_append_drop]
            refine (congrArg (List.find? (barQ t)) this).trans ?_
            rw [List.find?_append, hn, Option.none_or, List.find?_cons_of_pos hQ]
          rw [hf] at hk
          refine hget i b1 _ _ ?_
          try simp only [letO_some, cellsOf?_agg, cellsOf?_int, cellsOf?_bool, cellsOf?_imm, cellsOf?_ref, cellsOf?_nils, faddr_iptr, faddr_ptr, List.drop_succ_cons, List.drop_zero, List.take_succ_cons, List.take_zero, load1_iptr, loadN_iptr, List.length_cons, List.length_nil, Nat.le_refl, if_true, List.getElem?_cons_zero, List.getElem?_cons_succ, List.getD_cons_zero, List.getD_cons_succ, extrF_tup, binF_add, binF_sub, binF_mul, binF_eql, binF_neq, binF_lss, binF_leq, binF_gtr, binF_geq, true_and]
          exact endK_ret hk
        · rw [wrap_i64 (by omega) (by omega)]
          refine ⟨⟨i + 1, rfl, by omega, rfl, ?_⟩, by simp <;> omega⟩
          rw [take_snoc b1, List.find?_append, hn, Option.none_or]
          have hQ : barQ t P[i] = false := decide_eq_false (by omega)
          simp [hQ]
      · have hie : i = P.length := by omega
        subst hie
        rw [List.take_length] at hn
        rw [wrap_i64 (by omega) (by omega)]
        refine ⟨⟨k + 1, by unfold eqt; congr 2, by omega, rfl, ?_⟩, by simp <;> omega⟩
        rw [hsucc, List.find?_append, he, hn]; rfl
    · have hke : k = t.length := by omega
      subst hke
      rw [he] at hk
      exact weak _ hk
  · have e1 : (chkT t != 0) = true := by simp [hc]
    simp only [e1, condA_tt]
    rw [if_pos hc] at hk
    exact weak _ hk
end Go.Proofs.YtbofkeoebnjjkaaDoor

namespace Go.Proofs.YtbofkeoebnjjkaaDoor
open Tab
set_option linter.unusedVariables false
set_option linter.unusedSimpArgs false
set_option maxRecDepth 20000

/- The block of the sets is the block of the lists. -/
def ltL (l m : List Nat) : Prop := l.length < m.length ∨ (l.length = m.length ∧ cmpL (up l) (up m) < 0)
instance (l m : List Nat) : Decidable (ltL l m) := inferInstanceAs (Decidable (_ ∨ _))
/-- The rank of a list. -/
def rkL (l : List Nat) : Nat := (allK 4 4).idxOf l
theorem rk_lt : ∀ a : Fin 16, ∀ b : Fin 16, a.val ≠ 0 → b.val ≠ 0 → (ltL (lst a.val) (lst b.val) ↔ rkL (lst a.val) < rkL (lst b.val)) := by decide +kernel
theorem rk_inj : ∀ a : Fin 16, ∀ b : Fin 16, a.val ≠ 0 → b.val ≠ 0 → rkL (lst a.val) = rkL (lst b.val) → a = b := by decide +kernel
theorem allK_sorted : ∀ n : Fin 5, (allK n.val n.val).Pairwise fun l m => rkL l < rkL m := by decide +kernel
theorem allK_sets : ∀ n : Fin 5, ∀ s : Fin 16, s.val ≠ 0 → s.val < 2 ^ n.val → lst s.val ∈ allK n.val n.val := by decide +kernel
theorem allK_lists : ∀ n : Fin 5, ∀ l ∈ allK n.val n.val, ∃ s : Fin 16, s.val ≠ 0 ∧ s.val < 2 ^ n.val ∧ lst s.val = l := by decide +kernel
theorem lst_ne : ∀ s : Fin 16, lst s.val = [] ↔ s.val = 0 := by decide +kernel
theorem range4 {n : Nat} (hn : n ≤ 4) (f : Nat → Bool) : (List.range 4).filter (fun c => decide (c < n) && f c) = (List.range n).filter f := by
  have h : n = 0 ∨ n = 1 ∨ n = 2 ∨ n = 3 ∨ n = 4 := by omega
  have e4 : List.range 4 = [0, 1, 2, 3] := rfl
  have e3 : List.range 3 = [0, 1, 2] := rfl
  have e2 : List.range 2 = [0, 1] := rfl
  have e1 : List.range 1 = [0] := rfl
  rcases h with rfl | rfl | rfl | rfl | rfl <;> simp [e4, e3, e2, e1, List.filter_cons]
theorem zeros_lst {t : Tb} (hc : chkT t = 0) (s : Nat) : lst (zerosN t s) = zerosZ t (up (lst s)) := by
  obtain ⟨n1, n2, hrows⟩ := chkT_ok hc
  rw [zerosN, lst_bits]
  have h : zerosB t (lst s) = fun c => decide (c < t.length) && (up (lst s)).all fun r => decide (cell t r.toNat c = 0) := by
    funext c
    unfold zerosB up
    rw [List.all_map]
    congr 2
    funext r
    have := (cell_rng hc r c).1
    simp only [Function.comp, Int.toNat_natCast]
    by_cases h0 : cell t r c = 0
    · simp [h0]
    · have : 0 < cell t r c := by omega
      simp [h0, this]
  rw [h, range4 n2]; rfl
/-- What is asked of a set. -/
def setQ (t : Tb) (s : Nat) : Bool := barQ t (lst s)
theorem barStep_eq {t : Tb} (hc : chkT t = 0) {s : Nat} (hs : s < 16) (h0 : s ≠ 0) {b : Option Nat} : barStep t s b = if setQ t s = true then (match b with | none => some s | some b' => if ltL (lst s) (lst b') then some s else some b') else b := by
  unfold barStep setQ barQ
  have hne : lst s ≠ [] := fun h => h0 ((lst_ne ⟨s, hs⟩).1 h)
  have e : popN (zerosN t s) = (zerosZ t (up (lst s))).length := by rw [popN, zeros_lst hc]
  rw [e]
  by_cases hq : t.length < (zerosZ t (up (lst s))).length + (lst s).length
  · rw [if_neg (by rintro (h | h); exact hne h; omega), if_pos (decide_eq_true hq)]
    rfl
  · rw [if_pos (.inr (by omega)), if_neg (by simpa using hq)]
theorem barF_best {t : Tb} (hc : chkT t = 0) : ∀ m, m ≤ 2 ^ t.length → (barF t m = none → ∀ s, s < m → s ≠ 0 → setQ t s = false) ∧ (∀ s, barF t m = some s → s ≠ 0 ∧ s < m ∧ setQ t s = true ∧ ∀ s', s' < m → s' ≠ 0 → setQ t s' = true → rkL (lst s) ≤ rkL (lst s'))
  | 0, _ => ⟨fun _ s hs => by omega, fun s h => by cases h⟩
  | m + 1, hm => by
    obtain ⟨n1, n2, hrows⟩ := chkT_ok hc
    have h16 : 2 ^ t.length ≤ 16 := by
      have : 2 ^ t.length ≤ 2 ^ 4 := Nat.pow_le_pow_right (by omega) n2
      have e : 2 ^ 4 = 16 := by decide
      omega
    obtain ⟨ih1, ih2⟩ := barF_best hc m (by omega)
    rw [barF]
    by_cases h0 : m = 0
    · subst h0
      have : barStep t 0 (barF t 0) = none := by
        unfold barStep
        rw [if_pos (.inl (by decide))]; rfl
      rw [this]
      exact ⟨fun _ s h1 h2 => by omega, fun s h => by cases h⟩
    rw [barStep_eq hc (by omega) h0]
    by_cases hq : setQ t m = true
    · rw [if_pos hq]
      cases hb : barF t m with
      | none =>
        have hnone := ih1 hb
        refine ⟨fun h => (by cases h), fun s h => ?_⟩
        cases h
        refine ⟨h0, by omega, hq, fun s' h1 h2 h3 => ?_⟩
        by_cases he : s' = m
        · subst he; exact Nat.le_refl _
        · rw [hnone s' (by omega) h2] at h3; cases h3
      | some b =>
        obtain ⟨q1, q2, q3, q4⟩ := ih2 b hb
        have hlt := rk_lt ⟨m, by omega⟩ ⟨b, by omega⟩ h0 q1
        simp only at hlt
        refine ⟨fun h => (by simp only at h; split at h <;> cases h), fun s h => ?_⟩
        simp only at h
        by_cases hl : ltL (lst m) (lst b)
        · rw [if_pos hl] at h
          cases h
          have := hlt.1 hl
          refine ⟨h0, by omega, hq, fun s' h1 h2 h3 => ?_⟩
          by_cases he : s' = m
          · subst he; exact Nat.le_refl _
          · have := q4 s' (by omega) h2 h3; omega
        · rw [if_neg hl] at h
          cases h
          have : ¬ rkL (lst m) < rkL (lst b) := fun h => hl (hlt.2 h)
          refine ⟨q1, by omega, q3, fun s' h1 h2 h3 => ?_⟩
          by_cases he : s' = m
          · subst he; omega
          · exact q4 s' (by omega) h2 h3
    · rw [if_neg hq]
      refine ⟨fun h s h1 h2 => ?_, fun s h => ?_⟩
      · by_cases he : s = m
        · subst he; simpa using hq
        · exact ih1 h s (by omega) h2
      · obtain ⟨q1, q2, q3, q4⟩ := ih2 s h
        refine ⟨q1, by omega, q3, fun s' h1 h2 h3 => ?_⟩
        by_cases he : s' = m
        · subst he; exact absurd h3 hq
        · exact q4 s' (by omega) h2 h3
/-- BOTH BLOCKS ARE THE SAME. -/
theorem bar_eq (t : Tb) : barO t = barR t := by
  by_cases hc : chkT t = 0
  · obtain ⟨n1, n2, hrows⟩ := chkT_ok hc
    have h16 : 2 ^ t.length ≤ 16 := by
      have : 2 ^ t.length ≤ 2 ^ 4 := Nat.pow_le_pow_right (by omega) n2
      have e : 2 ^ 4 = 16 := by decide
      omega
    rw [barO, barR, if_neg (by simp [hc]), if_neg (by simp [hc])]
    obtain ⟨b1, b2⟩ := barF_best hc (2 ^ t.length) (Nat.le_refl _)
    cases hb : barF t (2 ^ t.length) with
    | none =>
      have hnone := b1 hb
      have : (allK t.length t.length).find? (barQ t) = none := by
        rw [List.find?_eq_none]
        intro l hl hq
        obtain ⟨s, s1, s2, rfl⟩ := allK_lists ⟨t.length, by omega⟩ l hl
        have := hnone s.val s2 s1
        unfold setQ at this
        rw [this] at hq; cases hq
      rw [this]
    | some s =>
      obtain ⟨q1, q2, q3, q4⟩ := b2 s hb
      have hmem := allK_sets ⟨t.length, by omega⟩ ⟨s, by omega⟩ q1 q2
      cases hf : (allK t.length t.length).find? (barQ t) with
      | none =>
        rw [List.find?_eq_none] at hf
        exact absurd q3 (hf _ hmem)
      | some l =>
        obtain ⟨hQ, pre, post, hall, has⟩ := List.find?_eq_some_iff_append.1 hf
        have hlm : l ∈ allK t.length t.length := by rw [hall]; simp
        obtain ⟨s', s1, s2, rfl⟩ := allK_lists ⟨t.length, by omega⟩ l hlm
        have h1 := q4 s'.val s2 s1 hQ
        have hsort := allK_sorted ⟨t.length, by omega⟩
        simp only at hsort hmem
        rw [hall, List.pairwise_append, List.pairwise_cons] at hsort
        rw [hall, List.mem_append, List.mem_cons] at hmem
        have h2 : rkL (lst s'.val) ≤ rkL (lst s) := by
          rcases hmem with h | h | h
          · have := has _ h
            unfold setQ at q3
            rw [q3] at this; cases this
          · rw [h]; exact Nat.le_refl _
          · exact Nat.le_of_lt (hsort.2.1.1 _ h)
        have h3 := rk_inj ⟨s, by omega⟩ s' q1 s1 (by simp only; omega)
        obtain rfl : s = s'.val := by rw [← h3]
        simp only
        rw [zeros_lst hc]
  · rw [barO, barR, if_pos hc, if_pos hc]
end Go.Proofs.YtbofkeoebnjjkaaDoor

namespace Go.Proofs.YtbofkeoebnjjkaaDoor
open Go.Av Tab
set_option linter.unusedVariables false
set_option linter.unusedSimpArgs false
set_option maxRecDepth 4000

theorem barR_len (t : Tb) : (barR t).1.length < 2 ^ 63 ∧ (barR t).2.1.length < 2 ^ 63 := by
  unfold barR
  by_cases hc : chkT t = 0
  · obtain ⟨n1, n2, hrows⟩ := chkT_ok hc
    rw [if_neg (by simp [hc])]
    cases hf : (allK t.length t.length).find? (barQ t) with
    | none => simp
    | some l =>
      have hm := List.mem_of_find?_eq_some hf
      unfold allK at hm
      rw [List.mem_flatMap] at hm
      obtain ⟨i, hi, hm⟩ := hm
      have h1 := (exL_mem _ _ _ hm).1
      have h2 := List.mem_range.1 hi
      have hzl : (zerosZ t (up l)).length ≤ 4 := Nat.le_trans (List.length_filter_le _ _) (by simp; omega)
      simp only [up_length]
      omega
  · rw [if_pos hc]; simp
/-- TableBars -/
theorem c4 {v u w : AV} {t : Tbl} {rows cols : List Int} {H : Heap} {K : AV → Heap → Prop} (hv : RT H v t) (hu : Reads H u rows) (hw : Reads H w cols) (hl : t.length < 2 ^ 63) (hl2 : ∀ l ∈ t, l.length < 2 ^ 63) (hk : K (.bool true) H) : ACalls Tryd.prog 4 [v, u, w] H K := by
  apply W4_ok
  unfold W4
  try simp only [letO_some, cellsOf?_agg, cellsOf?_int, cellsOf?_bool, cellsOf?_imm, cellsOf?_ref, cellsOf?_nils, faddr_iptr, faddr_ptr, List.drop_succ_cons, List.drop_zero, List.take_succ_cons, List.take_zero, load1_iptr, loadN_iptr, List.length_cons, List.length_nil, Nat.le_refl, if_true, List.getElem?_cons_zero, List.getElem?_cons_succ, List.getD_cons_zero, List.getD_cons_succ, extrF_tup, binF_add, binF_sub, binF_mul, binF_eql, binF_neq, binF_lss, binF_leq, binF_gtr, binF_geq, true_and]
  refine c16 hv hl fun b _ => ?_
  have fin : ACalls Tryd.prog 17 [] H fun t26 H2 => endK t26 H2 K := c17 (endK_ret hk)
  cases b with
  | true =>
    simp only [letO_some, cellsOf?_agg, cellsOf?_int, cellsOf?_bool, cellsOf?_imm, cellsOf?_ref, cellsOf?_nils, faddr_iptr, faddr_ptr, List.drop_succ_cons, List.drop_zero, List.take_succ_cons, List.take_zero, load1_iptr, loadN_iptr, List.length_cons, List.length_nil, Nat.le_refl, if_true, List.getElem?_cons_zero, List.getElem?_cons_succ, List.getD_cons_zero, List.getD_cons_succ, extrF_tup, binF_add, binF_sub, binF_mul, binF_eql, binF_neq, binF_lss, binF_leq, binF_gtr, binF_geq, true_and, gval_bool, Int.reduceBNe, Int.reduceBEq, pickF_true, pickF_false, reduceIte, Bool.true_eq_false, Bool.false_eq_true, if_false, condA_tt, condA_ff, condG_tt, condG_ff, condG_tt', condG_ff', condG_undef, gval_undef]
    exact fin
  | false =>
    simp only [letO_some, cellsOf?_agg, cellsOf?_int, cellsOf?_bool, cellsOf?_imm, cellsOf?_ref, cellsOf?_nils, faddr_iptr, faddr_ptr, List.drop_succ_cons, List.drop_zero, List.take_succ_cons, List.take_zero, load1_iptr, loadN_iptr, List.length_cons, List.length_nil, Nat.le_refl, if_true, List.getElem?_cons_zero, List.getElem?_cons_succ, List.getD_cons_zero, List.getD_cons_succ, extrF_tup, binF_add, binF_sub, binF_mul, binF_eql, binF_neq, binF_lss, binF_leq, binF_gtr, binF_geq, true_and, gval_bool, Int.reduceBNe, Int.reduceBEq, pickF_true, pickF_false, reduceIte, Bool.true_eq_false, Bool.false_eq_true, if_false, condA_tt, condA_ff, condG_tt, condG_ff, condG_tt', condG_ff', condG_undef, gval_undef, hu.len]
    by_cases h20 : (20 : Int) < rows.length
    · simp only [h20, decide_true, letO_some, cellsOf?_agg, cellsOf?_int, cellsOf?_bool, cellsOf?_imm, cellsOf?_ref, cellsOf?_nils, faddr_iptr, faddr_ptr, List.drop_succ_cons, List.drop_zero, List.take_succ_cons, List.take_zero, load1_iptr, loadN_iptr, List.length_cons, List.length_nil, Nat.le_refl, if_true, List.getElem?_cons_zero, List.getElem?_cons_succ, List.getD_cons_zero, List.getD_cons_succ, extrF_tup, binF_add, binF_sub, binF_mul, binF_eql, binF_neq, binF_lss, binF_leq, binF_gtr, binF_geq, true_and, gval_bool, Int.reduceBNe, Int.reduceBEq, pickF_true, pickF_false, reduceIte, Bool.true_eq_false, Bool.false_eq_true, if_false, condA_tt, condA_ff, condG_tt, condG_ff, condG_tt', condG_ff', condG_undef, gval_undef]
      exact fin
    simp only [h20, decide_false, letO_some, cellsOf?_agg, cellsOf?_int, cellsOf?_bool, cellsOf?_imm, cellsOf?_ref, cellsOf?_nils, faddr_iptr, faddr_ptr, List.drop_succ_cons, List.drop_zero, List.take_succ_cons, List.take_zero, load1_iptr, loadN_iptr, List.length_cons, List.length_nil, Nat.le_refl, if_true, List.getElem?_cons_zero, List.getElem?_cons_succ, List.getD_cons_zero, List.getD_cons_succ, extrF_tup, binF_add, binF_sub, binF_mul, binF_eql, binF_neq, binF_lss, binF_leq, binF_gtr, binF_geq, true_and, gval_bool, Int.reduceBNe, Int.reduceBEq, pickF_true, pickF_false, reduceIte, Bool.true_eq_false, Bool.false_eq_true, if_false, condA_tt, condA_ff, condG_tt, condG_ff, condG_tt', condG_ff', condG_undef, gval_undef, hw.len]
    refine condA_t (fun _ => fin) (fun h20c => ?_)
    refine c34 hv hl hl2 ?_
    rw [bar_eq]
    try simp only [letO_some, cellsOf?_agg, cellsOf?_int, cellsOf?_bool, cellsOf?_imm, cellsOf?_ref, cellsOf?_nils, faddr_iptr, faddr_ptr, List.drop_succ_cons, List.drop_zero, List.take_succ_cons, List.take_zero, load1_iptr, loadN_iptr, List.length_cons, List.length_nil, Nat.le_refl, if_true, List.getElem?_cons_zero, List.getElem?_cons_succ, List.getD_cons_zero, List.getD_cons_succ, extrF_tup, binF_add, binF_sub, binF_mul, binF_eql, binF_neq, binF_lss, binF_leq, binF_gtr, binF_geq, true_and]
    refine c35 hv hl hl2 ?_
    try simp only [letO_some, cellsOf?_agg, cellsOf?_int, cellsOf?_bool, cellsOf?_imm, cellsOf?_ref, cellsOf?_nils, faddr_iptr, faddr_ptr, List.drop_succ_cons, List.drop_zero, List.take_succ_cons, List.take_zero, load1_iptr, loadN_iptr, List.length_cons, List.length_nil, Nat.le_refl, if_true, List.getElem?_cons_zero, List.getElem?_cons_succ, List.getD_cons_zero, List.getD_cons_succ, extrF_tup, binF_add, binF_sub, binF_mul, binF_eql, binF_neq, binF_lss, binF_leq, binF_gtr, binF_geq, true_and]
    refine c24 (Reads.sl _ _) (Reads.sl _ _) (barR_len t).1 ?_
    simp only [decide_true, letO_some, cellsOf?_agg, cellsOf?_int, cellsOf?_bool, cellsOf?_imm, cellsOf?_ref, cellsOf?_nils, faddr_iptr, faddr_ptr, List.drop_succ_cons, List.drop_zero, List.take_succ_cons, List.take_zero, load1_iptr, loadN_iptr, List.length_cons, List.length_nil, Nat.le_refl, if_true, List.getElem?_cons_zero, List.getElem?_cons_succ, List.getD_cons_zero, List.getD_cons_succ, extrF_tup, binF_add, binF_sub, binF_mul, binF_eql, binF_neq, binF_lss, binF_leq, binF_gtr, binF_geq, true_and, gval_bool, Int.reduceBNe, Int.reduceBEq, pickF_true, pickF_false, reduceIte, Bool.true_eq_false, Bool.false_eq_true, if_false, condA_tt, condA_ff, condG_tt, condG_ff, condG_tt', condG_ff', condG_undef, gval_undef]
    refine exJ ?_
    refine c24 (Reads.sl _ _) (Reads.sl _ _) (barR_len t).2 ?_
    simp only [decide_true, letO_some, cellsOf?_agg, cellsOf?_int, cellsOf?_bool, cellsOf?_imm, cellsOf?_ref, cellsOf?_nils, faddr_iptr, faddr_ptr, List.drop_succ_cons, List.drop_zero, List.take_succ_cons, List.take_zero, load1_iptr, loadN_iptr, List.length_cons, List.length_nil, Nat.le_refl, if_true, List.getElem?_cons_zero, List.getElem?_cons_succ, List.getD_cons_zero, List.getD_cons_succ, extrF_tup, binF_add, binF_sub, binF_mul, binF_eql, binF_neq, binF_lss, binF_leq, binF_gtr, binF_geq, true_and, gval_bool, Int.reduceBNe, Int.reduceBEq, pickF_true, pickF_false, reduceIte, Bool.true_eq_false, Bool.false_eq_true, if_false, condA_tt, condA_ff, condG_tt, condG_ff, condG_tt', condG_ff', condG_undef, gval_undef, beq_self_eq_true]
    refine exJ ?_
    refine c36 hv hu hw hl hl2 (by omega) (by omega) ?_
    try simp only [letO_some, cellsOf?_agg, cellsOf?_int, cellsOf?_bool, cellsOf?_imm, cellsOf?_ref, cellsOf?_nils, faddr_iptr, faddr_ptr, List.drop_succ_cons, List.drop_zero, List.take_succ_cons, List.take_zero, load1_iptr, loadN_iptr, List.length_cons, List.length_nil, Nat.le_refl, if_true, List.getElem?_cons_zero, List.getElem?_cons_succ, List.getD_cons_zero, List.getD_cons_succ, extrF_tup, binF_add, binF_sub, binF_mul, binF_eql, binF_neq, binF_lss, binF_leq, binF_gtr, binF_geq, true_and, gval_bool, Int.reduceBNe, Int.reduceBEq, pickF_true, pickF_false, reduceIte, Bool.true_eq_false, Bool.false_eq_true, if_false, condA_tt, condA_ff, condG_tt, condG_ff, condG_tt', condG_ff', condG_undef, gval_undef]
    refine exJ ?_
    refine c37 hv hu hw hl hl2 (by omega) (by omega) ?_
    simp only [letO_some, cellsOf?_agg, cellsOf?_int, cellsOf?_bool, cellsOf?_imm, cellsOf?_ref, cellsOf?_nils, faddr_iptr, faddr_ptr, List.drop_succ_cons, List.drop_zero, List.take_succ_cons, List.take_zero, load1_iptr, loadN_iptr, List.length_cons, List.length_nil, Nat.le_refl, if_true, List.getElem?_cons_zero, List.getElem?_cons_succ, List.getD_cons_zero, List.getD_cons_succ, extrF_tup, binF_add, binF_sub, binF_mul, binF_eql, binF_neq, binF_lss, binF_leq, binF_gtr, binF_geq, true_and, gval_bool, Int.reduceBNe, Int.reduceBEq, pickF_true, pickF_false, reduceIte, Bool.true_eq_false, Bool.false_eq_true, if_false, condA_tt, condA_ff, condG_tt, condG_ff, condG_tt', condG_ff', condG_undef, gval_undef, beq_self_eq_true]
    refine exJ ?_
    refine c17 ?_
    try simp only [letO_some, cellsOf?_agg, cellsOf?_int, cellsOf?_bool, cellsOf?_imm, cellsOf?_ref, cellsOf?_nils, faddr_iptr, faddr_ptr, List.drop_succ_cons, List.drop_zero, List.take_succ_cons, List.take_zero, load1_iptr, loadN_iptr, List.length_cons, List.length_nil, Nat.le_refl, if_true, List.getElem?_cons_zero, List.getElem?_cons_succ, List.getD_cons_zero, List.getD_cons_succ, extrF_tup, binF_add, binF_sub, binF_mul, binF_eql, binF_neq, binF_lss, binF_leq, binF_gtr, binF_geq, true_and, gval_bool, Int.reduceBNe, Int.reduceBEq, pickF_true, pickF_false, reduceIte, Bool.true_eq_false, Bool.false_eq_true, if_false, condA_tt, condA_ff, condG_tt, condG_ff, condG_tt', condG_ff', condG_undef, gval_undef]
    exact endK_ret hk
end Go.Proofs.YtbofkeoebnjjkaaDoor
namespace Go.Proofs.YtbofkeoebnjjkaaDoor.tableBars
set_option linter.unusedVariables false
open Go.Av Tab
theorem law {t : List (List Int)} {rows cols : List Int} (h0 : t.length ≤ maxLen) (h1 : ∀ m ∈ t, okL m) (h2 : okL rows) (h3 : okL cols) : ACalls Tryd.prog 4 [tl t, sl rows, sl cols] Heap.none fun r _ => r = .bool true :=
  c4 (RT.tl _ _) (Reads.sl _ _) (Reads.sl _ _) (Nat.lt_of_le_of_lt h0 (by decide)) (fun l hl => Nat.lt_of_le_of_lt (h1 l hl).1 (by decide)) rfl
end Go.Proofs.YtbofkeoebnjjkaaDoor.tableBars

/- From a walk to a tied row: what the listed variables hold. -/
set_option linter.unusedVariables false
namespace Go.Proofs.YtbofkeoebnjjkaaDoor
open Go.ChangeShapes Go.WideShapes Go.ChangeAt Go.RowKit Go.Av

theorem ownK : ownKnob Tryd.prog.godebug = none := by kernel_rfl
theorem laidOutK : laidOutB Tryd.prog = true := by kernel_rfl
theorem g64 : Tryd.prog.globalNamed "math/bits.deBruijn64tab" = some 1 := by kernel_rfl
theorem g64t : (Tryd.prog.globals[1]?).map (·.type) = some 123 := by kernel_rfl
theorem u123 : Tryd.prog.underlying 123 = some (.array 64 5) := by kernel_rfl
theorem u5 : Tryd.prog.underlying 5 = some (.int .u8) := by kernel_rfl
theorem k5 : Tryd.prog.cellsOf 5 = 1 := by kernel_rfl
theorem k123 : Tryd.prog.cellsOf 123 = 64 := by kernel_rfl
abbrev laidL : List (String × DataW Unit) := [("math/bits.deBruijn32tab", Rows.laid_math_bits_deBruijn32tab), ("math/bits.deBruijn64tab", Rows.laid_math_bits_deBruijn64tab)]
def vals64 : List Int := [0, 1, 56, 2, 57, 49, 28, 3, 61, 58, 42, 50, 38, 29, 17, 4, 62, 47, 59, 36, 45, 43, 51, 22, 53, 39, 33, 30, 24, 18, 12, 5, 63, 55, 48, 27, 60, 41, 37, 16, 46, 35, 44, 21, 52, 32, 23, 11, 54, 26, 40, 15, 34, 20, 31, 10, 25, 14, 19, 9, 13, 8, 7, 6]
theorem laid64 : (Rows.laid_math_bits_deBruijn64tab : DataW Unit) = .agg (vals64.map fun n => .lit (.int .u8 n)) := by rfl
theorem tz64_eq : tz64 = vals64.map (.int .u8) := by rfl
/-- WHAT THE CONDITION GIVES A WALK. -/
theorem glb_of_laid {W : World} (h : laidMetH Tryd.prog laidL W) : Glb Tryd.prog (E0 W) := by
  rw [MakeChecks.laidMetH_plain _ _ _ (by kernel_rfl)] at h
  obtain ⟨ps, h1, _⟩ := h
  obtain ⟨_, _, _, _, _, _, _, _, _, _, h2, _⟩ := h1
  obtain ⟨g, t, cs, fuel, p, q, e1, e2, e3, e4, _, _⟩ := h2
  obtain rfl : (1 : Nat) = g := Option.some.inj (g64.symm.trans e1)
  obtain rfl : 123 = t := Option.some.inj (g64t.symm.trans e2)
  intro g cells hg
  unfold globs at hg
  rw [g64] at hg
  split at hg
  · rename_i hh
    cases hh
    cases hg
    obtain ⟨xs, m, _, hx, hl, hxl, hel⟩ := DataW.trod_array u123 e4
    rw [k123] at hl
    have hcs : ∀ i, i < 64 → cs[i]? = some (.int .u8 (vals64.getD i 0)) := by
      intro i hi
      have h5 := hel i hi
      rw [k5, Nat.mul_one] at h5
      have hxi : xs[i]? = some xs[i] := by simp [hxl, hi]
      rw [hxi] at h5
      obtain ⟨n, hn, hx5, _⟩ := DataW.trod_int u5 h5
      have hval : n = vals64.getD i 0 := by
        have h6 : (xs.map (·.1))[i]? = some (DataW.lit (.int .u8 n)) := by
          rw [List.getElem?_map, hxi, hx5]; rfl
        have h7 : (xs.map (·.1)) = vals64.map fun n => DataW.lit (.int .u8 n) := by
          have := congrArg Prod.fst hx
          rw [laid64] at this
          injection this with this
          exact this.symm
        rw [h7, List.getElem?_map] at h6
        have h8 : vals64[i]? = some (vals64.getD i 0) := by
          have : i < vals64.length := hi
          rw [List.getD_eq_getElem?_getD, List.getElem?_eq_getElem this]; rfl
        rw [h8] at h6
        simp only [Option.map_some, Option.some.injEq, DataW.lit.injEq, Lit.int.injEq, true_and] at h6
        exact h6.symm
      have h9 : ((cs.toList.drop i).take 1)[0]? = some (.int .u8 n) := by rw [hn]; rfl
      rw [List.getElem?_take_of_lt (by omega), List.getElem?_drop, Nat.add_zero] at h9
      rw [← hval]
      simpa using h9
    -- the block
    have hblk : ∃ T fr, W.heap[1]? = some (.cells cs T fr) := by
      unfold World.var? at e3
      rw [g64] at e3
      simp only [Option.bind_some] at e3
      split at e3
      · rename_i c T fr hh
        cases e3
        exact ⟨T, fr, hh⟩
      · cases e3
    obtain ⟨T, fr, hblk⟩ := hblk
    refine Rep.iptr tz64 1 0 cs T fr (fun i => .int .u8 (vals64.getD i 0)) hblk (fun i hi => ?_) (fun i hi => ?_)
    · rw [Nat.zero_add]; exact hcs i hi
    · have h1 : i < vals64.length := hi
      have : tz64[i] = .int .u8 (vals64.getD i 0) := by
        have e : tz64[i]? = some (.int .u8 (vals64.getD i 0)) := by
          rw [tz64_eq, List.getElem?_map, List.getD_eq_getElem?_getD, List.getElem?_eq_getElem h1]; rfl
        rw [List.getElem?_eq_getElem hi] at e
        exact Option.some.inj e
      exact Eq.mpr (congrArg (fun z => Rep (E0 W) z (Value.int .u8 (vals64.getD i 0))) this) (Rep.int _ _)
  · cases hg
end Go.Proofs.YtbofkeoebnjjkaaDoor

/- A world that meets the condition; the row's builder. -/
set_option linter.unusedVariables false
namespace Go.Proofs.YtbofkeoebnjjkaaDoor
open Go.ChangeShapes Go.WideShapes Go.ChangeAt Go.RowKit Go.Av

def vals32 : List Int := [0, 1, 28, 2, 29, 14, 24, 3, 30, 22, 20, 15, 25, 17, 4, 8, 31, 27, 13, 23, 21, 19, 16, 7, 26, 12, 18, 6, 11, 5, 10, 9]
/-- A world that meets the condition: the settled one, the two tables laid. -/
noncomputable def laidWorld (os : Os) (blocks : Array Obj) : World :=
  let w0 := World.holding Tryd.prog os ⟨blocks, #[], []⟩
  { w0 with heap := (w0.heap.modify 0 fun
      | .cells _ t frozen => .cells (vals32.map (Value.int .u8)).toArray t frozen
      | o => o).modify 1 fun
      | .cells _ t frozen => .cells (vals64.map (Value.int .u8)).toArray t frozen
      | o => o }
set_option maxRecDepth 100000 in
theorem laidWorld_met0 (os : Os) (args : Array Value) : laidMetH Tryd.prog laidL ((laidWorld os #[]).forCall (fun _ _ => 0) ⟨#[], args, []⟩).memory :=
  laidMetH_of_parts (laidMet_of_run3 80 (by kernel_rfl) (by kernel_rfl) (by kernel_rfl)) (by kernel_rfl)
end Go.Proofs.YtbofkeoebnjjkaaDoor

/- MADE BY PROGRAM (rowt.py): the row and the tied card of TableBars. -/
namespace Go.Proofs.YtbofkeoebnjjkaaDoor.tableBars
open Go.ChangeShapes Go.WideShapes Go.ChangeAt Go.RowKit Go.Av
set_option linter.unusedVariables false

set_option maxRecDepth 100000 in
theorem lifted (os : Os) (started : os.Started) (H : Type) (enc : TypeId × Value → H) :
    ReturnsInHanded {} Tryd.checked os 4 .any (fun w args => (Rows.tableBarsSpec.pre enc Tryd.prog Tryd.f4 [] false w args ∧ laidMetH Tryd.prog laidL w) ∧ sizedMet enc Tryd.prog Tryd.f4 (OpenSpec.ofChange Rows.tableBarsSpec) false w args)
      (Rows.tableBarsSpec.post enc Tryd.prog Tryd.f4 false true false false) := by
  refine returnsInHanded_of_change_and (C := Tryd.checked) (X := fun w _ => laidMetH Tryd.prog laidL w) (fun _ _ _ hh h => h.of_heap hh) ownK started (by kernel_rfl) Tryd.func4
    (ChangeSpec.witness_at (enc := enc) (C := Tryd.checked) (os := os) (X := fun w _ => laidMetH Tryd.prog laidL w) false (laidWorld os #[]) #[.slice none 0 0, .slice none 0 0, .slice none 0 0] 8 rfl (by kernel_rfl) (by kernel_rfl) (by kernel_rfl) (by kernel_rfl) (by kernel_rfl) (laidWorld_met0 os _)) ?_
  intro W base args ds gs before hval0 hW hcnd _ hL _
  have hval : ∀ (j : Nat) t v, Tryd.f4.params[j]? = some t → args[j]? = some v → Value.okWide Tryd.prog W .any base t v := hval0
  have hW' := hW
  obtain ⟨p, q, hA0, hV, rfl, hfz, hnd⟩ := hW
  have hA : DataW.TrodAll enc Tryd.prog W 0 (fun _ => true) true Tryd.f4.params.toList args.toList ds p := hA0
  have hA1 := hA
  rw [Tryd.params4] at hA hval
  obtain ⟨rfl, rfl⟩ := trodVars_none hV
  clear hA0 hval0
  simp only [List.append_nil] at hW'
  have hlt : ∀ x ∈ p, x.block < W.heap.size := fun x hx => by simpa using hW'.lt x hx
  obtain ⟨v0, v1, v2, d0, d1, d2, p0, p1, p2, rfl, rfl, rfl, h0, h1, h2⟩ := trodAll_three hA
  obtain ⟨l0, r0, ll0, lx0⟩ := rep_tab Tryd.underlying22 Tryd.underlying23 Tryd.underlying3 (by kernel_rfl) (by kernel_rfl) (hval 0 22 v0 rfl rfl) h0
  obtain ⟨l1, r1, ll1⟩ := rep_list Tryd.underlying23 Tryd.underlying3 (by kernel_rfl) (hval 1 23 v1 rfl rfl) h1
  obtain ⟨l2, r2, ll2⟩ := rep_list Tryd.underlying23 Tryd.underlying3 (by kernel_rfl) (hval 2 23 v2 rfl rfl) h2
  refine ((law ll0 lx0 ll1 ll2).2 (E0 W) W [v0, v1, v2] (glb_of_laid hL) (st0 W) (RepL.cons r0 (RepL.cons r1 (RepL.cons r2 (RepL.nil _))))).mono ?_
  rintro e W' ⟨r, v, E', H', rfl, hr, _, hx, rfl⟩
  cases hr
  exact ⟨_, rfl, _, _, _, [], _, [], hW', trodAll_cons_mk (shut_bool Tryd.underlying4 _) trodAll_mk0, hx.trodAll laidOutK (by kernel_rfl) hA1 hlt, rfl, hx.kept _, fun h => by cases h⟩

theorem over : Rows.tableBarsRow.holds Tryd.pinned (OpenSpec.ofChange Rows.tableBarsSpec) :=
  OpenClaim.holds_of_wide 4 Tryd.f4 rfl rfl rfl rfl rfl rfl rfl ⟨rfl, rfl, rfl, rfl, rfl⟩ rfl rfl rfl rfl rfl (by kernel_rfl) Tryd.func4 (by kernel_rfl)
    (of_decide_eq_true (by kernel_rfl)) (by unfold Func.isWrapper; first | (rw [if_pos (by decide +kernel)]; kernel_rfl) | (rw [if_neg (by decide +kernel)]; exact ⟨rfl, rfl⟩))
    (fun os started H enc _ => lifted os started H enc)

theorem carded : Rows.TableBarsCardSaid :=
  Claim7.holds_tied_plain_at .later [] [.data, .data] true (true, "29ac6a78e3fa4d425541ea16beb52bdc0cb68dcf07b6d1720047e0e447a29f7d") false
    over (fun _ h => by cases h) (by kernel_rfl) (fun _ h => by cases h) tableBars_row_tie rfl ⟨rfl, rfl⟩ (by kernel_rfl) rfl
    (fun f fn hf hfn => by
      obtain rfl : f = 4 := Option.some.inj ((show Tryd.prog.funcNamed "headword/headwordlaw11.TableBars" = some 4 by kernel_rfl).symm.trans hf) |>.symm
      obtain rfl : fn = Tryd.f4 := (Option.some.inj (Tryd.func4.symm.trans hfn)).symm
      exact ⟨by kernel_rfl, fun j t ht => by
        rw [Tryd.params4] at ht
        have hm := Array.mem_of_getElem? ht
        rcases (show t = 22 ∨ t = 23 ∨ t = 23 by simpa [or_assoc] using hm) with rfl | rfl | rfl
        · exact (show Tryd.prog.wantsStandIn 22 = false by kernel_rfl)
        · exact (show Tryd.prog.wantsStandIn 23 = false by kernel_rfl)
        · exact (show Tryd.prog.wantsStandIn 23 = false by kernel_rfl)⟩)
    (by kernel_rfl)
#print axioms carded
end Go.Proofs.YtbofkeoebnjjkaaDoor.tableBars
