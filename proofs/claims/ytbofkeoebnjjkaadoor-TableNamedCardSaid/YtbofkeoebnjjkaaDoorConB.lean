import Derived.Test.YtbofkeoebnjjkaaDoorConA
/- What the functions of the table package compute, and that its examples hold: a contract each, in plain Lean. Conditions: each theorem names its own. -/
namespace Go.Proofs.YtbofkeoebnjjkaaDoor
open Go.Av Tab
set_option linter.unusedVariables false
set_option linter.unusedSimpArgs false
set_option maxRecDepth 4000

/-- One more set is tried for a block. -/
def barStep (t : Tb) (s : Nat) (b : Option Nat) : Option Nat :=
  if lst s = [] ∨ (lst s).length + popN (zerosN t s) ≤ t.length then b else match b with
    | none => some s
    | some b' => if (lst s).length < (lst b').length ∨ ((lst s).length = (lst b').length ∧ cmpL (up (lst s)) (up (lst b')) < 0) then some s else some b'
def barF (t : Tb) : Nat → Option Nat
  | 0 => none
  | m + 1 => barStep t m (barF t m)
/-- Rows, columns and error of a block. -/
def barO (t : Tb) : List Int × List Int × Int := if chkT t ≠ 0 then ([], [], chkT t) else match barF t (2 ^ t.length) with
  | none => ([], [], 13)
  | some s => (up (lst s), up (lst (zerosN t s)), 0)
def barX (b : Option Nat) : AV := match b with
  | none => .nils
  | some s => sl (up (lst s))
def barY (t : Tb) (b : Option Nat) : AV := match b with
  | none => .nils
  | some s => sl (up (lst (zerosN t s)))
theorem bar_ok {t : Tb} : ∀ m, m ≤ 2 ^ t.length → ∀ s, barF t m = some s → s < 2 ^ t.length ∧ lst s ≠ []
  | 0, _, s, h => by cases h
  | m + 1, hm, s, h => by
    have ih := bar_ok (t := t) m (by omega)
    unfold barF barStep at h
    split at h
    · exact ih s h
    · rename_i h1
      have hne : lst m ≠ [] := fun h => h1 (.inl h)
      split at h
      · cases h; exact ⟨by omega, hne⟩
      · rename_i b' hb
        split at h
        · cases h; exact ⟨by omega, hne⟩
        · exact ih s (hb.trans h)
theorem sl_nil {l : List Int} : binF Tryd.prog .eql 23 (sl l) .nils = if l = [] then binF Tryd.prog .eql 23 (sl []) .nils else some (.bool false) := by
  split
  · rename_i h; rw [h]
  · rename_i h; exact nilq (Reads.sl Heap.none l) h
theorem nil_nil : binF Tryd.prog .eql 23 .nils .nils = some (.bool true) := by
  obtain ⟨e, h1⟩ : ∃ e, Tryd.prog.underlying 23 = some (.slice e) := ⟨3, by kernel_rfl⟩
  simp [binF, eqF, h1]
/-- Bar -/
theorem c34 {v : AV} {t : Tbl} {H : Heap} {K : AV → Heap → Prop} (hv : RT H v t) (hl : t.length < 2 ^ 63) (hl2 : ∀ l ∈ t, l.length < 2 ^ 63) (hk : K (.tup [sl (barO t).1, sl (barO t).2.1, .int .i64 (barO t).2.2]) H) : ACalls Tryd.prog 34 [v] H K := by
  apply W34_ok
  unfold W34
  try simp only [letO_some, cellsOf?_agg, cellsOf?_int, cellsOf?_bool, cellsOf?_imm, cellsOf?_ref, cellsOf?_nils, faddr_iptr, faddr_ptr, List.drop_succ_cons, List.drop_zero, List.take_succ_cons, List.take_zero, load1_iptr, loadN_iptr, List.length_cons, List.length_nil, Nat.le_refl, if_true, List.getElem?_cons_zero, List.getElem?_cons_succ, List.getD_cons_zero, List.getD_cons_succ, extrF_tup, binF_add, binF_sub, binF_mul, binF_eql, binF_neq, binF_lss, binF_leq, binF_gtr, binF_geq, true_and]
  refine c30 hv hl hl2 ?_
  try simp only [letO_some, cellsOf?_agg, cellsOf?_int, cellsOf?_bool, cellsOf?_imm, cellsOf?_ref, cellsOf?_nils, faddr_iptr, faddr_ptr, List.drop_succ_cons, List.drop_zero, List.take_succ_cons, List.take_zero, load1_iptr, loadN_iptr, List.length_cons, List.length_nil, Nat.le_refl, if_true, List.getElem?_cons_zero, List.getElem?_cons_succ, List.getD_cons_zero, List.getD_cons_succ, extrF_tup, binF_add, binF_sub, binF_mul, binF_eql, binF_neq, binF_lss, binF_leq, binF_gtr, binF_geq, true_and]
  have weak : ∀ e : Int, K (.tup [sl [], sl [], .int .i64 e]) H → endK (.tup [.nils, .nils, .int .i64 e]) H K := fun e h => endK_weak (endK_ret h)
  by_cases hc : chkT t = 0
  · have e1 : (chkT t != 0) = false := by rw [hc]; rfl
    obtain ⟨n1, n2, hrows⟩ := chkT_ok hc
    rw [barO, if_neg (by simp [hc])] at hk
    simp only [e1, condA_ff, hv.len, shl_one n2, letO_some]
    have h2n : 2 ^ t.length ≤ 16 := by
      have : 2 ^ t.length ≤ 2 ^ 4 := Nat.pow_le_pow_right (by omega) n2
      have e : 2 ^ 4 = 16 := by decide
      omega
    refine ⟨fun L H' => ∃ m : Nat, eqt L [barX (barF t m), barY t (barF t m), .int .u64 (m : Int)] ∧ m ≤ 2 ^ t.length ∧ eqt H' H, fun L _ => (16 - iv L 2).toNat, ⟨0, rfl, Nat.zero_le _, rfl⟩, ?_⟩
    rintro L H' ⟨m, rfl, hm, rfl⟩
    simp only [letO_some, List.getD_cons_zero, List.getD_cons_succ, binF_lss, true_and]
    refine condA_t (fun hlt => ?_) (fun hge => ?_)
    · have hm2 : m < 2 ^ t.length := by omega
      have hm16 : m < 16 := by omega
      refine ⟨fun L h => L = [barX (barF t (m + 1)), barY t (barF t (m + 1))] ∧ h = H', ?_, ?_⟩
      · refine c82 hc hv hm2 ?_
        try simp only [letO_some]
        refine c83 hm16 ?_
        have hb := bar_ok m hm
        have hZ16 : zerosN t m < 16 := bits4_lt _
        have hp := popN_le (zerosN t m)
        have hll := lst_len m
        have q1 : ∀ s, lenA (sl (up (lst s))) = some (.int .i64 (lst s).length) := fun s => by simpa using (Reads.sl H' (up (lst s))).len
        have hnext : barF t (m + 1) = barStep t m (barF t m) := rfl
        rw [hnext]
        simp only [letO_some, cellsOf?_agg, cellsOf?_int, cellsOf?_bool, cellsOf?_imm, cellsOf?_ref, cellsOf?_nils, faddr_iptr, faddr_ptr, List.drop_succ_cons, List.drop_zero, List.take_succ_cons, List.take_zero, load1_iptr, loadN_iptr, List.length_cons, List.length_nil, Nat.le_refl, if_true, List.getElem?_cons_zero, List.getElem?_cons_succ, List.getD_cons_zero, List.getD_cons_succ, extrF_tup, binF_add, binF_sub, binF_mul, binF_eql, binF_neq, binF_lss, binF_leq, binF_gtr, binF_geq, true_and, q1, up_length]
        -- no rows
        by_cases h0 : lst m = []
        · have e2 : (((lst m).length : Nat) : Int) = 0 := by rw [h0]; rfl
          have e3 : barStep t m (barF t m) = barF t m := by unfold barStep; rw [if_pos (.inl h0)]
          simp only [e2, beq_self_eq_true, gval_bool, Int.reduceBNe, Int.reduceBEq, pickF_true, pickF_false, reduceIte, Bool.true_eq_false, Bool.false_eq_true, if_false, condA_tt, condA_ff, condG_tt, condG_ff, condG_tt', condG_ff', condG_undef, gval_undef]
          refine exU ?_
          simp only [e3, letO_some, cellsOf?_agg, cellsOf?_int, cellsOf?_bool, cellsOf?_imm, cellsOf?_ref, cellsOf?_nils, faddr_iptr, faddr_ptr, List.drop_succ_cons, List.drop_zero, List.take_succ_cons, List.take_zero, load1_iptr, loadN_iptr, List.length_cons, List.length_nil, Nat.le_refl, if_true, List.getElem?_cons_zero, List.getElem?_cons_succ, List.getD_cons_zero, List.getD_cons_succ, extrF_tup, binF_add, binF_sub, binF_mul, binF_eql, binF_neq, binF_lss, binF_leq, binF_gtr, binF_geq, true_and, gval_bool, Int.reduceBNe, Int.reduceBEq, pickF_true, pickF_false, reduceIte, Bool.true_eq_false, Bool.false_eq_true, if_false, condA_tt, condA_ff, condG_tt, condG_ff, condG_tt', condG_ff', condG_undef, gval_undef]
        have e2 : ((((lst m).length : Nat) : Int) == 0) = false := by
          rw [beq_eq_false_iff_ne]
          have := List.length_pos_iff.2 h0
          omega
        simp only [e2, letO_some, cellsOf?_agg, cellsOf?_int, cellsOf?_bool, cellsOf?_imm, cellsOf?_ref, cellsOf?_nils, faddr_iptr, faddr_ptr, List.drop_succ_cons, List.drop_zero, List.take_succ_cons, List.take_zero, load1_iptr, loadN_iptr, List.length_cons, List.length_nil, Nat.le_refl, if_true, List.getElem?_cons_zero, List.getElem?_cons_succ, List.getD_cons_zero, List.getD_cons_succ, extrF_tup, binF_add, binF_sub, binF_mul, binF_eql, binF_neq, binF_lss, binF_leq, binF_gtr, binF_geq, true_and, gval_bool, Int.reduceBNe, Int.reduceBEq, pickF_true, pickF_false, reduceIte, Bool.true_eq_false, Bool.false_eq_true, if_false, condA_tt, condA_ff, condG_tt, condG_ff, condG_tt', condG_ff', condG_undef, gval_undef]
        refine exJ ?_
        refine c84 hZ16 ?_
        simp only [letO_some, cellsOf?_agg, cellsOf?_int, cellsOf?_bool, cellsOf?_imm, cellsOf?_ref, cellsOf?_nils, faddr_iptr, faddr_ptr, List.drop_succ_cons, List.drop_zero, List.take_succ_cons, List.take_zero, load1_iptr, loadN_iptr, List.length_cons, List.length_nil, Nat.le_refl, if_true, List.getElem?_cons_zero, List.getElem?_cons_succ, List.getD_cons_zero, List.getD_cons_succ, extrF_tup, binF_add, binF_sub, binF_mul, binF_eql, binF_neq, binF_lss, binF_leq, binF_gtr, binF_geq, true_and, gval_bool, Int.reduceBNe, Int.reduceBEq, pickF_true, pickF_false, reduceIte, Bool.true_eq_false, Bool.false_eq_true, if_false, condA_tt, condA_ff, condG_tt, condG_ff, condG_tt', condG_ff', condG_undef, gval_undef, hv.len, up_length, q1]
        rw [wrap_i64 (by omega) (by omega)]
        refine condA_t (fun hsm => ?_) (fun hgr => ?_)
        · have e3 : barStep t m (barF t m) = barF t m := by unfold barStep; rw [if_pos (.inr (by omega))]
          rw [e3]
          exact ⟨rfl, by trivial⟩
        have hbs : barStep t m (barF t m) = match barF t m with
            | none => some m
            | some b' => if (lst m).length < (lst b').length ∨ ((lst m).length = (lst b').length ∧ cmpL (up (lst m)) (up (lst b')) < 0) then some m else some b' := by
          unfold barStep
          rw [if_neg (by intro h; rcases h with h | h; exact h0 h; omega)]
        rw [hbs]
        -- this one
        have take : ∀ H14 : Heap, H14 = H' → ACalls Tryd.prog 83 [.int .u64 ((zerosN t m : Nat) : Int)] H14 fun t62 H15 => [sl (up (lst m)), t62] = [barX (some m), barY t (some m)] ∧ H15 = H' := by
          rintro _ rfl
          exact c83 hZ16 ⟨rfl, rfl⟩
        cases hbm : barF t m with
        | none =>
          simp only [barX, nil_nil, letO_some, cellsOf?_agg, cellsOf?_int, cellsOf?_bool, cellsOf?_imm, cellsOf?_ref, cellsOf?_nils, faddr_iptr, faddr_ptr, List.drop_succ_cons, List.drop_zero, List.take_succ_cons, List.take_zero, load1_iptr, loadN_iptr, List.length_cons, List.length_nil, Nat.le_refl, if_true, List.getElem?_cons_zero, List.getElem?_cons_succ, List.getD_cons_zero, List.getD_cons_succ, extrF_tup, binF_add, binF_sub, binF_mul, binF_eql, binF_neq, binF_lss, binF_leq, binF_gtr, binF_geq, true_and, gval_bool, Int.reduceBNe, Int.reduceBEq, pickF_true, pickF_false, reduceIte, Bool.true_eq_false, Bool.false_eq_true, if_false, condA_tt, condA_ff, condG_tt, condG_ff, condG_tt', condG_ff', condG_undef, gval_undef]
          refine exU ?_
          try simp only [letO_some, cellsOf?_agg, cellsOf?_int, cellsOf?_bool, cellsOf?_imm, cellsOf?_ref, cellsOf?_nils, faddr_iptr, faddr_ptr, List.drop_succ_cons, List.drop_zero, List.take_succ_cons, List.take_zero, load1_iptr, loadN_iptr, List.length_cons, List.length_nil, Nat.le_refl, if_true, List.getElem?_cons_zero, List.getElem?_cons_succ, List.getD_cons_zero, List.getD_cons_succ, extrF_tup, binF_add, binF_sub, binF_mul, binF_eql, binF_neq, binF_lss, binF_leq, binF_gtr, binF_geq, true_and, gval_bool, Int.reduceBNe, Int.reduceBEq, pickF_true, pickF_false, reduceIte, Bool.true_eq_false, Bool.false_eq_true, if_false, condA_tt, condA_ff, condG_tt, condG_ff, condG_tt', condG_ff', condG_undef, gval_undef]
          exact take _ rfl
        | some b' =>
          obtain ⟨hb1, hb2⟩ := hb b' hbm
          have hb3 : up (lst b') ≠ [] := by simp [up, hb2]
          have hx : barX (some b') = sl (up (lst b')) := rfl
          have e4 : binF Tryd.prog .eql 23 (sl (up (lst b'))) .nils = some (.bool false) := nilq (Reads.sl H' _) hb3
          have hll2 := lst_len b'
          simp only [hx, e4, letO_some, cellsOf?_agg, cellsOf?_int, cellsOf?_bool, cellsOf?_imm, cellsOf?_ref, cellsOf?_nils, faddr_iptr, faddr_ptr, List.drop_succ_cons, List.drop_zero, List.take_succ_cons, List.take_zero, load1_iptr, loadN_iptr, List.length_cons, List.length_nil, Nat.le_refl, if_true, List.getElem?_cons_zero, List.getElem?_cons_succ, List.getD_cons_zero, List.getD_cons_succ, extrF_tup, binF_add, binF_sub, binF_mul, binF_eql, binF_neq, binF_lss, binF_leq, binF_gtr, binF_geq, true_and, gval_bool, Int.reduceBNe, Int.reduceBEq, pickF_true, pickF_false, reduceIte, Bool.true_eq_false, Bool.false_eq_true, if_false, condA_tt, condA_ff, condG_tt, condG_ff, condG_tt', condG_ff', condG_undef, gval_undef, q1, up_length]
          by_cases hlt2 : (lst m).length < (lst b').length
          · have e5 : decide ((((lst m).length : Nat) : Int) < (((lst b').length : Nat) : Int)) = true := decide_eq_true (by omega)
            try simp only [q1, up_length, e5, letO_some, cellsOf?_agg, cellsOf?_int, cellsOf?_bool, cellsOf?_imm, cellsOf?_ref, cellsOf?_nils, faddr_iptr, faddr_ptr, List.drop_succ_cons, List.drop_zero, List.take_succ_cons, List.take_zero, load1_iptr, loadN_iptr, List.length_cons, List.length_nil, Nat.le_refl, if_true, List.getElem?_cons_zero, List.getElem?_cons_succ, List.getD_cons_zero, List.getD_cons_succ, extrF_tup, binF_add, binF_sub, binF_mul, binF_eql, binF_neq, binF_lss, binF_leq, binF_gtr, binF_geq, true_and, gval_bool, Int.reduceBNe, Int.reduceBEq, pickF_true, pickF_false, reduceIte, Bool.true_eq_false, Bool.false_eq_true, if_false, condA_tt, condA_ff, condG_tt, condG_ff, condG_tt', condG_ff', condG_undef, gval_undef]
            rw [if_pos (.inl hlt2)]
            refine exU ?_
            try simp only [letO_some, cellsOf?_agg, cellsOf?_int, cellsOf?_bool, cellsOf?_imm, cellsOf?_ref, cellsOf?_nils, faddr_iptr, faddr_ptr, List.drop_succ_cons, List.drop_zero, List.take_succ_cons, List.take_zero, load1_iptr, loadN_iptr, List.length_cons, List.length_nil, Nat.le_refl, if_true, List.getElem?_cons_zero, List.getElem?_cons_succ, List.getD_cons_zero, List.getD_cons_succ, extrF_tup, binF_add, binF_sub, binF_mul, binF_eql, binF_neq, binF_lss, binF_leq, binF_gtr, binF_geq, true_and, gval_bool, Int.reduceBNe, Int.reduceBEq, pickF_true, pickF_false, reduceIte, Bool.true_eq_false, Bool.false_eq_true, if_false, condA_tt, condA_ff, condG_tt, condG_ff, condG_tt', condG_ff', condG_undef, gval_undef]
            exact take _ rfl
          · have e5 : decide ((((lst m).length : Nat) : Int) < (((lst b').length : Nat) : Int)) = false := decide_eq_false (by omega)
            try simp only [q1, up_length, e5, letO_some, cellsOf?_agg, cellsOf?_int, cellsOf?_bool, cellsOf?_imm, cellsOf?_ref, cellsOf?_nils, faddr_iptr, faddr_ptr, List.drop_succ_cons, List.drop_zero, List.take_succ_cons, List.take_zero, load1_iptr, loadN_iptr, List.length_cons, List.length_nil, Nat.le_refl, if_true, List.getElem?_cons_zero, List.getElem?_cons_succ, List.getD_cons_zero, List.getD_cons_succ, extrF_tup, binF_add, binF_sub, binF_mul, binF_eql, binF_neq, binF_lss, binF_leq, binF_gtr, binF_geq, true_and, gval_bool, Int.reduceBNe, Int.reduceBEq, pickF_true, pickF_false, reduceIte, Bool.true_eq_false, Bool.false_eq_true, if_false, condA_tt, condA_ff, condG_tt, condG_ff, condG_tt', condG_ff', condG_undef, gval_undef]
            by_cases heq : (lst m).length = (lst b').length
            · have e6 : ((((lst m).length : Nat) : Int) == (((lst b').length : Nat) : Int)) = true := by rw [heq]; exact beq_self_eq_true _
              try simp only [q1, up_length, e6, letO_some, cellsOf?_agg, cellsOf?_int, cellsOf?_bool, cellsOf?_imm, cellsOf?_ref, cellsOf?_nils, faddr_iptr, faddr_ptr, List.drop_succ_cons, List.drop_zero, List.take_succ_cons, List.take_zero, load1_iptr, loadN_iptr, List.length_cons, List.length_nil, Nat.le_refl, if_true, List.getElem?_cons_zero, List.getElem?_cons_succ, List.getD_cons_zero, List.getD_cons_succ, extrF_tup, binF_add, binF_sub, binF_mul, binF_eql, binF_neq, binF_lss, binF_leq, binF_gtr, binF_geq, true_and, gval_bool, Int.reduceBNe, Int.reduceBEq, pickF_true, pickF_false, reduceIte, Bool.true_eq_false, Bool.false_eq_true, if_false, condA_tt, condA_ff, condG_tt, condG_ff, condG_tt', condG_ff', condG_undef, gval_undef]
              refine exJ ?_
              refine c57 (Reads.sl _ _) (Reads.sl _ _) (by simp; omega) ?_
              try simp only [letO_some, cellsOf?_agg, cellsOf?_int, cellsOf?_bool, cellsOf?_imm, cellsOf?_ref, cellsOf?_nils, faddr_iptr, faddr_ptr, List.drop_succ_cons, List.drop_zero, List.take_succ_cons, List.take_zero, load1_iptr, loadN_iptr, List.length_cons, List.length_nil, Nat.le_refl, if_true, List.getElem?_cons_zero, List.getElem?_cons_succ, List.getD_cons_zero, List.getD_cons_succ, extrF_tup, binF_add, binF_sub, binF_mul, binF_eql, binF_neq, binF_lss, binF_leq, binF_gtr, binF_geq, true_and, gval_bool, Int.reduceBNe, Int.reduceBEq, pickF_true, pickF_false, reduceIte, Bool.true_eq_false, Bool.false_eq_true, if_false, condA_tt, condA_ff, condG_tt, condG_ff, condG_tt', condG_ff', condG_undef, gval_undef]
              refine condA_t (fun hcm => ?_) (fun hcm => ?_)
              · rw [if_pos (.inr ⟨heq, hcm⟩)]
                exact take _ rfl
              · rw [if_neg (by intro h; rcases h with h | h; exact hlt2 h; exact hcm h.2)]
                exact ⟨rfl, by trivial⟩
            · have e6 : ((((lst m).length : Nat) : Int) == (((lst b').length : Nat) : Int)) = false := by rw [beq_eq_false_iff_ne]; omega
              try simp only [q1, up_length, e6, letO_some, cellsOf?_agg, cellsOf?_int, cellsOf?_bool, cellsOf?_imm, cellsOf?_ref, cellsOf?_nils, faddr_iptr, faddr_ptr, List.drop_succ_cons, List.drop_zero, List.take_succ_cons, List.take_zero, load1_iptr, loadN_iptr, List.length_cons, List.length_nil, Nat.le_refl, if_true, List.getElem?_cons_zero, List.getElem?_cons_succ, List.getD_cons_zero, List.getD_cons_succ, extrF_tup, binF_add, binF_sub, binF_mul, binF_eql, binF_neq, binF_lss, binF_leq, binF_gtr, binF_geq, true_and, gval_bool, Int.reduceBNe, Int.reduceBEq, pickF_true, pickF_false, reduceIte, Bool.true_eq_false, Bool.false_eq_true, if_false, condA_tt, condA_ff, condG_tt, condG_ff, condG_tt', condG_ff', condG_undef, gval_undef]
              refine exU ?_
              try simp only [letO_some, cellsOf?_agg, cellsOf?_int, cellsOf?_bool, cellsOf?_imm, cellsOf?_ref, cellsOf?_nils, faddr_iptr, faddr_ptr, List.drop_succ_cons, List.drop_zero, List.take_succ_cons, List.take_zero, load1_iptr, loadN_iptr, List.length_cons, List.length_nil, Nat.le_refl, if_true, List.getElem?_cons_zero, List.getElem?_cons_succ, List.getD_cons_zero, List.getD_cons_succ, extrF_tup, binF_add, binF_sub, binF_mul, binF_eql, binF_neq, binF_lss, binF_leq, binF_gtr, binF_geq, true_and, gval_bool, Int.reduceBNe, Int.reduceBEq, pickF_true, pickF_false, reduceIte, Bool.true_eq_false, Bool.false_eq_true, if_false, condA_tt, condA_ff, condG_tt, condG_ff, condG_tt', condG_ff', condG_undef, gval_undef]
              rw [if_neg (by intro h; rcases h with h | h; exact hlt2 h; exact heq h.1)]
              exact ⟨rfl, by trivial⟩
      · rintro L h ⟨rfl, rfl⟩
        try simp only [letO_some, cellsOf?_agg, cellsOf?_int, cellsOf?_bool, cellsOf?_imm, cellsOf?_ref, cellsOf?_nils, faddr_iptr, faddr_ptr, List.drop_succ_cons, List.drop_zero, List.take_succ_cons, List.take_zero, load1_iptr, loadN_iptr, List.length_cons, List.length_nil, Nat.le_refl, if_true, List.getElem?_cons_zero, List.getElem?_cons_succ, List.getD_cons_zero, List.getD_cons_succ, extrF_tup, binF_add, binF_sub, binF_mul, binF_eql, binF_neq, binF_lss, binF_leq, binF_gtr, binF_geq, true_and]
        rw [wrap_u64 (by omega) (by omega)]
        exact ⟨⟨m + 1, rfl, by omega, rfl⟩, by simp <;> omega⟩
    · have hme : m = 2 ^ t.length := by omega
      subst hme
      cases hb : barF t (2 ^ t.length) with
      | none =>
        rw [hb] at hk
        simp only [barX, barY, nil_nil, letO_some, cellsOf?_agg, cellsOf?_int, cellsOf?_bool, cellsOf?_imm, cellsOf?_ref, cellsOf?_nils, faddr_iptr, faddr_ptr, List.drop_succ_cons, List.drop_zero, List.take_succ_cons, List.take_zero, load1_iptr, loadN_iptr, List.length_cons, List.length_nil, Nat.le_refl, if_true, List.getElem?_cons_zero, List.getElem?_cons_succ, List.getD_cons_zero, List.getD_cons_succ, extrF_tup, binF_add, binF_sub, binF_mul, binF_eql, binF_neq, binF_lss, binF_leq, binF_gtr, binF_geq, true_and, condA_tt]
        exact weak _ hk
      | some s =>
        obtain ⟨hb1, hb2⟩ := bar_ok _ (Nat.le_refl _) s hb
        rw [hb] at hk
        have e4 : binF Tryd.prog .eql 23 (sl (up (lst s))) .nils = some (.bool false) := nilq (Reads.sl H' _) (by simp [up, hb2])
        simp only [barX, barY, e4, letO_some, cellsOf?_agg, cellsOf?_int, cellsOf?_bool, cellsOf?_imm, cellsOf?_ref, cellsOf?_nils, faddr_iptr, faddr_ptr, List.drop_succ_cons, List.drop_zero, List.take_succ_cons, List.take_zero, load1_iptr, loadN_iptr, List.length_cons, List.length_nil, Nat.le_refl, if_true, List.getElem?_cons_zero, List.getElem?_cons_succ, List.getD_cons_zero, List.getD_cons_succ, extrF_tup, binF_add, binF_sub, binF_mul, binF_eql, binF_neq, binF_lss, binF_leq, binF_gtr, binF_geq, true_and, condA_ff]
        exact endK_ret hk
  · have e1 : (chkT t != 0) = true := by simp [hc]
    simp only [e1, condA_tt]
    rw [barO, if_pos hc] at hk
    exact weak _ hk
end Go.Proofs.YtbofkeoebnjjkaaDoor

namespace Go.Proofs.YtbofkeoebnjjkaaDoor
open Go.Av Tab
set_option linter.unusedVariables false
set_option linter.unusedSimpArgs false
set_option maxRecDepth 4000

theorem getI_set {l : List Int} {i k : Nat} {x : Int} (hi : i < l.length) : (l.set i x).getD k 0 = if k = i then x else l.getD k 0 := by
  rw [List.getD_eq_getElem?_getD, List.getD_eq_getElem?_getD, List.getElem?_set]
  by_cases h : i = k
  · subst h; simp [hi]
  · rw [if_neg h, if_neg (by omega)]
theorem sum_set : ∀ {l : List Int} {i : Nat} {y : Int}, i < l.length → (l.set i y).sum = l.sum - l.getD i 0 + y
  | a :: l, 0, y, _ => by simp; omega
  | a :: l, i + 1, y, h => by
    have := sum_set (l := l) (i := i) (y := y) (by simpa using h)
    simp only [List.set_cons_succ, List.sum_cons, this, List.getD_cons_succ]
    omega
/-- The sum of all numbers. -/
def tsum (t : Tb) : Int := (t.map List.sum).sum
theorem tsum_set : ∀ {t : Tb} {i : Nat} {l : List Int}, i < t.length → tsum (t.set i l) = tsum t - (t.getD i []).sum + l.sum
  | a :: t, 0, l, _ => by simp [tsum]; omega
  | a :: t, i + 1, l, h => by
    have := tsum_set (t := t) (i := i) (l := l) (by simpa using h)
    simp only [tsum, List.set_cons_succ, List.map_cons, List.sum_cons, List.getD_cons_succ] at this ⊢
    omega
/-- Where a plan is at home in a table. -/
def fitP (t : Tb) (p : List Int) : Prop := p.length ≤ t.length ∧ ∀ r, r < p.length → 0 ≤ p.getD r 0 ∧ (p.getD r 0).toNat < (row t r).length
theorem takeT_sum {t : Tb} {p : List Int} {x : Int} (hf : fitP t p) : tsum (takeT t p x) = tsum t - p.length * x := by
  have key : ∀ i, i ≤ p.length → tsum (takeK t p x i) = tsum t - i * x := by
    intro i
    induction i with
    | zero => intro _; rw [takeK_zero]; simp
    | succ i ih =>
      intro hi
      have h1 := ih (by omega)
      have hit : i < t.length := by have := hf.1; omega
      obtain ⟨h2, h3⟩ := hf.2 i (by omega)
      rw [← takeK_step hit, tsum_set (by simpa using hit), h1, takeK_get hit, if_neg (by omega), sum_set h3]
      have : cell t i (p.getD i 0).toNat = (row t i).getD (p.getD i 0).toNat 0 := rfl
      rw [this, show ((i + 1 : Nat) : Int) = (i : Int) + 1 by omega, Int.add_mul]
      omega
  exact key _ (Nat.le_refl _)
theorem takeT_row {t : Tb} {p : List Int} {x : Int} {r : Nat} (hr : r < t.length) : row (takeT t p x) r = if r < p.length then (row t r).set (p.getD r 0).toNat (cell t r (p.getD r 0).toNat - x) else row t r := takeK_get hr
@[simp] theorem takeT_length (t : Tb) (p : List Int) (x : Int) : (takeT t p x).length = t.length := takeK_length _ _ _ _
theorem takeT_rowlen {t : Tb} {p : List Int} {x : Int} {r : Nat} (hr : r < t.length) : (row (takeT t p x) r).length = (row t r).length := by
  rw [takeT_row hr]
  split
  · simp
  · rfl
theorem takeT_cell {t : Tb} {p : List Int} {x : Int} {r c : Nat} (hf : fitP t p) (hr : r < t.length) : cell (takeT t p x) r c = if r < p.length ∧ c = (p.getD r 0).toNat then cell t r c - x else cell t r c := by
  unfold cell
  rw [takeT_row hr]
  by_cases h : r < p.length
  · rw [if_pos h, getI_set (hf.2 r h).2]
    by_cases h2 : c = (p.getD r 0).toNat
    · rw [if_pos h2, if_pos ⟨h, h2⟩, h2]; rfl
    · rw [if_neg h2, if_neg (fun hh => h2 hh.2)]
  · rw [if_neg h, if_neg (fun hh => h hh.1)]
theorem chkT_mk {t : Tb} (h1 : 1 ≤ t.length) (h2 : t.length ≤ 4) (hl : ∀ r, r < t.length → (row t r).length = t.length) (hc : ∀ r c, r < t.length → 0 ≤ cell t r c ∧ cell t r c ≤ 9) : chkT t = 0 := by
  unfold chkT
  rw [if_neg (by omega), if_neg (by omega)]
  refine chkRows_mk fun l hl2 => ?_
  obtain ⟨r, hr, rfl⟩ := List.getElem_of_mem hl2
  have e : row t r = t[r] := by rw [row, List.getD_eq_getElem?_getD, List.getElem?_eq_getElem hr]; rfl
  refine ⟨by rw [← e]; exact hl r hr, fun x hx => ?_⟩
  obtain ⟨c, hc', rfl⟩ := List.getElem_of_mem hx
  have := hc r c hr
  unfold cell at this
  rw [e, List.getD_eq_getElem?_getD, List.getElem?_eq_getElem hc'] at this
  exact this
/-- The plans of a walk: their smallest numbers. -/
theorem wk_least {t : Tb} : ∀ (f : Nat) (p : List Nat) (w l : Int) (x : Vis), x ∈ wk t f p w l → x.2.2 ≤ l ∧ (1 ≤ l → 1 ≤ x.2.2) ∧ ∃ q, x.1 = p ++ q ∧ q.length = f ∧ ∀ j, j < f → x.2.2 ≤ cell t (p.length + j) (q.getD j 0) ∧ q.getD j 0 < t.length
  | 0, p, w, l, x, h => by
    simp only [wk, List.mem_singleton] at h
    subst h
    exact ⟨Int.le_refl _, fun h => h, [], by simp, rfl, fun j hj => by omega⟩
  | f + 1, p, w, l, x, h => by
    simp only [wk, List.mem_flatMap, List.mem_range] at h
    obtain ⟨c, hcn, h⟩ := h
    split at h
    · rename_i hcc
      obtain ⟨h1, h2, q, h3, h4, h5⟩ := wk_least f _ _ _ x h
      have hmin : (if cell t p.length c < l then cell t p.length c else l) ≤ l ∧ (if cell t p.length c < l then cell t p.length c else l) ≤ cell t p.length c := by split <;> omega
      refine ⟨by omega, fun hl => h2 (by split <;> omega), c :: q, by rw [h3]; simp, by simp [h4], fun j hj => ?_⟩
      cases j with
      | zero =>
        rw [Nat.add_zero, List.getD_cons_zero]
        exact ⟨by omega, hcn⟩
      | succ j =>
        have := h5 j (by omega)
        rw [List.length_append, List.length_singleton] at this
        rw [List.getD_cons_succ, show p.length + (j + 1) = p.length + 1 + j by omega]
        exact this
    · cases h
theorem up_getD (E : List Nat) (k : Nat) : (up E).getD k 0 = (E.getD k 0 : Nat) := by
  simp only [up, List.getD_eq_getElem?_getD, List.getElem?_map]
  cases E[k]? <;> simp
theorem first_ok {t : Tb} (hc : chkT t = 0) {x : Vis} (hx : x ∈ wkAll t) : x.1.length = t.length ∧ 1 ≤ x.2.2 ∧ x.2.2 ≤ 9 ∧ (∀ r, r < t.length → x.2.2 ≤ cell t r (x.1.getD r 0) ∧ x.1.getD r 0 < t.length) ∧ fitP t (up x.1) := by
  obtain ⟨h1, h2, q, h3, h4, h5⟩ := wk_least _ _ _ _ x hx
  rw [List.nil_append] at h3
  subst h3
  have h6 : ∀ r, r < t.length → x.2.2 ≤ cell t r (x.1.getD r 0) ∧ x.1.getD r 0 < t.length := fun r hr => by
    have := h5 r hr
    rwa [List.length_nil, Nat.zero_add] at this
  refine ⟨h4, h2 (by omega), h1, h6, by simp [h4], fun r hr => ?_⟩
  rw [up_length, h4] at hr
  rw [up_getD, Int.toNat_natCast]
  exact ⟨by omega, by rw [row_len hc hr]; exact (h6 r hr).2⟩
theorem chk_take {t : Tb} (hc : chkT t = 0) {x : Vis} (hx : x ∈ wkAll t) : chkT (takeT t (up x.1) x.2.2) = 0 := by
  obtain ⟨n1, n2, hrows⟩ := chkT_ok hc
  obtain ⟨h1, h2, h3, h4, h5⟩ := first_ok hc hx
  refine chkT_mk (by simpa using n1) (by simpa using n2) (fun r hr => ?_) (fun r c hr => ?_)
  · rw [takeT_length] at hr ⊢
    rw [takeT_rowlen hr]; exact row_len hc hr
  · rw [takeT_length] at hr
    rw [takeT_cell h5 hr]
    have hcc := cell_rng hc r c
    split
    · rename_i hh
      rw [up_getD, Int.toNat_natCast] at hh
      have := (h4 r hr).1
      rw [← hh.2] at this
      omega
    · exact hcc
theorem tsum_rng {t : Tb} (hc : chkT t = 0) : 0 ≤ tsum t ∧ tsum t ≤ 144 := by
  obtain ⟨n1, n2, hrows⟩ := chkT_ok hc
  have h1 : ∀ l : List Int, (∀ x ∈ l, 0 ≤ x ∧ x ≤ 9) → 0 ≤ l.sum ∧ l.sum ≤ 9 * l.length := by
    intro l
    induction l with
    | nil => intro _; simp
    | cons a l ih =>
      intro h
      have := ih fun x hx => h x (by simp [hx])
      have := h a (by simp)
      simp only [List.sum_cons, List.length_cons]
      omega
  have h2 : ∀ u : Tb, (∀ l ∈ u, l.length ≤ 4 ∧ ∀ x ∈ l, 0 ≤ x ∧ x ≤ 9) → 0 ≤ tsum u ∧ tsum u ≤ 36 * u.length := by
    intro u
    induction u with
    | nil => intro _; simp [tsum]
    | cons a u ih =>
      intro h
      have q1 := ih fun x hx => h x (by simp [hx])
      have q2 := h a (by simp)
      have q3 := h1 a q2.2
      have e : tsum (a :: u) = a.sum + tsum u := by simp [tsum]
      rw [e, List.length_cons]
      omega
  have := h2 t fun l hl => ⟨by have := (hrows l hl).1; omega, (hrows l hl).2⟩
  omega
/-- The shares that are split off, one by one. -/
def splitF : Nat → Tb → List (List Nat × Int)
  | 0, _ => []
  | f + 1, t => match wkAll t with
    | [] => []
    | x :: _ => (x.1, x.2.2) :: splitF f (takeT t (up x.1) x.2.2)
def splitS (t : Tb) : List (List Nat × Int) := splitF (tsum t).toNat t
def shC (s : List Nat × Int) : List AV := [sl (up s.1), .int .i64 s.2]
theorem shC_len (s : List Nat × Int) : (shC s).length = 2 := rfl
theorem b49 {x y : AV} (hx : cellsOf? x = some [x]) (hy : cellsOf? y = some [y]) : buildF Tryd.prog 49 [(0, x), (1, y)] = some (.agg [x, y]) := by
  rw [buildF_of (show buildPlan Tryd.prog 49 = some ([.nils, .int .i64 0], [(0, 1), (1, 1)]) by kernel_rfl)]
  simp [fillA, hx, hy, splice]
theorem l42 {x y : AV} : literalF Tryd.prog 42 1 [(0, .agg [x, y])] = some [x, y] := by
  rw [literalF_of (show literalPlan Tryd.prog 42 = some ([.nils, .int .i64 0], 2) by kernel_rfl) (by decide) (by simp)]
  simp [fillA, splice, rowOf]
/-- The rows stand, whatever else there is. -/
theorem PT.rebase {B H Hx Hl : Heap} {bo b : Nat} {cells c : List AV} {t : Tbl} (h : PT B Hx bo cells t) (hB : H.le B) (hl : H.le Hl) (ho : Hl bo = some cells) (hr : ∀ b' c', Hx b' = some c' → B b' = none → Hl b' = some c') (hb : Hl b = none) : PT (H.put b c) (Hl.put b c) bo cells t := by
  have hbo : bo ≠ b := by rintro rfl; rw [ho] at hb; cases hb
  refine ⟨Heap.put_mono hl, ?_, by rw [Heap.put_ne hbo]; exact ho, h.len, fun k hk => ?_, h.dis⟩
  · rw [Heap.put_ne hbo]; exact none_of_le hB h.fo
  · rcases h.row k hk with h1 | ⟨b2, cp, q1, q2, q3, q4⟩
    · exact .inl h1
    · right
      have hx := hr _ _ q2 q3
      have hne : b2 ≠ b := by rintro rfl; rw [hx] at hb; cases hb
      exact ⟨b2, cp, q1, by rw [Heap.put_ne hne]; exact hx, by rw [Heap.put_ne hne]; exact none_of_le hB q3, q4⟩
def xl : AV → Nat
  | .ref _ _ _ n _ => n
  | .imm n _ _ => n
  | _ => 0
theorem neq_nil {H : Heap} {v : AV} {l : List Int} (h : Reads H v l) (hne : l ≠ []) : binF Tryd.prog .neq 23 v .nils = some (.bool true) := by
  have h1 : ∃ e, Tryd.prog.underlying 23 = some (.slice e) := ⟨3, by kernel_rfl⟩
  obtain ⟨e, h1⟩ := h1
  cases v <;> simp only [Reads] at h <;> try exact h.elim
  · exact absurd h hne
  · obtain ⟨_, rfl⟩ := h
    cases l with
    | nil => exact absurd rfl hne
    | cons a l => simp [binF, eqF, h1, ints]
  · simp [binF, eqF, h1]
theorem neq_nil_nil : binF Tryd.prog .neq 23 .nils .nils = some (.bool false) := by
  obtain ⟨e, h1⟩ : ∃ e, Tryd.prog.underlying 23 = some (.slice e) := ⟨3, by kernel_rfl⟩
  simp [binF, eqF, h1]
/-- Where the splitting stands. -/
def SI (H : Heap) (bo : Nat) (cells : List AV) (n F : Nat) (t : Tb) (L : List AV) (H' : Heap) : Prop := ∃ (done : List (List Nat × Int)) (left : Tb) (f : Nat) (X : AV) (B : Heap),
  eqt L [X, firstV left, .int .i64 (firstL left)] ∧ chkT left = 0 ∧ left.length = n ∧ tsum left ≤ f ∧ done.length + f = F ∧ done ++ splitF f left = splitF F t ∧ Grow 2 H B X done.length (done.flatMap shC) ∧ PT B H' bo cells left ∧ (X = .nils ∨ isOwn X)
/-- Split: shares and error -/
theorem c38 {v : AV} {t : Tbl} {H : Heap} {K : AV → Heap → Prop} (hv : RT H v t) (hl : t.length < 2 ^ 63) (hl2 : ∀ l ∈ t, l.length < 2 ^ 63)
    (hk : K (.tup [.imm (if (evenE t).2 ≠ 0 then [] else splitS t).length false ((if (evenE t).2 ≠ 0 then [] else splitS t).flatMap shC), .int .i64 (evenE t).2]) H) : ACalls Tryd.prog 38 [v] H K := by
  apply W38_ok
  unfold W38
  try simp only [letO_some, cellsOf?_agg, cellsOf?_int, cellsOf?_bool, cellsOf?_imm, cellsOf?_ref, cellsOf?_nils, faddr_iptr, faddr_ptr, List.drop_succ_cons, List.drop_zero, List.take_succ_cons, List.take_zero, load1_iptr, loadN_iptr, List.length_cons, List.length_nil, Nat.le_refl, if_true, List.getElem?_cons_zero, List.getElem?_cons_succ, List.getD_cons_zero, List.getD_cons_succ, extrF_tup, binF_add, binF_sub, binF_mul, binF_eql, binF_neq, binF_lss, binF_leq, binF_gtr, binF_geq, true_and]
  refine c18 hv hl hl2 ?_
  try simp only [letO_some, cellsOf?_agg, cellsOf?_int, cellsOf?_bool, cellsOf?_imm, cellsOf?_ref, cellsOf?_nils, faddr_iptr, faddr_ptr, List.drop_succ_cons, List.drop_zero, List.take_succ_cons, List.take_zero, load1_iptr, loadN_iptr, List.length_cons, List.length_nil, Nat.le_refl, if_true, List.getElem?_cons_zero, List.getElem?_cons_succ, List.getD_cons_zero, List.getD_cons_succ, extrF_tup, binF_add, binF_sub, binF_mul, binF_eql, binF_neq, binF_lss, binF_leq, binF_gtr, binF_geq, true_and]
  by_cases he : (evenE t).2 = 0
  · have e1 : ((evenE t).2 != 0) = false := by rw [he]; rfl
    simp only [e1, condA_ff]
    rw [if_neg (by simp [he]), he] at hk
    have hc : chkT t = 0 := by
      unfold evenE at he
      split at he
      · exact he
      · rename_i h; exact Decidable.not_not.1 h
    obtain ⟨n1, n2, hrows⟩ := chkT_ok hc
    refine c90 hv (by omega) n1 (fun l hl => ⟨by rintro rfl; have := (hrows _ hl).1; simp at this; omega, by have := (hrows _ hl).1; omega⟩) fun bo cells H2 hP => ?_
    try simp only [letO_some]
    refine c73 hc (hP.rt none) ?_
    try simp only [letO_some, cellsOf?_agg, cellsOf?_int, cellsOf?_bool, cellsOf?_imm, cellsOf?_ref, cellsOf?_nils, faddr_iptr, faddr_ptr, List.drop_succ_cons, List.drop_zero, List.take_succ_cons, List.take_zero, load1_iptr, loadN_iptr, List.length_cons, List.length_nil, Nat.le_refl, if_true, List.getElem?_cons_zero, List.getElem?_cons_succ, List.getD_cons_zero, List.getD_cons_succ, extrF_tup, binF_add, binF_sub, binF_mul, binF_eql, binF_neq, binF_lss, binF_leq, binF_gtr, binF_geq, true_and]
    have htr := tsum_rng hc
    generalize hF : (tsum t).toNat = F at *
    have hsp : splitS t = splitF F t := by rw [splitS, hF]
    rw [hsp] at hk
    refine ⟨fun L H' => SI H bo cells t.length F t L H', fun L _ => F - xl (L.getD 0 .any), ⟨[], t, F, .nils, H, rfl, hc, rfl, by omega, by simp, rfl, Grow.nils 2 H, hP, .inl rfl⟩, ?_⟩
    rintro L H' ⟨done, left, f, X, B, rfl, hcl, hll, hts, hdf, hdone, hg, hPl, hX⟩
    try simp only [letO_some, cellsOf?_agg, cellsOf?_int, cellsOf?_bool, cellsOf?_imm, cellsOf?_ref, cellsOf?_nils, faddr_iptr, faddr_ptr, List.drop_succ_cons, List.drop_zero, List.take_succ_cons, List.take_zero, load1_iptr, loadN_iptr, List.length_cons, List.length_nil, Nat.le_refl, if_true, List.getElem?_cons_zero, List.getElem?_cons_succ, List.getD_cons_zero, List.getD_cons_succ, extrF_tup, binF_add, binF_sub, binF_mul, binF_eql, binF_neq, binF_lss, binF_leq, binF_gtr, binF_geq, true_and]
    have hdl : done.length ≤ 144 := by omega
    cases hw : wkAll left with
    | nil =>
      have hfv : firstV left = .nils := by rw [firstV, hw]
      have hnil : splitF f left = [] := by cases f with
        | zero => rfl
        | succ f => rw [splitF, hw]
      rw [hnil, List.append_nil] at hdone
      subst hdone
      simp only [hfv, neq_nil_nil, letO_some, condA_ff]
      exact endK_pub (Pub.drop hPl.le) (hg.end2 hk)
    | cons x r =>
      have hxm : x ∈ wkAll left := by rw [hw]; simp
      obtain ⟨o1, o2, o3, o4, o5⟩ := first_ok hcl hxm
      have hfv : firstV left = sl (up x.1) := by rw [firstV, hw]
      have hfl : firstL left = x.2.2 := by rw [firstL, hw]
      have hxne : up x.1 ≠ [] := by
        intro h
        have := congrArg List.length h
        rw [up_length, o1] at this
        simp at this; rw [this] at hll; simp at hll; omega
      have hsum := takeT_sum (x := x.2.2) o5
      rw [up_length, o1] at hsum
      have hmul : (1 : Int) ≤ (left.length : Int) * x.2.2 := by
        have : (1 : Int) * 1 ≤ (left.length : Int) * x.2.2 := Int.mul_le_mul (by omega) o2 (by omega) (by omega)
        omega
      have hts2 := (tsum_rng (chk_take hcl hxm)).1
      obtain ⟨f, rfl⟩ : ∃ g, f = g + 1 := ⟨f - 1, by omega⟩
      rw [splitF, hw] at hdone
      simp only [hfv, hfl, neq_nil (Reads.sl H' (up x.1)) hxne, b49 (show cellsOf? (sl (up x.1)) = some [sl (up x.1)] from rfl) cellsOf?_int, l42, letO_some, condA_tt]
      -- the memory without the shares
      obtain ⟨Hl, hgl, hHl, hol, hrl⟩ : ∃ Hl : Heap, Grow 2 Hl H' X done.length (done.flatMap shC) ∧ H.le Hl ∧ Hl bo = some cells ∧ ∀ b' c', H' b' = some c' → B b' = none → Hl b' = some c' := by
        rcases hX with rfl | ho
        · have hd0 : done = [] ∧ B = H := by
            rcases hg.2 with ⟨_, h1, h2⟩ | ⟨h1, _⟩ | ⟨b, _, h1, _⟩
            · exact ⟨List.eq_nil_of_length_eq_zero h1, h2⟩
            · cases h1
            · cases h1
          obtain ⟨rfl, rfl⟩ := hd0
          exact ⟨H', Grow.nils 2 H', hPl.le, hPl.out, fun _ _ h _ => h⟩
        · obtain ⟨bx, hbx, rfl, rfl⟩ := hg.own ho
          have hbx' : H' bx = some (done.flatMap shC) := hPl.le _ _ Heap.put_same
          have hne : bo ≠ bx := by rintro rfl; have := hPl.fo; rw [Heap.put_same] at this; cases this
          refine ⟨H'.del bx, ?_, fun z c hz => ?_, ?_, fun b' c' h1 h2 => ?_⟩
          · have := Grow.ref (sz := 2) (H := H'.del bx) (b := bx) (n := done.length) (cells := done.flatMap shC) (by simp [Heap.del]) hg.1
            rwa [Heap.del_put, show H'.put bx (done.flatMap shC) = H' from by
              funext y
              simp only [Heap.put]
              split
              · rename_i e; rw [e, hbx']
              · rfl] at this
          · have : z ≠ bx := by rintro rfl; rw [hbx] at hz; cases hz
            simp only [Heap.del, if_neg this]
            exact hPl.le _ _ (by rw [Heap.put_ne this]; exact hz)
          · simp only [Heap.del, if_neg hne]; exact hPl.out
          · have : b' ≠ bx := by rintro rfl; rw [Heap.put_same] at h2; cases h2
            simp only [Heap.del, if_neg this]; exact h1
      refine appendA_growR hgl (m := 1) (new := [sl (up x.1), .int .i64 x.2.2]) (by simp [srcOf]) rfl rfl (by omega) (by omega) (by omega) fun v' H7 hg7 ho7 => ?_
      obtain ⟨b7, hb7, rfl, rfl⟩ := hg7.own ho7
      have hcs : done.flatMap shC ++ [sl (up x.1), .int .i64 x.2.2] = (done ++ [(x.1, x.2.2)]).flatMap shC := by simp [shC]
      rw [hcs] at hg7
      rw [hcs]
      have hP7 := PT.rebase (c := (done ++ [(x.1, x.2.2)]).flatMap shC) hPl hg.le hHl hol hrl hb7
      have hg8 : Grow 2 H (H.put b7 ((done ++ [(x.1, x.2.2)]).flatMap shC)) (.ref 2 b7 0 (done.length + 1) none) (done ++ [(x.1, x.2.2)]).length ((done ++ [(x.1, x.2.2)]).flatMap shC) := by
        have := Grow.ref (sz := 2) (H := H) (b := b7) (n := (done ++ [(x.1, x.2.2)]).length) (cells := (done ++ [(x.1, x.2.2)]).flatMap shC) (none_of_le hHl hb7) (rows_len shC_len _)
        simpa using this
      try simp only [letO_some]
      refine c91 hP7 hll.symm (Reads.sl _ _) o5.1 o5.2 (fun r c => by have := cell_rng hcl r c; omega) (by omega) (by omega) fun H8 hP8 => ?_
      try simp only [letO_some]
      have hck := chk_take hcl hxm
      have hrt := hP8.rt none
      rw [takeT_length, hll] at hrt
      refine c73 hck hrt ?_
      try simp only [letO_some, cellsOf?_agg, cellsOf?_int, cellsOf?_bool, cellsOf?_imm, cellsOf?_ref, cellsOf?_nils, faddr_iptr, faddr_ptr, List.drop_succ_cons, List.drop_zero, List.take_succ_cons, List.take_zero, load1_iptr, loadN_iptr, List.length_cons, List.length_nil, Nat.le_refl, if_true, List.getElem?_cons_zero, List.getElem?_cons_succ, List.getD_cons_zero, List.getD_cons_succ, extrF_tup, binF_add, binF_sub, binF_mul, binF_eql, binF_neq, binF_lss, binF_leq, binF_gtr, binF_geq, true_and]
      refine ⟨⟨done ++ [(x.1, x.2.2)], takeT left (up x.1) x.2.2, f, .ref 2 b7 0 (done.length + 1) none, _, rfl, hck, by rw [takeT_length]; exact hll, by omega, by simp; omega, by rw [← hdone]; simp, hg8, hP8, .inr trivial⟩, ?_⟩
      have hxl : xl X = done.length := by
        rcases hX with rfl | ho
        · rcases hg.2 with ⟨_, h1, h2⟩ | ⟨h1, _⟩ | ⟨b, _, h1, _⟩
          · exact h1.symm
          · cases h1
          · cases h1
        · obtain ⟨bx, hbx, rfl, rfl⟩ := hg.own ho
          rfl
      show F - (done.length + 1) < F - xl X
      rw [hxl]
      omega
  · have e1 : ((evenE t).2 != 0) = true := by rw [bne_iff_ne]; exact he
    simp only [e1, condA_tt]
    rw [if_pos he] at hk
    exact endK_weak (endK_ret hk)
end Go.Proofs.YtbofkeoebnjjkaaDoor

namespace Go.Proofs.YtbofkeoebnjjkaaDoor
open Go.Av Tab
set_option linter.unusedVariables false
set_option linter.unusedSimpArgs false
set_option maxRecDepth 4000

/-- A new row is laid where there was none. -/
theorem PT.fresh {H0 H : Heap} {bo b r : Nat} {cells : List AV} {t : Tbl} {l : List Int} {cp : Option Nat} (h : PT H0 H bo cells t) (hr : r < t.length) (hb : H b = none) :
    PT H0 ((H.put b (ints l)).put bo (cells.set r (.ref 1 b 0 l.length cp))) bo (cells.set r (.ref 1 b 0 l.length cp)) (t.set r l) := by
  have hb0 : H0 b = none := none_of_le h.le hb
  have hbo : b ≠ bo := by rintro rfl; rw [h.out] at hb; cases hb
  have hrc : r < cells.length := by rw [h.len]; exact hr
  have hrow : ∀ k, k < t.length → ∀ b2 n cp, cells[k]? = some (AV.ref 1 b2 0 n cp) → b2 ≠ b := by
    intro k hk b2 n cp h2
    rcases h.row k hk with ⟨h3, _⟩ | ⟨b3, cp3, q1, q2, _⟩
    · rw [h3] at h2; cases h2
    · rw [q1] at h2
      cases h2
      rintro rfl
      rw [q2] at hb; cases hb
  refine ⟨fun z w hz => ?_, h.fo, Heap.put_same, by simp [h.len], fun k hk => ?_, fun j k bj bk nj nk cj ck hjk hj hk => ?_⟩
  · have z1 : z ≠ b := by rintro rfl; rw [hb0] at hz; cases hz
    have z2 : z ≠ bo := by rintro rfl; rw [h.fo] at hz; cases hz
    rw [Heap.put_ne z2, Heap.put_ne z1]; exact h.le _ _ hz
  · rw [List.length_set] at hk
    rw [getT_set hr]
    by_cases hkr : k = r
    · subst hkr
      right
      exact ⟨b, cp, by rw [if_pos rfl]; simp [hrc], by rw [if_pos rfl, Heap.put_ne hbo]; exact Heap.put_same, hb0, hbo⟩
    · rw [if_neg hkr, List.getElem?_set_ne (Ne.symm hkr)]
      rcases h.row k hk with h1 | ⟨b2, cp2, q1, q2, q3, q4⟩
      · exact .inl h1
      · right
        exact ⟨b2, cp2, q1, by rw [Heap.put_ne q4, Heap.put_ne (hrow k hk _ _ _ q1)]; exact q2, q3, q4⟩
  · have lt : ∀ {k : Nat} {x : AV}, cells[k]? = some x → k < t.length := fun {k x} hx => by
      have := (List.getElem?_eq_some_iff.1 hx).1
      rw [← h.len]; exact this
    by_cases hjr : j = r
    · subst hjr
      rw [List.getElem?_set_ne hjk] at hk
      simp [hrc] at hj
      obtain ⟨rfl, _⟩ := hj
      exact Ne.symm (hrow k (lt hk) _ _ _ hk)
    · rw [List.getElem?_set_ne (Ne.symm hjr)] at hj
      by_cases hkr : k = r
      · subst hkr
        simp [hrc] at hk
        obtain ⟨rfl, _⟩ := hk
        exact hrow j (lt hj) _ _ _ hj
      · rw [List.getElem?_set_ne (Ne.symm hkr)] at hk
        exact h.dis j k bj bk nj nk cj ck hjk hj hk
/-- A block more does no harm. -/
theorem PT.new {H0 H : Heap} {bo b : Nat} {cells c : List AV} {t : Tbl} (h : PT H0 H bo cells t) (hb : H b = none) : PT H0 (H.put b c) bo cells t := by
  have hbo : bo ≠ b := by rintro rfl; rw [h.out] at hb; cases hb
  refine ⟨Heap.le_trans h.le (Heap.le_new hb), h.fo, by rw [Heap.put_ne hbo]; exact h.out, h.len, fun k hk => ?_, h.dis⟩
  rcases h.row k hk with h1 | ⟨b2, cp2, q1, q2, q3, q4⟩
  · exact .inl h1
  · have : b2 ≠ b := by rintro rfl; rw [q2] at hb; cases hb
    exact .inr ⟨b2, cp2, q1, by rw [Heap.put_ne this]; exact q2, q3, q4⟩
def zeroT (n : Nat) : Tb := List.replicate n (List.replicate n 0)
def zeroK (n r : Nat) : Tb := (List.range n).map fun k => if k < r then List.replicate n 0 else []
@[simp] theorem zeroK_length (n r : Nat) : (zeroK n r).length = n := by simp [zeroK]
theorem zeroK_get {n r k : Nat} (hk : k < n) : (zeroK n r).getD k [] = if k < r then List.replicate n 0 else [] := by
  simp [zeroK, List.getD_eq_getElem?_getD, hk]
theorem zeroK_step {n r : Nat} (hr : r < n) : (zeroK n r).set r (List.replicate n 0) = zeroK n (r + 1) := by
  refine ext_T (by simp) fun k hk => ?_
  simp only [List.length_set, zeroK_length] at hk
  rw [getT_set (by simpa using hr), zeroK_get hk, zeroK_get hk]
  by_cases h : k = r
  · rw [if_pos h, if_pos (by omega)]
  · rw [if_neg h]
    by_cases h2 : k < r
    · rw [if_pos h2, if_pos (by omega)]
    · rw [if_neg h2, if_neg (by omega)]
theorem zeroK_end (n : Nat) : zeroK n n = zeroT n := by
  refine ext_T (by simp [zeroT]) fun k hk => ?_
  rw [zeroK_length] at hk
  rw [zeroK_get hk, if_pos hk]
  simp [zeroT, List.getD_eq_getElem?_getD, hk]
/-- Shares as they are handed over. -/
def RS (H : Heap) (v : AV) (ss : List (List Int × Int)) : Prop := ∃ cells : List AV, ReadsC 2 H v ss.length cells ∧ ∀ i, i < ss.length → ∃ a, (cells.drop (i * 2)).take 2 = [a, .int .i64 (ss.getD i ([], 0)).2] ∧ Reads H a (ss.getD i ([], 0)).1
/-- Shares added up, one by one. -/
def sumL (n : Nat) : Tb → List (List Int × Int) → Tb × Int
  | t, [] => if chkT t ≠ 0 then ([], 15) else (t, 0)
  | t, s :: r => if planE n s.1 ≠ 0 then ([], planE n s.1) else if s.2 < 1 ∨ 36 < s.2 then ([], 1) else sumL n (takeT t s.1 (-s.2)) r
def sumE (size : Int) (ss : List (List Int × Int)) : Tb × Int := if size < 1 ∨ 4 < size then ([], 1) else if 10 < ss.length then ([], 3) else sumL size.toNat (zeroT size.toNat) ss
theorem rowOf_zero (n : Nat) : rowOf [.int .i64 0] (n * 1) = ints (List.replicate n 0) := by
  refine List.ext_getElem (by simp [rowOf]) fun k h1 h2 => ?_
  simp [rowOf, ints, Nat.mod_one]
theorem planE_ok {n : Nat} {p : List Int} (h : planE n p = 0) : p.length = n ∧ ∀ c ∈ p, 0 ≤ c ∧ c < n := by
  unfold planE at h
  split at h
  · cases h
  · exact ⟨by omega, planS_rng h⟩
/-- Sum: table and error -/
theorem c42 {size : Int} {v : AV} {ss : List (List Int × Int)} {H : Heap} {K : AV → Heap → Prop} (hv : RS H v ss) (hl : ss.length < 2 ^ 63) (hl2 : ∀ s ∈ ss, s.1.length < 2 ^ 63) (hk : K (.tup [tl (sumE size ss).1, .int .i64 (sumE size ss).2]) H) : ACalls Tryd.prog 42 [.int .i64 size, v] H K := by
  apply W42_ok
  unfold W42
  have weak : ∀ (e : Int) (H' : Heap), H.le H' → K (.tup [tl [], .int .i64 e]) H → endK (.tup [.nils, .int .i64 e]) H' K := fun e H' hle h => endK_pub (Pub.drop hle) (endK_weak (endK_ret h))
  unfold sumE at hk
  by_cases hsz : size < 1 ∨ 4 < size
  · rw [if_pos hsz] at hk
    by_cases h1 : size < 1
    · simp only [letO_some, cellsOf?_agg, cellsOf?_int, cellsOf?_bool, cellsOf?_imm, cellsOf?_ref, cellsOf?_nils, faddr_iptr, faddr_ptr, List.drop_succ_cons, List.drop_zero, List.take_succ_cons, List.take_zero, load1_iptr, loadN_iptr, List.length_cons, List.length_nil, Nat.le_refl, if_true, List.getElem?_cons_zero, List.getElem?_cons_succ, List.getD_cons_zero, List.getD_cons_succ, extrF_tup, binF_add, binF_sub, binF_mul, binF_eql, binF_neq, binF_lss, binF_leq, binF_gtr, binF_geq, true_and, h1, decide_true, gval_bool, Int.reduceBNe, Int.reduceBEq, pickF_true, pickF_false, reduceIte, Bool.true_eq_false, Bool.false_eq_true, if_false, condA_tt, condA_ff, condG_tt, condG_ff, condG_tt', condG_ff', condG_undef, gval_undef]
      exact weak _ _ (Heap.le_refl _) hk
    · have e2 : decide ((4 : Int) < size) = true := decide_eq_true (by omega)
      simp only [letO_some, cellsOf?_agg, cellsOf?_int, cellsOf?_bool, cellsOf?_imm, cellsOf?_ref, cellsOf?_nils, faddr_iptr, faddr_ptr, List.drop_succ_cons, List.drop_zero, List.take_succ_cons, List.take_zero, load1_iptr, loadN_iptr, List.length_cons, List.length_nil, Nat.le_refl, if_true, List.getElem?_cons_zero, List.getElem?_cons_succ, List.getD_cons_zero, List.getD_cons_succ, extrF_tup, binF_add, binF_sub, binF_mul, binF_eql, binF_neq, binF_lss, binF_leq, binF_gtr, binF_geq, true_and, h1, decide_false, gval_bool, Int.reduceBNe, Int.reduceBEq, pickF_true, pickF_false, reduceIte, Bool.true_eq_false, Bool.false_eq_true, if_false, condA_tt, condA_ff, condG_tt, condG_ff, condG_tt', condG_ff', condG_undef, gval_undef, e2]
      exact weak _ _ (Heap.le_refl _) hk
  rw [if_neg hsz] at hk
  have h1 : ¬ size < 1 := by omega
  have e2 : decide ((4 : Int) < size) = false := decide_eq_false (by omega)
  obtain ⟨cs, hcs, hci⟩ := hv
  simp only [letO_some, cellsOf?_agg, cellsOf?_int, cellsOf?_bool, cellsOf?_imm, cellsOf?_ref, cellsOf?_nils, faddr_iptr, faddr_ptr, List.drop_succ_cons, List.drop_zero, List.take_succ_cons, List.take_zero, load1_iptr, loadN_iptr, List.length_cons, List.length_nil, Nat.le_refl, if_true, List.getElem?_cons_zero, List.getElem?_cons_succ, List.getD_cons_zero, List.getD_cons_succ, extrF_tup, binF_add, binF_sub, binF_mul, binF_eql, binF_neq, binF_lss, binF_leq, binF_gtr, binF_geq, true_and, h1, decide_false, gval_bool, Int.reduceBNe, Int.reduceBEq, pickF_true, pickF_false, reduceIte, Bool.true_eq_false, Bool.false_eq_true, if_false, condA_tt, condA_ff, condG_tt, condG_ff, condG_tt', condG_ff', condG_undef, gval_undef, e2, hcs.len]
  refine condA_t (fun h10 => ?_) (fun h10 => ?_)
  · rw [if_pos (by omega)] at hk
    exact weak _ _ (Heap.le_refl _) hk
  rw [if_neg (by omega)] at hk
  obtain ⟨n, rfl⟩ : ∃ n : Nat, size = (n : Int) := ⟨size.toNat, by omega⟩
  rw [Int.toNat_natCast] at hk
  have hn : 1 ≤ n ∧ n ≤ 4 := by omega
  try simp only [letO_some]
  refine ⟨by omega, by omega, by omega, by omega, ?_⟩
  rw [Int.toNat_natCast, rowOf_nils]
  intro bo hbo
  have hP0 : PT H (H.put bo (List.replicate n .nils)) bo (List.replicate n .nils) (zeroK n 0) := by
    refine ⟨Heap.le_new hbo, hbo, Heap.put_same, by simp, fun k hk => .inl ?_, fun j k bj bk nj nk cj ck hjk hj hk => ?_⟩
    · rw [zeroK_length] at hk
      exact ⟨by simp [hk], by rw [zeroK_get hk, if_neg (by omega)]⟩
    · rw [List.getElem?_replicate] at hj
      split at hj <;> cases hj
  try simp only [letO_some]
  refine ⟨fun L H' => ∃ (r : Nat) (cells : List AV), eqt L [.int .i64 r] ∧ r ≤ n ∧ PT H H' bo cells (zeroK n r), fun L _ => (n - iv L 0).toNat, ⟨0, _, rfl, by omega, hP0⟩, ?_⟩
  rintro L H' ⟨r, cells, rfl, hrn, hP⟩
  try simp only [letO_some, cellsOf?_agg, cellsOf?_int, cellsOf?_bool, cellsOf?_imm, cellsOf?_ref, cellsOf?_nils, faddr_iptr, faddr_ptr, List.drop_succ_cons, List.drop_zero, List.take_succ_cons, List.take_zero, load1_iptr, loadN_iptr, List.length_cons, List.length_nil, Nat.le_refl, if_true, List.getElem?_cons_zero, List.getElem?_cons_succ, List.getD_cons_zero, List.getD_cons_succ, extrF_tup, binF_add, binF_sub, binF_mul, binF_eql, binF_neq, binF_lss, binF_leq, binF_gtr, binF_geq, true_and]
  refine condA_t (fun hlt => ?_) (fun hge => ?_)
  · have hr : r < n := by omega
    try simp only [letO_some]
    refine ⟨by omega, by omega, by omega, by omega, ?_⟩
    rw [Int.toNat_natCast, rowOf_zero]
    intro b hb
    have hbo' : b ≠ bo := by rintro rfl; rw [hP.out] at hb; cases hb
    have hF := hP.fresh (l := List.replicate n 0) (cp := some n) (by simpa using hr) hb
    rw [zeroK_step hr, List.length_replicate] at hF
    rw [idx_ref hr]
    simp only [letO_some]
    have hcl : r < cells.length := by rw [hP.len, zeroK_length]; exact hr
    refine storeA_of (cs := [.ref 1 b 0 n (some n)]) (by rw [Heap.put_ne (Ne.symm hbo')]; exact hP.out) rfl rfl rfl (by simp; omega) ?_
    rw [Nat.zero_add, Nat.mul_one, splice_set hcl]
    rw [wrap_i64 (by omega) (by omega)]
    exact ⟨⟨r + 1, _, rfl, by omega, hF⟩, by simp <;> omega⟩
  have hrn2 : r = n := by omega
  subst hrn2
  rw [zeroK_end] at hP
  try simp only [letO_some, cellsOf?_agg, cellsOf?_int, cellsOf?_bool, cellsOf?_imm, cellsOf?_ref, cellsOf?_nils, faddr_iptr, faddr_ptr, List.drop_succ_cons, List.drop_zero, List.take_succ_cons, List.take_zero, load1_iptr, loadN_iptr, List.length_cons, List.length_nil, Nat.le_refl, if_true, List.getElem?_cons_zero, List.getElem?_cons_succ, List.getD_cons_zero, List.getD_cons_succ, extrF_tup, binF_add, binF_sub, binF_mul, binF_eql, binF_neq, binF_lss, binF_leq, binF_gtr, binF_geq, true_and]
  refine ⟨fun L H'' => ∃ (i : Nat) (t : Tb) (cells : List AV), eqt L [.int .i64 i] ∧ i ≤ ss.length ∧ PT H H'' bo cells t ∧ t.length = r ∧ (∀ k, k < r → (row t k).length = r) ∧ (∀ k c, 0 ≤ cell t k c ∧ cell t k c ≤ 36 * i) ∧ sumL r (zeroT r) ss = sumL r t (ss.drop i), fun L _ => (ss.length - iv L 0).toNat,
    ⟨0, zeroT r, cells, rfl, by omega, hP, by simp [zeroT], fun k hk => by simp [row, zeroT, List.getD_eq_getElem?_getD, hk], fun k c => ?_, by simp⟩, ?_⟩
  · have : cell (zeroT r) k c = 0 := by
      unfold cell row zeroT
      rw [List.getD_eq_getElem?_getD (l := List.replicate r _), List.getElem?_replicate]
      split
      · rw [List.getD_eq_getElem?_getD, Option.getD_some, List.getElem?_replicate]
        split <;> rfl
      · rfl
    omega
  rintro L H'' ⟨i, t, cells, rfl, hi, hP, htl, hrow, hcell, hsum⟩
  try simp only [letO_some, cellsOf?_agg, cellsOf?_int, cellsOf?_bool, cellsOf?_imm, cellsOf?_ref, cellsOf?_nils, faddr_iptr, faddr_ptr, List.drop_succ_cons, List.drop_zero, List.take_succ_cons, List.take_zero, load1_iptr, loadN_iptr, List.length_cons, List.length_nil, Nat.le_refl, if_true, List.getElem?_cons_zero, List.getElem?_cons_succ, List.getD_cons_zero, List.getD_cons_succ, extrF_tup, binF_add, binF_sub, binF_mul, binF_eql, binF_neq, binF_lss, binF_leq, binF_gtr, binF_geq, true_and]
  have hs10 : ss.length ≤ 10 := by omega
  refine condA_t (fun hlt2 => ?_) (fun hge2 => ?_)
  · have hil : i < ss.length := by omega
    obtain ⟨a, ha1, ha2⟩ := hci i hil
    refine hcs.getN hP.le (by omega) (by omega) ?_
    rw [Int.toNat_natCast, ha1]
    rw [List.drop_eq_getElem_cons hil, sumL] at hsum
    have hsm : ss.getD i ([], 0) = ss[i] := by simp [List.getD_eq_getElem?_getD, hil]
    have hlp := hl2 _ (List.getElem_mem hil)
    rw [hsm] at ha2 ⊢
    generalize ss[i] = s at *
    refine alloc_store (cs := [a, .int .i64 s.2]) rfl (by simp only [List.all_cons, ha2.scalar]; rfl) rfl rfl fun b9 hb9 => ?_
    have hP9 := hP.new (c := [a, .int .i64 s.2]) hb9
    have h9 : (H''.put b9 [a, .int .i64 s.2]) b9 = some [a, .int .i64 s.2] := Heap.put_same
    generalize H''.put b9 [a, .int .i64 s.2] = H9 at *
    have l0 : load1 (.ptr b9 0) H9 = some a := load1_at h9 rfl
    have l1 : load1 (.ptr b9 (0 + 1)) H9 = some (.int .i64 s.2) := load1_at h9 rfl
    simp only [letO_some, cellsOf?_agg, cellsOf?_int, cellsOf?_bool, cellsOf?_imm, cellsOf?_ref, cellsOf?_nils, faddr_iptr, faddr_ptr, List.drop_succ_cons, List.drop_zero, List.take_succ_cons, List.take_zero, load1_iptr, loadN_iptr, List.length_cons, List.length_nil, Nat.le_refl, if_true, List.getElem?_cons_zero, List.getElem?_cons_succ, List.getD_cons_zero, List.getD_cons_succ, extrF_tup, binF_add, binF_sub, binF_mul, binF_eql, binF_neq, binF_lss, binF_leq, binF_gtr, binF_geq, true_and, l0]
    refine c79 (ha2.le hP9.le) hlp ?_
    try simp only [letO_some, cellsOf?_agg, cellsOf?_int, cellsOf?_bool, cellsOf?_imm, cellsOf?_ref, cellsOf?_nils, faddr_iptr, faddr_ptr, List.drop_succ_cons, List.drop_zero, List.take_succ_cons, List.take_zero, load1_iptr, loadN_iptr, List.length_cons, List.length_nil, Nat.le_refl, if_true, List.getElem?_cons_zero, List.getElem?_cons_succ, List.getD_cons_zero, List.getD_cons_succ, extrF_tup, binF_add, binF_sub, binF_mul, binF_eql, binF_neq, binF_lss, binF_leq, binF_gtr, binF_geq, true_and]
    by_cases hp : planE r s.1 = 0
    · have e3 : (planE r s.1 != 0) = false := by rw [hp]; rfl
      rw [if_neg (by simp [hp])] at hsum
      simp only [e3, condA_ff, letO_some, cellsOf?_agg, cellsOf?_int, cellsOf?_bool, cellsOf?_imm, cellsOf?_ref, cellsOf?_nils, faddr_iptr, faddr_ptr, List.drop_succ_cons, List.drop_zero, List.take_succ_cons, List.take_zero, load1_iptr, loadN_iptr, List.length_cons, List.length_nil, Nat.le_refl, if_true, List.getElem?_cons_zero, List.getElem?_cons_succ, List.getD_cons_zero, List.getD_cons_succ, extrF_tup, binF_add, binF_sub, binF_mul, binF_eql, binF_neq, binF_lss, binF_leq, binF_gtr, binF_geq, true_and, l1, l0]
      by_cases ht : s.2 < 1 ∨ 36 < s.2
      · rw [if_pos ht] at hsum
        rw [hsum] at hk
        by_cases ht1 : s.2 < 1
        · simp only [letO_some, cellsOf?_agg, cellsOf?_int, cellsOf?_bool, cellsOf?_imm, cellsOf?_ref, cellsOf?_nils, faddr_iptr, faddr_ptr, List.drop_succ_cons, List.drop_zero, List.take_succ_cons, List.take_zero, load1_iptr, loadN_iptr, List.length_cons, List.length_nil, Nat.le_refl, if_true, List.getElem?_cons_zero, List.getElem?_cons_succ, List.getD_cons_zero, List.getD_cons_succ, extrF_tup, binF_add, binF_sub, binF_mul, binF_eql, binF_neq, binF_lss, binF_leq, binF_gtr, binF_geq, true_and, ht1, decide_true, gval_bool, Int.reduceBNe, Int.reduceBEq, pickF_true, pickF_false, reduceIte, Bool.true_eq_false, Bool.false_eq_true, if_false, condA_tt, condA_ff, condG_tt, condG_ff, condG_tt', condG_ff', condG_undef, gval_undef]
          exact weak _ _ hP9.le hk
        · have e4 : decide ((36 : Int) < s.2) = true := decide_eq_true (by omega)
          simp only [letO_some, cellsOf?_agg, cellsOf?_int, cellsOf?_bool, cellsOf?_imm, cellsOf?_ref, cellsOf?_nils, faddr_iptr, faddr_ptr, List.drop_succ_cons, List.drop_zero, List.take_succ_cons, List.take_zero, load1_iptr, loadN_iptr, List.length_cons, List.length_nil, Nat.le_refl, if_true, List.getElem?_cons_zero, List.getElem?_cons_succ, List.getD_cons_zero, List.getD_cons_succ, extrF_tup, binF_add, binF_sub, binF_mul, binF_eql, binF_neq, binF_lss, binF_leq, binF_gtr, binF_geq, true_and, ht1, decide_false, gval_bool, Int.reduceBNe, Int.reduceBEq, pickF_true, pickF_false, reduceIte, Bool.true_eq_false, Bool.false_eq_true, if_false, condA_tt, condA_ff, condG_tt, condG_ff, condG_tt', condG_ff', condG_undef, gval_undef, l1, l0, e4]
          exact weak _ _ hP9.le hk
      · rw [if_neg ht] at hsum
        have ht1 : ¬ s.2 < 1 := by omega
        have e4 : decide ((36 : Int) < s.2) = false := decide_eq_false (by omega)
        have hneg : unF .neg (.int .i64 s.2) = some (.int .i64 (-s.2)) := by
          show some (AV.int .i64 (IntKind.i64.wrap (0 - s.2))) = _
          rw [wrap_i64 (by omega) (by omega), Int.zero_sub]
        simp only [letO_some, cellsOf?_agg, cellsOf?_int, cellsOf?_bool, cellsOf?_imm, cellsOf?_ref, cellsOf?_nils, faddr_iptr, faddr_ptr, List.drop_succ_cons, List.drop_zero, List.take_succ_cons, List.take_zero, load1_iptr, loadN_iptr, List.length_cons, List.length_nil, Nat.le_refl, if_true, List.getElem?_cons_zero, List.getElem?_cons_succ, List.getD_cons_zero, List.getD_cons_succ, extrF_tup, binF_add, binF_sub, binF_mul, binF_eql, binF_neq, binF_lss, binF_leq, binF_gtr, binF_geq, true_and, ht1, decide_false, gval_bool, Int.reduceBNe, Int.reduceBEq, pickF_true, pickF_false, reduceIte, Bool.true_eq_false, Bool.false_eq_true, if_false, condA_tt, condA_ff, condG_tt, condG_ff, condG_tt', condG_ff', condG_undef, gval_undef, l1, l0, e4, hneg]
        obtain ⟨p1, p2⟩ := planE_ok hp
        have hfit : fitP t s.1 := by
          refine ⟨by omega, fun k hk => ?_⟩
          have hm : s.1.getD k 0 ∈ s.1 := by rw [List.getD_eq_getElem?_getD]; simp [hk]
          have := p2 _ hm
          rw [hrow k (by omega)]
          omega
        refine c91 (x := -s.2) hP9 htl.symm ha2 hfit.1 hfit.2 (fun k c => by have := hcell k c; omega) (by omega) (by omega) fun H10 hP10 => ?_
        try simp only [letO_some, cellsOf?_agg, cellsOf?_int, cellsOf?_bool, cellsOf?_imm, cellsOf?_ref, cellsOf?_nils, faddr_iptr, faddr_ptr, List.drop_succ_cons, List.drop_zero, List.take_succ_cons, List.take_zero, load1_iptr, loadN_iptr, List.length_cons, List.length_nil, Nat.le_refl, if_true, List.getElem?_cons_zero, List.getElem?_cons_succ, List.getD_cons_zero, List.getD_cons_succ, extrF_tup, binF_add, binF_sub, binF_mul, binF_eql, binF_neq, binF_lss, binF_leq, binF_gtr, binF_geq, true_and]
        rw [wrap_i64 (by omega) (by omega)]
        refine ⟨⟨i + 1, _, cells, rfl, by omega, hP10, by rw [takeT_length]; exact htl, fun k hk => by rw [takeT_rowlen (by omega)]; exact hrow k hk, fun k c => ?_, hsum⟩, by simp <;> omega⟩
        have := hcell k c
        by_cases hkt : k < t.length
        · rw [takeT_cell hfit hkt]
          split <;> omega
        · have e : cell (takeT t s.1 (-s.2)) k c = 0 := by
            unfold cell row
            rw [List.getD_eq_getElem?_getD (l := takeT t s.1 (-s.2)), List.getElem?_eq_none (by rw [takeT_length]; omega)]; rfl
          omega
    · have e3 : (planE r s.1 != 0) = true := by rw [bne_iff_ne]; exact hp
      simp only [e3, condA_tt]
      rw [if_pos hp] at hsum
      rw [hsum] at hk
      exact weak _ _ hP9.le hk
  · have hie : i = ss.length := by omega
    subst hie
    rw [List.drop_length, sumL] at hsum
    try simp only [letO_some]
    have hrt := hP.rt (some r)
    rw [htl] at hrt
    refine c30 hrt (by omega) (fun l hl => by
      obtain ⟨k, hk, rfl⟩ := List.getElem_of_mem hl
      have := hrow k (by omega)
      have e : row t k = t[k] := by rw [row, List.getD_eq_getElem?_getD, List.getElem?_eq_getElem hk]; rfl
      rw [e] at this; omega) ?_
    try simp only [letO_some, cellsOf?_agg, cellsOf?_int, cellsOf?_bool, cellsOf?_imm, cellsOf?_ref, cellsOf?_nils, faddr_iptr, faddr_ptr, List.drop_succ_cons, List.drop_zero, List.take_succ_cons, List.take_zero, load1_iptr, loadN_iptr, List.length_cons, List.length_nil, Nat.le_refl, if_true, List.getElem?_cons_zero, List.getElem?_cons_succ, List.getD_cons_zero, List.getD_cons_succ, extrF_tup, binF_add, binF_sub, binF_mul, binF_eql, binF_neq, binF_lss, binF_leq, binF_gtr, binF_geq, true_and]
    by_cases hc : chkT t = 0
    · have e5 : (chkT t != 0) = false := by rw [hc]; rfl
      simp only [e5, condA_ff]
      rw [if_neg (by simp [hc])] at hsum
      rw [hsum] at hk
      refine endK_all hP.le 3 ?_
      have hpub := hP.pub (some r) 0
      rw [htl] at hpub
      show K (.tup [conv H H'' 2 (.ref 1 bo 0 r (some r)), .int .i64 0]) H
      rw [hpub]; exact hk
    · have e5 : (chkT t != 0) = true := by rw [bne_iff_ne]; exact hc
      simp only [e5, condA_tt]
      rw [if_pos hc] at hsum
      rw [hsum] at hk
      exact weak _ _ hP.le hk
end Go.Proofs.YtbofkeoebnjjkaaDoor

namespace Go.Proofs.YtbofkeoebnjjkaaDoor
open Go.Av Tab
set_option linter.unusedVariables false
set_option linter.unusedSimpArgs false
set_option maxRecDepth 4000

theorem takeT_take {t : Tb} {p : List Int} {x y : Int} (hf : fitP t p) : takeT (takeT t p x) p y = takeT t p (x + y) := by
  refine ext_T (by simp) fun r hr => ?_
  simp only [takeT_length] at hr
  show row (takeT (takeT t p x) p y) r = row (takeT t p (x + y)) r
  rw [takeT_row (by simpa using hr), takeT_row hr, takeT_row hr]
  by_cases h : r < p.length
  · rw [if_pos h, if_pos h, if_pos h, takeT_cell hf hr, if_pos ⟨h, rfl⟩, List.set_set]
    congr 1; omega
  · rw [if_neg h, if_neg h, if_neg h]
theorem set_same {l : List Int} {c : Nat} (h : c < l.length) : l.set c (l.getD c 0) = l := by
  refine List.ext_getElem (by simp) fun k h1 h2 => ?_
  rw [List.getElem_set]
  split
  · rename_i e; subst e; simp [List.getD_eq_getElem?_getD, h]
  · rfl
theorem takeT_zero {t : Tb} {p : List Int} (hf : fitP t p) : takeT t p 0 = t := by
  refine ext_T (by simp) fun r hr => ?_
  simp only [takeT_length] at hr
  show row (takeT t p 0) r = row t r
  rw [takeT_row hr]
  split
  · rename_i h
    have : cell t r (p.getD r 0).toNat - 0 = (row t r).getD (p.getD r 0).toNat 0 := by unfold cell; omega
    rw [this, set_same (hf.2 r h).2]
  · rfl
theorem fit_take {t : Tb} {p : List Int} {x : Int} (hf : fitP t p) : fitP (takeT t p x) p := by
  refine ⟨by rw [takeT_length]; exact hf.1, fun r hr => ?_⟩
  have := hf.2 r hr
  have h2 := hf.1
  rw [takeT_rowlen (by omega)]
  exact this
/-- How often a plan is there at most. -/
def mostK (t : Tb) (p : List Nat) : Nat → Int
  | 0 => 9
  | i + 1 => if cell t i (p.getD i 0) < mostK t p i then cell t i (p.getD i 0) else mostK t p i
def most (t : Tb) (p : List Nat) : Int := mostK t p p.length
theorem mostK_le {t : Tb} {p : List Nat} (hc : chkT t = 0) : ∀ i, 0 ≤ mostK t p i ∧ mostK t p i ≤ 9 ∧ ∀ j, j < i → mostK t p i ≤ cell t j (p.getD j 0)
  | 0 => ⟨by simp [mostK], by simp [mostK], fun j hj => by omega⟩
  | i + 1 => by
    obtain ⟨h1, h2, h3⟩ := mostK_le hc (p := p) i
    have hr := cell_rng hc i (p.getD i 0)
    unfold mostK
    refine ⟨by split <;> omega, by split <;> omega, fun j hj => ?_⟩
    by_cases hji : j = i
    · subst hji; split <;> omega
    · have := h3 j (by omega)
      split <;> omega
/-- In how many ways the plans of a list add up to what is left. -/
def putL : List (List Nat) → Tb → Int → Int
  | [], _, s => if s = 0 then 1 else 0
  | p :: rest, t, s => if s = 0 then 1 else putL rest t s + ((List.range (most t p).toNat).map fun (k : Nat) => putL rest (takeT t (up p) ((k : Int) + 1)) (s - k - 1)).sum
def putK (rest : List (List Nat)) (p : List Nat) (t : Tb) (s : Int) (k : Nat) : Int := putL rest t s + ((List.range k).map fun (j : Nat) => putL rest (takeT t (up p) ((j : Int) + 1)) (s - j - 1)).sum
theorem putK_succ {rest : List (List Nat)} {p : List Nat} {t : Tb} {s : Int} {k : Nat} : putK rest p t s (k + 1) = putK rest p t s k + putL rest (takeT t (up p) ((k : Int) + 1)) (s - k - 1) := by
  unfold putK
  rw [List.range_succ, List.map_append, List.sum_append]
  simp [Int.add_assoc]
def hP (a : Nat) (x : Int) : Int := if x < 0 then 0 else ((a ^ x.toNat : Nat) : Int)
def gS (a : Nat) : Nat → Nat
  | 0 => 1
  | s + 1 => a ^ (s + 1) + gS a s
def gP (a : Nat) (x : Int) : Int := if x < 0 then 0 else ((gS a x.toNat : Nat) : Int)
theorem gS_le {a : Nat} (ha : 1 ≤ a) : ∀ s, gS a s ≤ (a + 1) ^ s
  | 0 => by simp [gS]
  | s + 1 => by
    have ih := gS_le ha s
    have h1 : ∀ s, gS a (s + 1) = a * gS a s + 1 := by
      intro s
      induction s with
      | zero => simp [gS]
      | succ s ih =>
        have e : gS a (s + 1) = a ^ (s + 1) + gS a s := rfl
        have e2 : a * gS a (s + 1) = a ^ (s + 1 + 1) + a * gS a s := by rw [e, Nat.mul_add, Nat.pow_succ a (s + 1), Nat.mul_comm (a ^ (s + 1)) a]
        show a ^ (s + 1 + 1) + gS a (s + 1) = a * gS a (s + 1) + 1
        omega
    rw [h1]
    have e : (a + 1) ^ (s + 1) = a * (a + 1) ^ s + (a + 1) ^ s := by rw [Nat.pow_succ, Nat.mul_add, Nat.mul_one, Nat.mul_comm]
    have h2 : a * gS a s ≤ a * (a + 1) ^ s := Nat.mul_le_mul_left a ih
    have h3 : 1 ≤ (a + 1) ^ s := Nat.pow_pos (by omega)
    omega
theorem hP_nn (a : Nat) (x : Int) : 0 ≤ hP a x := by unfold hP; split <;> omega
theorem sum_hP {a : Nat} : ∀ (k : Nat) (x : Int), ((List.range k).map fun (j : Nat) => hP a (x - (j : Int))).sum ≤ gP a x
  | 0, x => by
    simp [gP]
    split <;> omega
  | k + 1, x => by
    have ih := sum_hP (a := a) k (x - 1)
    rw [List.range_succ_eq_map, List.map_cons, List.map_map, List.sum_cons]
    have e : ((List.range k).map ((fun j : Nat => hP a (x - (j : Int))) ∘ Nat.succ)) = (List.range k).map fun (j : Nat) => hP a (x - 1 - (j : Int)) := by
      refine List.map_congr_left fun j _ => ?_
      simp only [Function.comp]
      congr 1; omega
    rw [e]
    have hx : hP a (x - ((0 : Nat) : Int)) + gP a (x - 1) ≤ gP a x := by
      unfold hP gP
      by_cases h : x < 0
      · rw [if_pos (by omega), if_pos (by omega), if_pos h]; omega
      · rw [if_neg (by omega), if_neg h]
        obtain ⟨m, rfl⟩ : ∃ m : Nat, x = (m : Int) := ⟨x.toNat, by omega⟩
        cases m with
        | zero => rw [if_pos (by omega)]; simp [gS]
        | succ m =>
          rw [if_neg (by omega)]
          have e1 : ((m + 1 : Nat) : Int).toNat = m + 1 := by omega
          have e2 : (((m + 1 : Nat) : Int) - 1).toNat = m := by omega
          have e3 : (((m + 1 : Nat) : Int) - ((0 : Nat) : Int)).toNat = m + 1 := by omega
          rw [e1, e2, e3, gS]
          omega
    omega
theorem sum_le_sum {α : Type} {l : List α} {f g : α → Int} (h : ∀ x ∈ l, f x ≤ g x) : (l.map f).sum ≤ (l.map g).sum := by
  induction l with
  | nil => simp
  | cons a l ih =>
    have h1 := h a (by simp)
    have h2 := ih fun x hx => h x (by simp [hx])
    simp only [List.map_cons, List.sum_cons]; omega
theorem sum_nn {α : Type} {l : List α} {f : α → Int} (h : ∀ x ∈ l, 0 ≤ f x) : 0 ≤ (l.map f).sum := by
  induction l with
  | nil => simp
  | cons a l ih =>
    have h1 := h a (by simp)
    have h2 := ih fun x hx => h x (by simp [hx])
    simp only [List.map_cons, List.sum_cons]; omega
theorem putL_bd : ∀ (l : List (List Nat)) (t : Tb) (s : Int), 0 ≤ putL l t s ∧ putL l t s ≤ hP (l.length + 1) s
  | [], t, s => by
    unfold putL hP
    by_cases h : s = 0
    · subst h; simp
    · rw [if_neg h]
      split
      · omega
      · omega
  | p :: rest, t, s => by
    have hb : ∀ k, 0 ≤ putK rest p t s k ∧ putK rest p t s k ≤ hP (rest.length + 1) s + gP (rest.length + 1) (s - 1) := by
      intro k
      have h1 := putL_bd rest t s
      have h2 : 0 ≤ ((List.range k).map fun (j : Nat) => putL rest (takeT t (up p) ((j : Int) + 1)) (s - (j : Int) - 1)).sum := sum_nn fun j _ => (putL_bd rest _ _).1
      have h3 : ((List.range k).map fun (j : Nat) => putL rest (takeT t (up p) ((j : Int) + 1)) (s - (j : Int) - 1)).sum ≤ ((List.range k).map fun (j : Nat) => hP (rest.length + 1) (s - 1 - (j : Int))).sum :=
        sum_le_sum fun j _ => by
          have := (putL_bd rest (takeT t (up p) ((j : Int) + 1)) (s - (j : Int) - 1)).2
          rwa [show s - 1 - (j : Int) = s - (j : Int) - 1 by omega]
      have h4 := sum_hP (a := rest.length + 1) k (s - 1)
      unfold putK
      omega
    have hG : hP (rest.length + 1) s + gP (rest.length + 1) (s - 1) ≤ hP ((p :: rest).length + 1) s := by
      unfold hP gP
      by_cases h : s < 0
      · rw [if_pos h, if_pos (by omega), if_pos h]; omega
      · rw [if_neg h, if_neg h]
        obtain ⟨m, rfl⟩ : ∃ m : Nat, s = (m : Int) := ⟨s.toNat, by omega⟩
        cases m with
        | zero => rw [if_pos (by omega)]; simp
        | succ m =>
          rw [if_neg (by omega)]
          have e1 : ((m + 1 : Nat) : Int).toNat = m + 1 := by omega
          have e2 : (((m + 1 : Nat) : Int) - 1).toNat = m := by omega
          rw [e1, e2, List.length_cons]
          have := gS_le (a := rest.length + 1) (by omega) (m + 1)
          rw [gS] at this
          omega
    unfold putL
    split
    · rename_i h; subst h; unfold hP; simp
    · have := hb (most t p).toNat
      unfold putK at this
      omega
theorem putK_bd (rest : List (List Nat)) (p : List Nat) (t : Tb) (s : Int) (k : Nat) : 0 ≤ putK rest p t s k ∧ putK rest p t s k ≤ hP (rest.length + 1 + 1) s := by
  have h1 := putL_bd rest t s
  have h2 : 0 ≤ ((List.range k).map fun (j : Nat) => putL rest (takeT t (up p) ((j : Int) + 1)) (s - (j : Int) - 1)).sum := sum_nn fun j _ => (putL_bd rest _ _).1
  have h3 : ((List.range k).map fun (j : Nat) => putL rest (takeT t (up p) ((j : Int) + 1)) (s - (j : Int) - 1)).sum ≤ ((List.range k).map fun (j : Nat) => hP (rest.length + 1) (s - 1 - (j : Int))).sum :=
    sum_le_sum fun j _ => by
      have := (putL_bd rest (takeT t (up p) ((j : Int) + 1)) (s - (j : Int) - 1)).2
      rwa [show s - 1 - (j : Int) = s - (j : Int) - 1 by omega]
  have h4 := sum_hP (a := rest.length + 1) k (s - 1)
  have hG : hP (rest.length + 1) s + gP (rest.length + 1) (s - 1) ≤ hP (rest.length + 1 + 1) s := by
    unfold hP gP
    by_cases h : s < 0
    · rw [if_pos h, if_pos (by omega), if_pos h]; omega
    · rw [if_neg h, if_neg h]
      obtain ⟨m, rfl⟩ : ∃ m : Nat, s = (m : Int) := ⟨s.toNat, by omega⟩
      cases m with
      | zero => rw [if_pos (by omega)]; simp
      | succ m =>
        rw [if_neg (by omega)]
        have e1 : ((m + 1 : Nat) : Int).toNat = m + 1 := by omega
        have e2 : (((m + 1 : Nat) : Int) - 1).toNat = m := by omega
        rw [e1, e2]
        have := gS_le (a := rest.length + 1) (by omega) (m + 1)
        rw [gS] at this
        omega
  unfold putK
  omega
theorem hP_num {a : Nat} {s : Int} (ha : 1 ≤ a ∧ a ≤ 300) (hs : s ≤ 6) : hP a s ≤ 1000000000000000 := by
  unfold hP
  split
  · omega
  · have h1 : a ^ s.toNat ≤ 300 ^ 6 := Nat.le_trans (Nat.pow_le_pow_left ha.2 _) (Nat.pow_le_pow_right (by omega) (by omega))
    have e : 300 ^ 6 = 729000000000000 := by decide
    omega
end Go.Proofs.YtbofkeoebnjjkaaDoor

namespace Go.Proofs.YtbofkeoebnjjkaaDoor
open Go.Av Tab
set_option linter.unusedVariables false
set_option linter.unusedSimpArgs false
set_option maxRecDepth 4000

theorem chk_take2 {t : Tb} {p : List Nat} {x : Int} (hc : chkT t = 0) (hp : p.length = t.length) (hf : fitP t (up p)) (hx : 0 ≤ x ∧ x ≤ most t p) : chkT (takeT t (up p) x) = 0 := by
  obtain ⟨n1, n2, hrows⟩ := chkT_ok hc
  obtain ⟨h1, h2, h3⟩ := mostK_le hc (p := p) p.length
  refine chkT_mk (by simpa using n1) (by simpa using n2) (fun r hr => ?_) (fun r c hr => ?_)
  · rw [takeT_length] at hr ⊢
    rw [takeT_rowlen hr]; exact row_len hc hr
  · rw [takeT_length] at hr
    rw [takeT_cell hf hr]
    have hcc := cell_rng hc r c
    split
    · rename_i hh
      rw [up_getD, Int.toNat_natCast] at hh
      have := h3 r (by omega)
      rw [← hh.2] at this
      unfold most at hx
      omega
    · exact hcc
/-- the closure of Splits -/
theorem c95 {B : Heap} {bo : Nat} {cells : List AV} {b6 b7 b8 n : Nat} {All : List (List Nat)} {A : AV} (h6 : B b6 = some [A]) (hA : ReadsC 1 B A All.length (All.map fun p => sl (up p))) (h7 : B b7 = some [.ref 1 bo 0 n none])
    (h8 : B b8 = some [.fn 95 [.ptr b6 0, .ptr b8 0, .ptr b7 0]]) (hAl : All.length ≤ 256) (hp : ∀ p ∈ All, p.length = n ∧ ∀ r, r < n → p.getD r 0 < n) :
    ∀ (rest : List (List Nat)) (i : Nat) (left : Tb) (s : Int) (H : Heap) (K : AV → Heap → Prop), All.drop i = rest → i ≤ All.length → chkT left = 0 → left.length = n → -1000000 + 10 * (rest.length : Int) ≤ s → s ≤ 6 → PT B H bo cells left →
      (∀ H', PT B H' bo cells left → K (.int .i64 (putL rest left s)) H') → ACalls Tryd.prog 95 [.int .i64 i, .int .i64 s, .ptr b6 0, .ptr b8 0, .ptr b7 0] H K := by
  intro rest
  induction rest with
  | nil =>
    intro i left s H K hd hi hc hll hs1 hs2 hP hk
    apply W95_ok
    unfold W95
    have hie : i = All.length := by
      have := congrArg List.length hd
      simp at this; omega
    subst hie
    have l6 : load1 (.ptr b6 0) H = some A := load_cell (hP.le _ _ h6)
    simp only [letO_some, cellsOf?_agg, cellsOf?_int, cellsOf?_bool, cellsOf?_imm, cellsOf?_ref, cellsOf?_nils, faddr_iptr, faddr_ptr, List.drop_succ_cons, List.drop_zero, List.take_succ_cons, List.take_zero, load1_iptr, loadN_iptr, List.length_cons, List.length_nil, Nat.le_refl, if_true, List.getElem?_cons_zero, List.getElem?_cons_succ, List.getD_cons_zero, List.getD_cons_succ, extrF_tup, binF_add, binF_sub, binF_mul, binF_eql, binF_neq, binF_lss, binF_leq, binF_gtr, binF_geq, true_and, l6, hA.len]
    by_cases h0 : s = 0
    · have e : (s == 0) = true := by rw [h0]; rfl
      simp only [e, condA_tt]
      have := hk _ hP
      rw [putL, if_pos h0] at this
      exact endK_ret this
    · have e : (s == 0) = false := by rw [beq_eq_false_iff_ne]; exact h0
      simp only [e, condA_ff, beq_self_eq_true, condA_tt]
      have := hk _ hP
      rw [putL, if_neg h0] at this
      exact endK_ret this
  | cons p rest ih =>
    intro i left s H K hd hi hc hll hs1 hs2 hP hk
    apply W95_ok
    unfold W95
    have hil : i < All.length := by
      have := congrArg List.length hd
      simp at this; omega
    rw [List.drop_eq_getElem_cons hil] at hd
    obtain ⟨hpi, hrest⟩ := List.cons.inj hd
    have hpm : p ∈ All := by rw [← hpi]; exact List.getElem_mem hil
    have hpx : (All.map fun p => sl (up p))[i]? = some (sl (up p)) := by rw [List.getElem?_map, List.getElem?_eq_getElem hil, hpi]; rfl
    obtain ⟨hpl, hpr⟩ := hp p hpm
    obtain ⟨n1, n2, hrows⟩ := chkT_ok hc
    have hrl : rest.length ≤ 256 := by
      have := congrArg List.length hrest
      rw [List.length_drop] at this; omega
    have l6 : ∀ {H : Heap}, B.le H → load1 (.ptr b6 0) H = some A := fun h => load_cell (h _ _ h6)
    have l7 : ∀ {H : Heap}, B.le H → load1 (.ptr b7 0) H = some (.ref 1 bo 0 n none) := fun h => load_cell (h _ _ h7)
    have l8 : ∀ {H : Heap}, B.le H → load1 (.ptr b8 0) H = some (.fn 95 [.ptr b6 0, .ptr b8 0, .ptr b7 0]) := fun h => load_cell (h _ _ h8)
    have hfit : fitP left (up p) := by
      refine ⟨by rw [up_length]; omega, fun r hr => ?_⟩
      rw [up_length, hpl] at hr
      rw [up_getD, Int.toNat_natCast, row_len hc (by omega)]
      have := hpr r hr
      omega
    simp only [letO_some, cellsOf?_agg, cellsOf?_int, cellsOf?_bool, cellsOf?_imm, cellsOf?_ref, cellsOf?_nils, faddr_iptr, faddr_ptr, List.drop_succ_cons, List.drop_zero, List.take_succ_cons, List.take_zero, load1_iptr, loadN_iptr, List.length_cons, List.length_nil, Nat.le_refl, if_true, List.getElem?_cons_zero, List.getElem?_cons_succ, List.getD_cons_zero, List.getD_cons_succ, extrF_tup, binF_add, binF_sub, binF_mul, binF_eql, binF_neq, binF_lss, binF_leq, binF_gtr, binF_geq, true_and, l6 hP.le, l8 hP.le, hA.len]
    by_cases h0 : s = 0
    · have e : (s == 0) = true := by rw [h0]; rfl
      simp only [e, condA_tt]
      have := hk _ hP
      rw [putL, if_pos h0] at this
      exact endK_ret this
    have e : (s == 0) = false := by rw [beq_eq_false_iff_ne]; exact h0
    have e2 : ((i : Int) == (All.length : Int)) = false := by rw [beq_eq_false_iff_ne]; omega
    simp only [e, condA_ff, e2]
    rw [wrap_i64 (by omega) (by omega), show ((i : Int) + 1) = ((i + 1 : Nat) : Int) by omega]
    rw [List.length_cons] at hs1
    simp only [callA_fn, List.cons_append, List.nil_append]
    refine ih (i + 1) left s H _ hrest (by omega) hc hll (by omega) hs2 hP fun H1 hP1 => ?_
    simp only [letO_some, cellsOf?_agg, cellsOf?_int, cellsOf?_bool, cellsOf?_imm, cellsOf?_ref, cellsOf?_nils, faddr_iptr, faddr_ptr, List.drop_succ_cons, List.drop_zero, List.take_succ_cons, List.take_zero, load1_iptr, loadN_iptr, List.length_cons, List.length_nil, Nat.le_refl, if_true, List.getElem?_cons_zero, List.getElem?_cons_succ, List.getD_cons_zero, List.getD_cons_succ, extrF_tup, binF_add, binF_sub, binF_mul, binF_eql, binF_neq, binF_lss, binF_leq, binF_gtr, binF_geq, true_and, l6 hP1.le]
    refine hA.get hP1.le (by omega) (by omega) (by rw [Int.toNat_natCast]; exact hpx) ?_
    have q1 : lenA (sl (up p)) = some (.int .i64 p.length) := by simpa using (Reads.sl H1 (up p)).len
    simp only [q1, letO_some]
    -- how often it is there
    refine ⟨fun L H' => ∃ j : Nat, eqt L [.int .i64 (mostK left p j), .int .i64 j] ∧ j ≤ p.length ∧ eqt H' H1, fun L _ => (p.length - iv L 1).toNat, ⟨0, rfl, by omega, rfl⟩, ?_⟩
    rintro L H1' ⟨j, rfl, hj, rfl⟩
    try simp only [letO_some, cellsOf?_agg, cellsOf?_int, cellsOf?_bool, cellsOf?_imm, cellsOf?_ref, cellsOf?_nils, faddr_iptr, faddr_ptr, List.drop_succ_cons, List.drop_zero, List.take_succ_cons, List.take_zero, load1_iptr, loadN_iptr, List.length_cons, List.length_nil, Nat.le_refl, if_true, List.getElem?_cons_zero, List.getElem?_cons_succ, List.getD_cons_zero, List.getD_cons_succ, extrF_tup, binF_add, binF_sub, binF_mul, binF_eql, binF_neq, binF_lss, binF_leq, binF_gtr, binF_geq, true_and]
    refine condA_t (fun hlt => ?_) (fun hge => ?_)
    · have hjl : j < p.length := by omega
      refine (Reads.sl H1' (up p)).get (Heap.le_refl _) (by omega) (by rw [up_length]; omega) ?_
      rw [Int.toNat_natCast, up_getD]
      simp only [letO_some, cellsOf?_agg, cellsOf?_int, cellsOf?_bool, cellsOf?_imm, cellsOf?_ref, cellsOf?_nils, faddr_iptr, faddr_ptr, List.drop_succ_cons, List.drop_zero, List.take_succ_cons, List.take_zero, load1_iptr, loadN_iptr, List.length_cons, List.length_nil, Nat.le_refl, if_true, List.getElem?_cons_zero, List.getElem?_cons_succ, List.getD_cons_zero, List.getD_cons_succ, extrF_tup, binF_add, binF_sub, binF_mul, binF_eql, binF_neq, binF_lss, binF_leq, binF_gtr, binF_geq, true_and, l7 hP1.le]
      have hrt := hP1.rt none
      rw [hll] at hrt
      refine hrt.get (Heap.le_refl _) (by omega) (by omega) fun a ha => ?_
      rw [Int.toNat_natCast] at ha
      have hrw : (left.getD j []).length = left.length := row_len hc (by omega)
      have hpj := hpr j (by omega)
      refine ha.get (Heap.le_refl _) (by omega) (by omega) ?_
      rw [Int.toNat_natCast, show (left.getD j []).getD (p.getD j 0) 0 = cell left j (p.getD j 0) from rfl]
      have hmin : min2F (.int .i64 (mostK left p j)) (.int .i64 (cell left j (p.getD j 0))) = some (.int .i64 (mostK left p (j + 1))) := rfl
      simp only [letO_some, cellsOf?_agg, cellsOf?_int, cellsOf?_bool, cellsOf?_imm, cellsOf?_ref, cellsOf?_nils, faddr_iptr, faddr_ptr, List.drop_succ_cons, List.drop_zero, List.take_succ_cons, List.take_zero, load1_iptr, loadN_iptr, List.length_cons, List.length_nil, Nat.le_refl, if_true, List.getElem?_cons_zero, List.getElem?_cons_succ, List.getD_cons_zero, List.getD_cons_succ, extrF_tup, binF_add, binF_sub, binF_mul, binF_eql, binF_neq, binF_lss, binF_leq, binF_gtr, binF_geq, true_and, hmin]
      rw [wrap_i64 (by omega) (by omega)]
      exact ⟨⟨j + 1, rfl, by omega, rfl⟩, by simp <;> omega⟩
    have hje : j = p.length := by omega
    subst hje
    obtain ⟨m1, m2, m3⟩ := mostK_le hc (p := p) p.length
    have hmost : mostK left p p.length = most left p := rfl
    rw [hmost] at m1 m2 m3 ⊢
    obtain ⟨M, hM⟩ : ∃ M : Nat, most left p = (M : Int) := ⟨(most left p).toNat, by omega⟩
    try simp only [letO_some]
    rw [hM]
    have hbd := fun k => putK_bd rest p left s k
    have hnum := hP_num (a := rest.length + 1 + 1) (by omega) hs2
    -- one, two, .. of it
    refine ⟨fun L H' => ∃ k : Nat, eqt L [.int .i64 (putK rest p left s k), .int .i64 k] ∧ k ≤ M ∧ PT B H' bo cells (takeT left (up p) k), fun L _ => (M - iv L 1).toNat, ⟨0, ?_, by omega, by rw [show ((0 : Nat) : Int) = 0 from rfl, takeT_zero hfit]; exact hP1⟩, ?_⟩
    · simp [putK, eqt]
    rintro L H2 ⟨k, rfl, hkM, hP2⟩
    try simp only [letO_some, cellsOf?_agg, cellsOf?_int, cellsOf?_bool, cellsOf?_imm, cellsOf?_ref, cellsOf?_nils, faddr_iptr, faddr_ptr, List.drop_succ_cons, List.drop_zero, List.take_succ_cons, List.take_zero, load1_iptr, loadN_iptr, List.length_cons, List.length_nil, Nat.le_refl, if_true, List.getElem?_cons_zero, List.getElem?_cons_succ, List.getD_cons_zero, List.getD_cons_succ, extrF_tup, binF_add, binF_sub, binF_mul, binF_eql, binF_neq, binF_lss, binF_leq, binF_gtr, binF_geq, true_and]
    refine condA_t (fun hlt2 => ?_) (fun hge2 => ?_)
    · have hkl : k < M := by omega
      simp only [letO_some, cellsOf?_agg, cellsOf?_int, cellsOf?_bool, cellsOf?_imm, cellsOf?_ref, cellsOf?_nils, faddr_iptr, faddr_ptr, List.drop_succ_cons, List.drop_zero, List.take_succ_cons, List.take_zero, load1_iptr, loadN_iptr, List.length_cons, List.length_nil, Nat.le_refl, if_true, List.getElem?_cons_zero, List.getElem?_cons_succ, List.getD_cons_zero, List.getD_cons_succ, extrF_tup, binF_add, binF_sub, binF_mul, binF_eql, binF_neq, binF_lss, binF_leq, binF_gtr, binF_geq, true_and, l7 hP2.le, l6 hP2.le]
      refine hA.get hP2.le (by omega) (by omega) (by rw [Int.toNat_natCast]; exact hpx) ?_
      have hck : chkT (takeT left (up p) k) = 0 := chk_take2 hc (by omega) hfit (by omega)
      have hfk := fit_take (x := (k : Int)) hfit
      refine c91 (x := 1) hP2 (by rw [takeT_length]; omega) (Reads.sl _ _) hfk.1 hfk.2 (fun r c => by have := cell_rng hck r c; omega) (by omega) (by rw [takeT_length]; omega) fun H3 hP3 => ?_
      rw [takeT_take hfit] at hP3
      have hck1 : chkT (takeT left (up p) ((k : Int) + 1)) = 0 := chk_take2 hc (by omega) hfit (by omega)
      simp only [letO_some, cellsOf?_agg, cellsOf?_int, cellsOf?_bool, cellsOf?_imm, cellsOf?_ref, cellsOf?_nils, faddr_iptr, faddr_ptr, List.drop_succ_cons, List.drop_zero, List.take_succ_cons, List.take_zero, load1_iptr, loadN_iptr, List.length_cons, List.length_nil, Nat.le_refl, if_true, List.getElem?_cons_zero, List.getElem?_cons_succ, List.getD_cons_zero, List.getD_cons_succ, extrF_tup, binF_add, binF_sub, binF_mul, binF_eql, binF_neq, binF_lss, binF_leq, binF_gtr, binF_geq, true_and, l8 hP3.le]
      rw [wrap_i64 (n := s - k) (by omega) (by omega), wrap_i64 (n := s - k - 1) (by omega) (by omega)]
      simp only [callA_fn, List.cons_append, List.nil_append]
      refine ih (i + 1) _ (s - k - 1) H3 _ hrest (by omega) hck1 (by rw [takeT_length]; exact hll) (by omega) (by omega) hP3 fun H4 hP4 => ?_
      try simp only [letO_some, cellsOf?_agg, cellsOf?_int, cellsOf?_bool, cellsOf?_imm, cellsOf?_ref, cellsOf?_nils, faddr_iptr, faddr_ptr, List.drop_succ_cons, List.drop_zero, List.take_succ_cons, List.take_zero, load1_iptr, loadN_iptr, List.length_cons, List.length_nil, Nat.le_refl, if_true, List.getElem?_cons_zero, List.getElem?_cons_succ, List.getD_cons_zero, List.getD_cons_succ, extrF_tup, binF_add, binF_sub, binF_mul, binF_eql, binF_neq, binF_lss, binF_leq, binF_gtr, binF_geq, true_and]
      have b1 := hbd k
      have b2 := hbd (k + 1)
      rw [putK_succ] at b2
      rw [wrap_i64 (n := putK rest p left s k + putL rest (takeT left (up p) ((k : Int) + 1)) (s - k - 1)) (by omega) (by omega), ← putK_succ, wrap_i64 (by omega) (by omega)]
      refine ⟨⟨k + 1, rfl, by omega, ?_⟩, by simp <;> omega⟩
      rw [show ((k + 1 : Nat) : Int) = (k : Int) + 1 by omega]
      exact hP4
    · have hke : k = M := by omega
      subst hke
      have hneg : unF .neg (.int .i64 (k : Int)) = some (.int .i64 (-(k : Int))) := by
        show some (AV.int .i64 (IntKind.i64.wrap (0 - (k : Int)))) = _
        rw [wrap_i64 (by omega) (by omega), Int.zero_sub]
      simp only [letO_some, cellsOf?_agg, cellsOf?_int, cellsOf?_bool, cellsOf?_imm, cellsOf?_ref, cellsOf?_nils, faddr_iptr, faddr_ptr, List.drop_succ_cons, List.drop_zero, List.take_succ_cons, List.take_zero, load1_iptr, loadN_iptr, List.length_cons, List.length_nil, Nat.le_refl, if_true, List.getElem?_cons_zero, List.getElem?_cons_succ, List.getD_cons_zero, List.getD_cons_succ, extrF_tup, binF_add, binF_sub, binF_mul, binF_eql, binF_neq, binF_lss, binF_leq, binF_gtr, binF_geq, true_and, l7 hP2.le, l6 hP2.le, hneg]
      refine hA.get hP2.le (by omega) (by omega) (by rw [Int.toNat_natCast]; exact hpx) ?_
      have hck : chkT (takeT left (up p) k) = 0 := chk_take2 hc (by omega) hfit (by omega)
      have hfk := fit_take (x := (k : Int)) hfit
      refine c91 (x := -(k : Int)) hP2 (by rw [takeT_length]; omega) (Reads.sl _ _) hfk.1 hfk.2 (fun r c => by have := cell_rng hck r c; omega) (by omega) (by rw [takeT_length]; omega) fun H3 hP3 => ?_
      rw [takeT_take hfit, Int.add_right_neg, takeT_zero hfit] at hP3
      try simp only [letO_some]
      have := hk _ hP3
      rw [putL, if_neg h0, hM, Int.toNat_natCast] at this
      exact endK_ret this
/-- Splits: how many, and error -/
def splitsE (t : Tb) : Int × Int := if (evenE t).2 ≠ 0 then (0, (evenE t).2) else if 6 < (evenE t).1 then (0, 15) else (putL ((wkAll t).map fun v => v.1) t (evenE t).1, 0)
theorem c40 {v : AV} {t : Tbl} {H : Heap} {K : AV → Heap → Prop} (hv : RT H v t) (hl : t.length < 2 ^ 63) (hl2 : ∀ l ∈ t, l.length < 2 ^ 63) (hk : K (.tup [.int .i64 (splitsE t).1, .int .i64 (splitsE t).2]) H) : ACalls Tryd.prog 40 [v] H K := by
  apply W40_ok
  unfold W40
  try simp only [letO_some, cellsOf?_agg, cellsOf?_int, cellsOf?_bool, cellsOf?_imm, cellsOf?_ref, cellsOf?_nils, faddr_iptr, faddr_ptr, List.drop_succ_cons, List.drop_zero, List.take_succ_cons, List.take_zero, load1_iptr, loadN_iptr, List.length_cons, List.length_nil, Nat.le_refl, if_true, List.getElem?_cons_zero, List.getElem?_cons_succ, List.getD_cons_zero, List.getD_cons_succ, extrF_tup, binF_add, binF_sub, binF_mul, binF_eql, binF_neq, binF_lss, binF_leq, binF_gtr, binF_geq, true_and]
  refine c18 hv hl hl2 ?_
  try simp only [letO_some, cellsOf?_agg, cellsOf?_int, cellsOf?_bool, cellsOf?_imm, cellsOf?_ref, cellsOf?_nils, faddr_iptr, faddr_ptr, List.drop_succ_cons, List.drop_zero, List.take_succ_cons, List.take_zero, load1_iptr, loadN_iptr, List.length_cons, List.length_nil, Nat.le_refl, if_true, List.getElem?_cons_zero, List.getElem?_cons_succ, List.getD_cons_zero, List.getD_cons_succ, extrF_tup, binF_add, binF_sub, binF_mul, binF_eql, binF_neq, binF_lss, binF_leq, binF_gtr, binF_geq, true_and]
  unfold splitsE at hk
  by_cases he : (evenE t).2 = 0
  · have e1 : ((evenE t).2 != 0) = false := by rw [he]; rfl
    simp only [e1, condA_ff]
    rw [if_neg (by simp [he])] at hk
    have hc : chkT t = 0 := by
      unfold evenE at he
      split at he
      · exact he
      · rename_i h; exact Decidable.not_not.1 h
    obtain ⟨n1, n2, hrows⟩ := chkT_ok hc
    have hsum : (evenE t).1 = (row t 0).sum := by
      unfold evenE at he ⊢
      rw [if_neg (by simp [hc])] at he ⊢
      split at he
      · rename_i h; rw [if_pos h]
      · cases he
    have hsn : 0 ≤ (evenE t).1 := by
      rw [hsum]
      have h0 : row t 0 ∈ t := row_mem (by omega)
      have h1 := (hrows _ h0).2
      revert h1
      generalize row t 0 = l
      intro h1
      induction l with
      | nil => simp
      | cons a l ih =>
        have := h1 a (by simp)
        have := ih fun x hx => h1 x (by simp [hx])
        simp only [List.sum_cons]; omega
    refine condA_t (fun h6 => ?_) (fun h6 => ?_)
    · rw [if_pos h6] at hk
      exact endK_ret hk
    rw [if_neg h6] at hk
    generalize hs : (evenE t).1 = s at *
    try simp only [letO_some]
    intro b6 hb6
    have hle6 := Heap.le_new (c := [.nils]) hb6
    have h6c : (H.put b6 [.nils]) b6 = some [.nils] := Heap.put_same
    generalize H.put b6 [.nils] = H2 at *
    simp only [letO_some, b113 hv.cells cellsOf?_fn]
    obtain ⟨hlen, hw⟩ := wkAll_bd hc
    -- all plans
    refine c94 (Hs := H) hc hv (fun done H' => H.le H' ∧ ∃ A : AV, H' b6 = some [A] ∧ ((A = .nils ∧ done = []) ∨ ∃ ba, A = .ref 1 ba 0 done.length none ∧ H' ba = some (done.map fun v => sl (up v.1)) ∧ H ba = none ∧ ba ≠ b6)) (fun _ => False) (wkAll t) (fun done H' h => h.1) (fun done H' p w l hp hpre hI K' hkk _ => ?_)
      t.length [] 1 9 .nils [] H2 _ (by simp) (.inr ⟨rfl, rfl⟩) (by omega) (by simp) (by rw [List.nil_append]; exact List.prefix_refl _) ⟨hle6, .nils, h6c, .inl ⟨rfl, rfl⟩⟩ (fun H' hI => ?_) (fun H' hS => hS.elim)
    · obtain ⟨hle, A, hA6, hA⟩ := hI
      have hpl := hpre.length_le
      rw [List.length_append, List.length_singleton] at hpl
      apply W93_ok
      unfold W93
      simp only [letO_some, load_cell hA6, l22 (show cellsOf? (sl (up p)) = some [sl (up p)] from rfl)]
      have key : ∀ (Hx : Heap), Grow 1 Hx H' A done.length (done.map fun v => sl (up v.1)) → H.le Hx → Hx b6 = some [A] → appendA 1 24 A (.imm 1 true [sl (up p)]) (fun t11 H2 => storeA 1 (.ptr b6 0) t11 (fun H3 => endK (.bool true) H3 K') H2) H' := by
        intro Hx hg hleH hx6
        refine appendA_growR hg (m := 1) (new := [sl (up p)]) (by simp [srcOf]) rfl rfl (by omega) (by omega) (by omega) fun v' H7 hg7 ho7 => ?_
        obtain ⟨b', hb', rfl, rfl⟩ := hg7.own ho7
        have hne : b' ≠ b6 := by rintro rfl; rw [hx6] at hb'; cases hb'
        refine storeA_of (cs := [.ref 1 b' 0 (done.length + 1) none]) (by rw [Heap.put_ne (Ne.symm hne)]; exact hx6) rfl rfl rfl (by simp) ?_
        have e1 : splice [A] 0 [.ref 1 b' 0 (done.length + 1) none] = [.ref 1 b' 0 (done.length + 1) none] := rfl
        rw [e1]
        have hH0 : H b' = none := none_of_le hleH hb'
        refine endK_ret (hkk _ ⟨fun z c hz => ?_, _, Heap.put_same, .inr ⟨b', by simp, ?_, hH0, hne⟩⟩)
        · have z1 : z ≠ b' := by rintro rfl; rw [hH0] at hz; cases hz
          have z2 : z ≠ b6 := by rintro rfl; rw [hb6] at hz; cases hz
          rw [Heap.put_ne z2, Heap.put_ne z1]; exact hleH _ _ hz
        · rw [Heap.put_ne hne, Heap.put_same, List.map_append]; rfl
      rcases hA with ⟨rfl, rfl⟩ | ⟨ba, rfl, hba, hb0, hne⟩
      · exact key H' (Grow.nils 1 H') hle hA6
      · refine key (H'.del ba) ?_ (fun z c hz => ?_) ?_
        · have := Grow.ref (sz := 1) (H := H'.del ba) (b := ba) (n := done.length) (cells := done.map fun v => sl (up v.1)) (by simp [Heap.del]) (by simp)
          rwa [Heap.del_put, put_eq hba] at this
        · have : z ≠ ba := by rintro rfl; rw [hb0] at hz; cases hz
          simp only [Heap.del, if_neg this]; exact hle _ _ hz
        · simp only [Heap.del, if_neg (Ne.symm hne)]; exact hA6
    obtain ⟨hle, A, hA6, hA⟩ := hI
    rw [List.nil_append] at hA
    have hall : wk t t.length [] 1 9 = wkAll t := rfl
    rw [hall] at hA
    have hAR : ReadsC 1 H' A (wkAll t).length ((wkAll t).map fun v => sl (up v.1)) := by
      rcases hA with ⟨rfl, hnil⟩ | ⟨ba, rfl, hba, _, _⟩
      · rw [hnil]; exact ⟨rfl, rfl⟩
      · exact ⟨by simp, rfl, rfl, _, hba, by simp, by rw [List.drop_zero, List.take_of_length_le (by simp)]⟩
    try simp only [letO_some]
    refine c90 (hv.le hle) (by omega) n1 (fun l hl => ⟨by rintro rfl; have := (hrows _ hl).1; simp at this; omega, by have := (hrows _ hl).1; omega⟩) fun bo cells H4 hP => ?_
    refine alloc_store (cs := [.ref 1 bo 0 t.length none]) rfl rfl rfl rfl fun b7 hb7 => ?_
    have hP7 := PT.rebase (c := [.ref 1 bo 0 t.length none]) hP (Heap.le_refl _) hP.le hP.out (fun _ _ h _ => h) hb7
    have h7 : (H'.put b7 [.ref 1 bo 0 t.length none]) b7 = some [.ref 1 bo 0 t.length none] := Heap.put_same
    have hb7' := none_of_le hP.le hb7
    have hA67 : (H'.put b7 [.ref 1 bo 0 t.length none]) b6 = some [A] := Heap.le_new hb7' _ _ hA6
    have hAR7 := hAR.le (Heap.le_new (c := [.ref 1 bo 0 t.length none]) hb7')
    have hle7 := Heap.le_trans hle (Heap.le_new (c := [.ref 1 bo 0 t.length none]) hb7')
    generalize H4.put b7 [.ref 1 bo 0 t.length none] = H6 at *
    generalize H'.put b7 [.ref 1 bo 0 t.length none] = B7 at *
    intro b8 hb8
    try simp only [letO_some]
    refine storeA_of (cs := [.fn 95 [.ptr b6 0, .ptr b8 0, .ptr b7 0]]) Heap.put_same rfl rfl rfl (by simp) ?_
    have e1 : splice [AV.nilf] 0 [.fn 95 [.ptr b6 0, .ptr b8 0, .ptr b7 0]] = [.fn 95 [.ptr b6 0, .ptr b8 0, .ptr b7 0]] := rfl
    rw [e1, Heap.put_put]
    have hP8 := PT.rebase (c := [.fn 95 [.ptr b6 0, .ptr b8 0, .ptr b7 0]]) hP7 (Heap.le_refl _) hP7.le hP7.out (fun _ _ h _ => h) hb8
    have hb8' := none_of_le hP7.le hb8
    have h8 : (B7.put b8 [.fn 95 [.ptr b6 0, .ptr b8 0, .ptr b7 0]]) b8 = some [.fn 95 [.ptr b6 0, .ptr b8 0, .ptr b7 0]] := Heap.put_same
    have hlen8 := Heap.le_new (c := [.fn 95 [.ptr b6 0, .ptr b8 0, .ptr b7 0]]) hb8'
    have h78 := hlen8 _ _ h7
    have hA68 := hlen8 _ _ hA67
    have hAR8 := hAR7.le hlen8
    have hle8 := Heap.le_trans hle7 hlen8
    generalize H6.put b8 [.fn 95 [.ptr b6 0, .ptr b8 0, .ptr b7 0]] = H8 at *
    generalize B7.put b8 [.fn 95 [.ptr b6 0, .ptr b8 0, .ptr b7 0]] = B8 at *
    simp only [load_cell (hP8.le _ _ h8), letO_some, callA_fn, List.cons_append, List.nil_append]
    have hm : ((wkAll t).map fun v => v.1).map (fun p => sl (up p)) = (wkAll t).map fun v => sl (up v.1) := by rw [List.map_map]; rfl
    refine c95 (All := (wkAll t).map fun v => v.1) hA68 (by rw [List.length_map, hm]; exact hAR8) h78 h8 (by rw [List.length_map]; exact hlen) (fun p hp => ?_) _ 0 t s H8 _ rfl (by omega) hc rfl (by simp; omega) (by omega) hP8 fun H9 hP9 => ?_
    · obtain ⟨x, hx, rfl⟩ := List.mem_map.1 hp
      obtain ⟨o1, o2, o3, o4, o5⟩ := first_ok hc hx
      exact ⟨o1, fun r hr => (o4 r hr).2⟩
    · try simp only [letO_some]
      refine endK_drop (Heap.le_trans hle8 hP9.le) ?_
      rw [List.drop_zero]
      exact hk
  · have e1 : ((evenE t).2 != 0) = true := by rw [bne_iff_ne]; exact he
    simp only [e1, condA_tt]
    rw [if_pos he] at hk
    exact endK_ret hk
end Go.Proofs.YtbofkeoebnjjkaaDoor

namespace Go.Proofs.YtbofkeoebnjjkaaDoor
open Go.Av Tab
set_option linter.unusedVariables false
set_option linter.unusedSimpArgs false
set_option maxRecDepth 8000

theorem li1 {x : Int} : literalF Tryd.prog 23 1 [(0, .int .i64 x)] = some (ints [x]) := by
  rw [literalF_of (show literalPlan Tryd.prog 23 = some ([.int .i64 0], 1) by kernel_rfl) (by decide) (by simp)]
  rfl
theorem li2 {x y : Int} : literalF Tryd.prog 23 2 [(0, .int .i64 x), (1, .int .i64 y)] = some (ints [x, y]) := by
  rw [literalF_of (show literalPlan Tryd.prog 23 = some ([.int .i64 0], 1) by kernel_rfl) (by decide) (by simp)]
  rfl
theorem li3 {x y z : Int} : literalF Tryd.prog 23 3 [(0, .int .i64 x), (1, .int .i64 y), (2, .int .i64 z)] = some (ints [x, y, z]) := by
  rw [literalF_of (show literalPlan Tryd.prog 23 = some ([.int .i64 0], 1) by kernel_rfl) (by decide) (by simp)]
  rfl
theorem lt3 {a b c : List Int} : literalF Tryd.prog 22 3 [(0, lit a), (1, lit b), (2, lit c)] = some [lit a, lit b, lit c] := by
  rw [literalF_of (show literalPlan Tryd.prog 22 = some ([.nils], 1) by kernel_rfl) (by decide) (by simp)]
  rfl
theorem ls1 {a : List Int} {x : Int} : literalF Tryd.prog 42 1 [(0, .agg [lit a, .int .i64 x])] = some [lit a, .int .i64 x] := by
  rw [literalF_of (show literalPlan Tryd.prog 42 = some ([.nils, .int .i64 0], 2) by kernel_rfl) (by decide) (by simp)]
  rfl
theorem ls2 {a b : List Int} {x y : Int} : literalF Tryd.prog 42 2 [(0, .agg [lit a, .int .i64 x]), (1, .agg [lit b, .int .i64 y])] = some [lit a, .int .i64 x, lit b, .int .i64 y] := by
  rw [literalF_of (show literalPlan Tryd.prog 42 = some ([.nils, .int .i64 0], 2) by kernel_rfl) (by decide) (by simp)]
  rfl
theorem ls3 {a b c : List Int} {x y z : Int} : literalF Tryd.prog 42 3 [(0, .agg [lit a, .int .i64 x]), (1, .agg [lit b, .int .i64 y]), (2, .agg [lit c, .int .i64 z])] = some [lit a, .int .i64 x, lit b, .int .i64 y, lit c, .int .i64 z] := by
  rw [literalF_of (show literalPlan Tryd.prog 42 = some ([.nils, .int .i64 0], 2) by kernel_rfl) (by decide) (by simp)]
  rfl
/-- A table that is written out. -/
def tlit (t : Tb) : AV := .imm t.length true (t.map lit)
theorem RT.tlit (H : Heap) (t : Tb) : RT H (tlit t) t := ⟨t.map lit, ⟨by simp, rfl, rfl⟩, fun r hr => ⟨lit (t.getD r []), by simp [List.getD_eq_getElem?_getD, hr], lit_reads _ _⟩⟩
def tA : Tb := [[1, 1, 0], [0, 1, 1], [1, 0, 1]]
def tB : Tb := [[2, 1, 1], [1, 2, 1], [1, 1, 2]]
def tC : Tb := [[1, 0, 0], [1, 0, 0], [0, 1, 1]]
theorem mk_tlit {a b c : List Int} : AV.imm 3 true [lit a, lit b, lit c] = tlit [a, b, c] := rfl
theorem mk_lit1 {a : Int} : AV.imm 1 true (ints [a]) = lit [a] := rfl
theorem mk_lit2 {a b : Int} : AV.imm 2 true (ints [a, b]) = lit [a, b] := rfl
theorem mk_lit3 {a b c : Int} : AV.imm 3 true (ints [a, b, c]) = lit [a, b, c] := rfl
/-- A, C, B -/
theorem c63 {H : Heap} {K : AV → Heap → Prop} (hk : K (tlit tA) H) : ACalls Tryd.prog 63 [] H K := by
  apply W63_ok
  unfold W63
  simp only [letO_some, li3, mk_lit3]
  refine c68 ?_
  refine c68 ?_
  refine c68 ?_
  simp only [letO_some, lt3, mk_tlit]
  refine c69 ?_
  exact endK_ret hk
theorem c64 {H : Heap} {K : AV → Heap → Prop} (hk : K (tlit tC) H) : ACalls Tryd.prog 64 [] H K := by
  apply W64_ok
  unfold W64
  simp only [letO_some, li3, mk_lit3]
  refine c68 ?_
  refine c68 ?_
  refine c68 ?_
  simp only [letO_some, lt3, mk_tlit]
  refine c69 ?_
  exact endK_ret hk
theorem c65 {H : Heap} {K : AV → Heap → Prop} (hk : K (tlit tB) H) : ACalls Tryd.prog 65 [] H K := by
  apply W65_ok
  unfold W65
  simp only [letO_some, li3, mk_lit3]
  refine c68 ?_
  refine c68 ?_
  refine c68 ?_
  simp only [letO_some, lt3, mk_tlit]
  refine c69 ?_
  exact endK_ret hk
/-- share -/
theorem c66 {l : List Int} {x : Int} {H : Heap} {K : AV → Heap → Prop} (hk : K (.agg [lit l, .int .i64 x]) H) : ACalls Tryd.prog 66 [.int .i64 x, lit l] H K := by
  apply W66_ok
  unfold W66
  intro b hb
  simp only [letO_some, b49 (show cellsOf? (lit l) = some [lit l] from rfl) cellsOf?_int]
  refine storeA_of (cs := [lit l, .int .i64 x]) Heap.put_same rfl rfl rfl (by simp) ?_
  have e : splice [AV.nils, .int .i64 0] 0 [lit l, .int .i64 x] = [lit l, .int .i64 x] := rfl
  rw [e, Heap.put_put, show loadN 2 (.ptr b 0) (H.put b [lit l, .int .i64 x]) = some (.agg [lit l, .int .i64 x]) from loadN_at Heap.put_same]
  simp only [letO_some]
  exact endK_drop (Heap.le_new hb) hk
/-- Where a share lies. -/
theorem RS.at {H H' : Heap} {v : AV} {ss : List (List Int × Int)} (h : RS H v ss) (hl : H.le H') {i : Nat} (hi : i < ss.length) :
    ∃ p p0 p1 a, idx 2 v (.int .i64 (i : Int)) = some p ∧ faddr 0 p = some p0 ∧ faddr 1 p = some p1 ∧ load1 p0 H' = some a ∧ Reads H a (ss.getD i ([], 0)).1 ∧ load1 p1 H' = some (.int .i64 (ss.getD i ([], 0)).2) := by
  obtain ⟨cells, hc, hr⟩ := h
  obtain ⟨a, h1, h2⟩ := hr i hi
  have hcl := hc.1
  have g0 : cells[i * 2]? = some a := by
    have : ((cells.drop (i * 2)).take 2)[0]? = some a := by rw [h1]; rfl
    rwa [List.getElem?_take_of_lt (by omega), List.getElem?_drop, Nat.add_zero] at this
  have g1 : cells[i * 2 + 1]? = some (.int .i64 (ss.getD i ([], 0)).2) := by
    have : ((cells.drop (i * 2)).take 2)[1]? = some (.int .i64 (ss.getD i ([], 0)).2) := by rw [h1]; rfl
    rwa [List.getElem?_take_of_lt (by omega), List.getElem?_drop] at this
  have h3 := hc.2
  cases v <;> simp only at h3 <;> try exact h3.elim
  · omega
  · obtain ⟨rfl, rfl⟩ := h3
    refine ⟨_, _, _, a, idx_imm hi, rfl, rfl, ?_, h2, ?_⟩
    · rw [load1_iptr, List.drop_drop, List.getElem?_drop]
      exact g0
    · rw [load1_iptr, List.drop_drop, List.getElem?_drop]
      exact g1
  · rename_i s b off n cp
    obtain ⟨rfl, rfl, cs, h4, h5, h6⟩ := h3
    have g : ∀ j x, j < ss.length * 2 → cells[j]? = some x → cs[off + j]? = some x := by
      intro j x hj hx
      rw [← h6, List.getElem?_take_of_lt hj, List.getElem?_drop] at hx
      exact hx
    refine ⟨_, _, _, a, idx_ref hi, rfl, rfl, ?_, h2, ?_⟩
    · exact load1_at (hl _ _ h4) (by rw [Nat.add_zero]; exact g _ _ (by omega) g0)
    · exact load1_at (hl _ _ h4) (by rw [Nat.add_assoc]; exact g _ _ (by omega) g1)
/-- equal -/
theorem c67 {v w : AV} {ss tt : List (List Int × Int)} {H : Heap} {K : AV → Heap → Prop} (hv : RS H v ss) (hw : RS H w tt) (hl : ss.length < 2 ^ 63) (hl2 : ∀ s ∈ ss, s.1.length < 2 ^ 63) (hk : K (.bool (decide (ss = tt))) H) : ACalls Tryd.prog 67 [v, w] H K := by
  apply W67_ok
  unfold W67
  have lv : lenA v = some (.int .i64 ss.length) := by obtain ⟨_, h, _⟩ := hv; exact h.len
  have lw : lenA w = some (.int .i64 tt.length) := by obtain ⟨_, h, _⟩ := hw; exact h.len
  simp only [letO_some, cellsOf?_agg, cellsOf?_int, cellsOf?_bool, cellsOf?_imm, cellsOf?_ref, cellsOf?_nils, faddr_iptr, faddr_ptr, List.drop_succ_cons, List.drop_zero, List.take_succ_cons, List.take_zero, load1_iptr, loadN_iptr, List.length_cons, List.length_nil, Nat.le_refl, if_true, List.getElem?_cons_zero, List.getElem?_cons_succ, List.getD_cons_zero, List.getD_cons_succ, extrF_tup, binF_add, binF_sub, binF_mul, binF_eql, binF_neq, binF_lss, binF_leq, binF_gtr, binF_geq, true_and, lv, lw]
  by_cases hlen : ss.length = tt.length
  · have e1 : (((ss.length : Nat) : Int) != ((tt.length : Nat) : Int)) = false := by rw [hlen]; simp
    simp only [e1, condA_ff]
    refine ⟨fun L H' => ∃ i : Nat, eqt L [.int .i64 i] ∧ i ≤ ss.length ∧ eqt H' H ∧ ss.take i = tt.take i, fun L _ => (ss.length - iv L 0).toNat, ⟨0, rfl, by omega, rfl, by simp⟩, ?_⟩
    rintro L H' ⟨i, rfl, hi, rfl, he⟩
    try simp only [letO_some, cellsOf?_agg, cellsOf?_int, cellsOf?_bool, cellsOf?_imm, cellsOf?_ref, cellsOf?_nils, faddr_iptr, faddr_ptr, List.drop_succ_cons, List.drop_zero, List.take_succ_cons, List.take_zero, load1_iptr, loadN_iptr, List.length_cons, List.length_nil, Nat.le_refl, if_true, List.getElem?_cons_zero, List.getElem?_cons_succ, List.getD_cons_zero, List.getD_cons_succ, extrF_tup, binF_add, binF_sub, binF_mul, binF_eql, binF_neq, binF_lss, binF_leq, binF_gtr, binF_geq, true_and]
    refine condA_t (fun hlt => ?_) (fun hge => ?_)
    · have a1 : i < ss.length := by omega
      have a2 : i < tt.length := by omega
      obtain ⟨p, p0, p1, a, q1, q2, q3, q4, q5, q6⟩ := RS.at hv (Heap.le_refl H') a1
      obtain ⟨r, r0, r1, b, u1, u2, u3, u4, u5, u6⟩ := RS.at hw (Heap.le_refl H') a2
      have g1 : ss.getD i ([], 0) = ss[i] := by simp [List.getD_eq_getElem?_getD, a1]
      have g2 : tt.getD i ([], 0) = tt[i] := by simp [List.getD_eq_getElem?_getD, a2]
      rw [g1] at q5 q6
      rw [g2] at u5 u6
      simp only [q1, q2, q4, u1, u2, u4, letO_some]
      refine c24 q5 u5 (hl2 _ (List.getElem_mem a1)) ?_
      have hne : ss[i] ≠ tt[i] → ss ≠ tt := fun h h2 => by subst h2; exact h rfl
      by_cases hx : ss[i].1 = tt[i].1
      · simp only [hx, decide_true, not_v, Bool.not_true, letO_some, cellsOf?_agg, cellsOf?_int, cellsOf?_bool, cellsOf?_imm, cellsOf?_ref, cellsOf?_nils, faddr_iptr, faddr_ptr, List.drop_succ_cons, List.drop_zero, List.take_succ_cons, List.take_zero, load1_iptr, loadN_iptr, List.length_cons, List.length_nil, Nat.le_refl, if_true, List.getElem?_cons_zero, List.getElem?_cons_succ, List.getD_cons_zero, List.getD_cons_succ, extrF_tup, binF_add, binF_sub, binF_mul, binF_eql, binF_neq, binF_lss, binF_leq, binF_gtr, binF_geq, true_and, gval_bool, Int.reduceBNe, Int.reduceBEq, pickF_true, pickF_false, reduceIte, Bool.true_eq_false, Bool.false_eq_true, if_false, condA_tt, condA_ff, condG_tt, condG_ff, condG_tt', condG_ff', condG_undef, gval_undef, q1, q3, q6, u1, u3, u6]
        by_cases hy : ss[i].2 = tt[i].2
        · have e2 : (ss[i].2 != tt[i].2) = false := by rw [hy]; simp
          simp only [e2, condA_ff]
          rw [wrap_i64 (by omega) (by omega)]
          refine ⟨⟨i + 1, rfl, by omega, rfl, ?_⟩, by simp <;> omega⟩
          rw [List.take_add_one, List.take_add_one, he, List.getElem?_eq_getElem a1, List.getElem?_eq_getElem a2]
          have : ss[i] = tt[i] := Prod.ext hx hy
          rw [this]
        · have e2 : (ss[i].2 != tt[i].2) = true := by rw [bne_iff_ne]; exact hy
          simp only [e2, condA_tt]
          rw [decide_eq_false (hne fun h => hy (by rw [h]))] at hk
          exact endK_ret hk
      · simp only [hx, decide_false, not_v, Bool.not_false, letO_some, cellsOf?_agg, cellsOf?_int, cellsOf?_bool, cellsOf?_imm, cellsOf?_ref, cellsOf?_nils, faddr_iptr, faddr_ptr, List.drop_succ_cons, List.drop_zero, List.take_succ_cons, List.take_zero, load1_iptr, loadN_iptr, List.length_cons, List.length_nil, Nat.le_refl, if_true, List.getElem?_cons_zero, List.getElem?_cons_succ, List.getD_cons_zero, List.getD_cons_succ, extrF_tup, binF_add, binF_sub, binF_mul, binF_eql, binF_neq, binF_lss, binF_leq, binF_gtr, binF_geq, true_and, gval_bool, Int.reduceBNe, Int.reduceBEq, pickF_true, pickF_false, reduceIte, Bool.true_eq_false, Bool.false_eq_true, if_false, condA_tt, condA_ff, condG_tt, condG_ff, condG_tt', condG_ff', condG_undef, gval_undef]
        rw [decide_eq_false (hne fun h => hx (by rw [h]))] at hk
        exact endK_ret hk
    · have hie : i = ss.length := by omega
      subst hie
      rw [List.take_length, hlen, List.take_length] at he
      rw [decide_eq_true he] at hk
      exact endK_ret hk
  · have e1 : (((ss.length : Nat) : Int) != ((tt.length : Nat) : Int)) = true := by rw [bne_iff_ne]; omega
    simp only [e1, condA_tt]
    rw [decide_eq_false (fun h => hlen (by rw [h]))] at hk
    exact endK_ret hk
theorem RS.lit1 (H : Heap) (a : List Int) (x : Int) : RS H (.imm 1 true [lit a, .int .i64 x]) [(a, x)] := by
  refine ⟨_, ⟨rfl, rfl, rfl⟩, fun i hi => ?_⟩
  have : i = 0 := by simp at hi; omega
  subst this
  exact ⟨lit a, rfl, lit_reads _ _⟩
theorem RS.lit2 (H : Heap) (a b : List Int) (x y : Int) : RS H (.imm 2 true [lit a, .int .i64 x, lit b, .int .i64 y]) [(a, x), (b, y)] := by
  refine ⟨_, ⟨rfl, rfl, rfl⟩, fun i hi => ?_⟩
  have : i = 0 ∨ i = 1 := by simp at hi; omega
  rcases this with rfl | rfl
  · exact ⟨lit a, rfl, lit_reads _ _⟩
  · exact ⟨lit b, rfl, lit_reads _ _⟩
theorem RS.lit3 (H : Heap) (a b c : List Int) (x y z : Int) : RS H (.imm 3 true [lit a, .int .i64 x, lit b, .int .i64 y, lit c, .int .i64 z]) [(a, x), (b, y), (c, z)] := by
  refine ⟨_, ⟨rfl, rfl, rfl⟩, fun i hi => ?_⟩
  have : i = 0 ∨ i = 1 ∨ i = 2 := by simp at hi; omega
  rcases this with rfl | rfl | rfl
  · exact ⟨lit a, rfl, lit_reads _ _⟩
  · exact ⟨lit b, rfl, lit_reads _ _⟩
  · exact ⟨lit c, rfl, lit_reads _ _⟩
theorem RS.of (H : Heap) (ss : List (List Nat × Int)) : RS H (.imm ss.length false (ss.flatMap shC)) (ss.map fun s => (up s.1, s.2)) := by
  refine ⟨ss.flatMap shC, ⟨by rw [rows_len shC_len, List.length_map], by simp, rfl⟩, fun i hi => ?_⟩
  rw [List.length_map] at hi
  have hx : ss[i]? = some ss[i] := by simp [hi]
  have e : (ss.map fun s => (up s.1, s.2)).getD i ([], 0) = (up ss[i].1, ss[i].2) := by simp [List.getD_eq_getElem?_getD, hi]
  rw [e]
  exact ⟨sl (up ss[i].1), by rw [rows_get shC_len hx]; rfl, Reads.sl _ _⟩
end Go.Proofs.YtbofkeoebnjjkaaDoor

namespace Go.Proofs.YtbofkeoebnjjkaaDoor
open Go.Av Tab
set_option linter.unusedVariables false
set_option linter.unusedSimpArgs false
set_option maxRecDepth 8000

theorem eB : evenE tB = (4, 0) := by decide
theorem eC : evenE tC = (0, 17) := by decide
theorem kA : chkT tA = 0 := by decide
theorem kB : chkT tB = 0 := by decide
theorem kC : chkT tC = 0 := by decide
theorem wA : wkAll tA = [([0, 1, 2], 1, 1), ([1, 2, 0], 1, 1)] := by decide
theorem wC : wkAll tC = [] := by decide
theorem cA : countE tA = (2, 0) := by decide
theorem gB : weightE tB = (16, 0) := by decide
theorem bC : barO tC = ([0, 1], [1, 2], 0) := by decide
theorem bA : barO tA = ([], [], 13) := by decide
theorem sB : splitS tB = [([0, 1, 2], 2), ([1, 2, 0], 1), ([2, 0, 1], 1)] := by decide
theorem pB : splitsE tB = (2, 0) := by decide
theorem mA : sumE 3 [([0, 1, 2], 1), ([1, 2, 0], 1)] = (tA, 0) := by decide
theorem mX : sumE 3 [([0, 1, 2], 10)] = ([], 15) := by decide
theorem uA : turnE tA = [[1, 0, 1], [1, 1, 0], [0, 1, 1]] := by decide
theorem iA1 : withE tA [1, 2, 0] = 0 := by decide
theorem iA2 : withE tA [0, 2, 1] = 12 := by decide
theorem oC1 : provesE tC [0, 1] [1, 2] = 0 := by decide
theorem oC2 : provesE tC [0] [1, 2] = 14 := by decide
theorem shA : ∀ l ∈ tA, l.length < 2 ^ 63 := by decide
theorem shB : ∀ l ∈ tB, l.length < 2 ^ 63 := by decide
theorem shC' : ∀ l ∈ tC, l.length < 2 ^ 63 := by decide
theorem lA : tA.length < 2 ^ 63 := by decide
theorem lB : tB.length < 2 ^ 63 := by decide
theorem lC : tC.length < 2 ^ 63 := by decide
section
variable {H : Heap} {K : AV → Heap → Prop}
theorem c18B (hk : K (.tup [.int .i64 4, .int .i64 0]) H) : ACalls Tryd.prog 18 [tlit tB] H K := c18 (RT.tlit _ _) lB shB (by rw [eB]; exact hk)
theorem c20A (hk : K (.tup [sl [0, 1, 2], .int .i64 0]) H) : ACalls Tryd.prog 20 [tlit tA] H K := c20 (RT.tlit _ _) lA shA (by rw [kA, wA]; exact hk)
theorem c20C (hk : K (.tup [sl [], .int .i64 12]) H) : ACalls Tryd.prog 20 [tlit tC] H K := c20 (RT.tlit _ _) lC shC' (by rw [kC, wC]; exact hk)
theorem c22A (hk : K (.tup [.int .i64 2, .int .i64 0]) H) : ACalls Tryd.prog 22 [tlit tA] H K := c22 (RT.tlit _ _) lA shA (by rw [cA, kA]; exact hk)
theorem c25B (hk : K (.tup [.int .i64 16, .int .i64 0]) H) : ACalls Tryd.prog 25 [tlit tB] H K := c25 (RT.tlit _ _) lB shB (by rw [gB, kB]; exact hk)
theorem c34C (hk : K (.tup [sl [0, 1], sl [1, 2], .int .i64 0]) H) : ACalls Tryd.prog 34 [tlit tC] H K := c34 (RT.tlit _ _) lC shC' (by rw [bC]; exact hk)
theorem c34A (hk : K (.tup [sl [], sl [], .int .i64 13]) H) : ACalls Tryd.prog 34 [tlit tA] H K := c34 (RT.tlit _ _) lA shA (by rw [bA]; exact hk)
def shs : List (List Nat × Int) := [([0, 1, 2], 2), ([1, 2, 0], 1), ([2, 0, 1], 1)]
theorem c38B (hk : K (.tup [.imm shs.length false (shs.flatMap shC), .int .i64 0]) H) : ACalls Tryd.prog 38 [tlit tB] H K := c38 (RT.tlit _ _) lB shB (by rw [eB, sB]; exact hk)
theorem c38C (hk : K (.tup [.imm 0 false [], .int .i64 17]) H) : ACalls Tryd.prog 38 [tlit tC] H K := c38 (RT.tlit _ _) lC shC' (by rw [eC]; exact hk)
theorem c40B (hk : K (.tup [.int .i64 2, .int .i64 0]) H) : ACalls Tryd.prog 40 [tlit tB] H K := c40 (RT.tlit _ _) lB shB (by rw [pB]; exact hk)
theorem c42A (hk : K (.tup [tl tA, .int .i64 0]) H) : ACalls Tryd.prog 42 [.int .i64 3, .imm 2 true [lit [0, 1, 2], .int .i64 1, lit [1, 2, 0], .int .i64 1]] H K := c42 (RS.lit2 _ _ _ _ _) (by decide) (by decide) (by rw [mA]; exact hk)
theorem c42X (hk : K (.tup [tl [], .int .i64 15]) H) : ACalls Tryd.prog 42 [.int .i64 3, .imm 1 true [lit [0, 1, 2], .int .i64 10]] H K := c42 (RS.lit1 _ _ _) (by decide) (by decide) (by rw [mX]; exact hk)
theorem c27A (hk : K (.tup [tl [[1, 0, 1], [1, 1, 0], [0, 1, 1]], .int .i64 0]) H) : ACalls Tryd.prog 27 [tlit tA] H K := c27 (RT.tlit _ _) lA shA (by rw [kA, uA]; exact hk)
theorem c32a (hk : K (.int .i64 0) H) : ACalls Tryd.prog 32 [tlit tA, lit [1, 2, 0]] H K := c32 (RT.tlit _ _) (lit_reads _ _) lA shA (by decide) (by rw [iA1]; exact hk)
theorem c32b (hk : K (.int .i64 12) H) : ACalls Tryd.prog 32 [tlit tA, lit [0, 2, 1]] H K := c32 (RT.tlit _ _) (lit_reads _ _) lA shA (by decide) (by rw [iA2]; exact hk)
theorem c36a (hk : K (.int .i64 0) H) : ACalls Tryd.prog 36 [tlit tC, lit [0, 1], lit [1, 2]] H K := c36 (RT.tlit _ _) (lit_reads _ _) (lit_reads _ _) lC shC' (by decide) (by decide) (by rw [oC1]; exact hk)
theorem c36b (hk : K (.int .i64 14) H) : ACalls Tryd.prog 36 [tlit tC, lit [0], lit [1, 2]] H K := c36 (RT.tlit _ _) (lit_reads _ _) (lit_reads _ _) lC shC' (by decide) (by decide) (by rw [oC2]; exact hk)
theorem c67a (hk : K (.bool true) H) : ACalls Tryd.prog 67 [.imm shs.length false (shs.flatMap shC), .imm 3 true [lit [0, 1, 2], .int .i64 2, lit [1, 2, 0], .int .i64 1, lit [2, 0, 1], .int .i64 1]] H K := c67 (RS.of _ _) (RS.lit3 _ _ _ _ _ _ _) (by decide) (by decide) (by rw [decide_eq_true (by decide)]; exact hk)
theorem c29a (hk : K (.bool true) H) : ACalls Tryd.prog 29 [tl tA, tlit tA] H K := c29 (RT.tl _ _) (RT.tlit _ _) (by decide) (by decide) (by rw [decide_eq_true (by decide)]; exact hk)
theorem c29b (hk : K (.bool true) H) : ACalls Tryd.prog 29 [tl [[1, 0, 1], [1, 1, 0], [0, 1, 1]], tlit [[1, 0, 1], [1, 1, 0], [0, 1, 1]]] H K := c29 (RT.tl _ _) (RT.tlit _ _) (by decide) (by decide) (by rw [decide_eq_true (by decide)]; exact hk)
theorem c24a {l : List Int} (hl : l.length < 2 ^ 63) (hk : K (.bool true) H) : ACalls Tryd.prog 24 [sl l, lit l] H K := c24 (Reads.sl _ _) (lit_reads _ _) hl (by rw [decide_eq_true rfl]; exact hk)
end
end Go.Proofs.YtbofkeoebnjjkaaDoor

/- MADE BY PROGRAM (walkt.py): function 17 returns true. -/
namespace Go.Proofs.YtbofkeoebnjjkaaDoor
open Go.Av Tab
set_option linter.unusedVariables false
set_option linter.unusedSimpArgs false
set_option maxRecDepth 20000
theorem c17 {H : Heap} {K : AV → Heap → Prop} (hk : K (.bool true) H) : ACalls Tryd.prog 17 [] H K := by
  apply W17_ok
  unfold W17
  refine letO_of (x := .bool false) rfl ?_
  refine c65 ?_
  refine c18B ?_
  refine letO_of (x := .tup [.int .i64 4, .int .i64 0]) rfl ?_
  refine letO_of (x := .int .i64 4) rfl ?_
  refine letO_of (x := .int .i64 0) rfl ?_
  refine letO_of (x := .int .i64 4) rfl ?_
  refine letO_of (x := .int .i64 0) rfl ?_
  refine c63 ?_
  refine c20A ?_
  refine letO_of (x := .tup [sl [0, 1, 2], .int .i64 0]) rfl ?_
  refine letO_of (x := sl [0, 1, 2]) rfl ?_
  refine letO_of (x := .int .i64 0) rfl ?_
  refine letO_of (x := sl [0, 1, 2]) rfl ?_
  refine letO_of (x := .int .i64 0) rfl ?_
  refine c63 ?_
  refine c22A ?_
  refine letO_of (x := .tup [.int .i64 2, .int .i64 0]) rfl ?_
  refine letO_of (x := .int .i64 2) rfl ?_
  refine letO_of (x := .int .i64 0) rfl ?_
  refine letO_of (x := .int .i64 2) rfl ?_
  refine letO_of (x := .int .i64 0) rfl ?_
  refine c65 ?_
  refine c25B ?_
  refine letO_of (x := .tup [.int .i64 16, .int .i64 0]) rfl ?_
  refine letO_of (x := .int .i64 16) rfl ?_
  refine letO_of (x := .int .i64 0) rfl ?_
  refine letO_of (x := .int .i64 16) rfl ?_
  refine letO_of (x := .int .i64 0) rfl ?_
  refine c64 ?_
  refine c34C ?_
  refine letO_of (x := .tup [sl [0, 1], sl [1, 2], .int .i64 0]) rfl ?_
  refine letO_of (x := sl [0, 1]) rfl ?_
  refine letO_of (x := sl [1, 2]) rfl ?_
  refine letO_of (x := .int .i64 0) rfl ?_
  refine letO_of (x := sl [0, 1]) rfl ?_
  refine letO_of (x := sl [1, 2]) rfl ?_
  refine letO_of (x := .int .i64 0) rfl ?_
  refine c65 ?_
  refine c38B ?_
  refine letO_of (x := .tup [.imm shs.length false (shs.flatMap shC), .int .i64 0]) rfl ?_
  refine letO_of (x := .imm shs.length false (shs.flatMap shC)) rfl ?_
  refine letO_of (x := .int .i64 0) rfl ?_
  refine letO_of (x := .imm shs.length false (shs.flatMap shC)) rfl ?_
  refine letO_of (x := .int .i64 0) rfl ?_
  refine c65 ?_
  refine c40B ?_
  refine letO_of (x := .tup [.int .i64 2, .int .i64 0]) rfl ?_
  refine letO_of (x := .int .i64 2) rfl ?_
  refine letO_of (x := .int .i64 0) rfl ?_
  refine letO_of (x := .int .i64 2) rfl ?_
  refine letO_of (x := .int .i64 0) rfl ?_
  refine letO_of (x := .int .i64 0) rfl ?_
  refine letO_of (x := .bool false) rfl ?_
  refine letO_of (x := .bool false) rfl ?_
  refine letO_of (x := .int .i64 0) rfl ?_
  refine letO_of (x := .bool false) rfl ?_
  refine letO_of (x := .bool false) rfl ?_
  refine letO_of (x := .bool false) rfl ?_
  refine letO_of (x := .int .i64 0) rfl ?_
  refine letO_of (x := .bool false) rfl ?_
  refine letO_of (x := .bool false) rfl ?_
  refine letO_of (x := .bool false) rfl ?_
  refine letO_of (x := .int .i64 0) rfl ?_
  refine letO_of (x := .bool false) rfl ?_
  refine letO_of (x := .bool false) rfl ?_
  refine letO_of (x := .bool false) rfl ?_
  refine letO_of (x := .int .i64 0) rfl ?_
  refine letO_of (x := .bool false) rfl ?_
  refine letO_of (x := .bool false) rfl ?_
  refine letO_of (x := .bool false) rfl ?_
  refine letO_of (x := .int .i64 0) rfl ?_
  refine letO_of (x := .bool false) rfl ?_
  refine letO_of (x := .bool false) rfl ?_
  refine letO_of (x := .bool false) rfl ?_
  refine letO_of (x := .int .i64 0) rfl ?_
  refine letO_of (x := .bool false) rfl ?_
  refine letO_of (x := .bool false) rfl ?_
  refine condA_ff.2 ?_
  refine letO_of li3 ?_
  rw [mk_lit3]
  refine c66 ?_
  refine letO_of li3 ?_
  rw [mk_lit3]
  refine c66 ?_
  refine letO_of ls2 ?_
  refine c42A ?_
  refine letO_of (x := .tup [tl tA, .int .i64 0]) rfl ?_
  refine letO_of (x := tl tA) rfl ?_
  refine letO_of (x := .int .i64 0) rfl ?_
  refine letO_of (x := tl tA) rfl ?_
  refine letO_of (x := .int .i64 0) rfl ?_
  refine c63 ?_
  refine c27A ?_
  refine letO_of (x := .tup [tl [[1, 0, 1], [1, 1, 0], [0, 1, 1]], .int .i64 0]) rfl ?_
  refine letO_of (x := tl [[1, 0, 1], [1, 1, 0], [0, 1, 1]]) rfl ?_
  refine letO_of (x := .int .i64 0) rfl ?_
  refine letO_of (x := tl [[1, 0, 1], [1, 1, 0], [0, 1, 1]]) rfl ?_
  refine letO_of (x := .int .i64 0) rfl ?_
  refine c64 ?_
  refine c20C ?_
  refine letO_of (x := .tup [sl [], .int .i64 12]) rfl ?_
  refine letO_of (x := sl []) rfl ?_
  refine letO_of (x := .int .i64 12) rfl ?_
  refine letO_of (x := .int .i64 12) rfl ?_
  refine c63 ?_
  refine c34A ?_
  refine letO_of (x := .tup [sl [], sl [], .int .i64 13]) rfl ?_
  refine letO_of (x := sl []) rfl ?_
  refine letO_of (x := sl []) rfl ?_
  refine letO_of (x := .int .i64 13) rfl ?_
  refine letO_of (x := .int .i64 13) rfl ?_
  refine c64 ?_
  refine c38C ?_
  refine letO_of (x := .tup [.imm 0 false [], .int .i64 17]) rfl ?_
  refine letO_of (x := .imm 0 false []) rfl ?_
  refine letO_of (x := .int .i64 17) rfl ?_
  refine letO_of (x := .int .i64 17) rfl ?_
  refine letO_of li3 ?_
  rw [mk_lit3]
  refine c66 ?_
  refine letO_of ls1 ?_
  refine c42X ?_
  refine letO_of (x := .tup [tl [], .int .i64 15]) rfl ?_
  refine letO_of (x := tl []) rfl ?_
  refine letO_of (x := .int .i64 15) rfl ?_
  refine letO_of (x := .int .i64 15) rfl ?_
  refine letO_of (x := .int .i64 0) rfl ?_
  refine letO_of (x := .bool true) rfl ?_
  refine letO_of (x := .bool true) rfl ?_
  refine letO_of (x := .int .i64 0) rfl ?_
  refine letO_of (x := .bool true) rfl ?_
  refine letO_of (x := .bool true) rfl ?_
  refine letO_of (x := .bool true) rfl ?_
  refine letO_of (x := .int .i64 12) rfl ?_
  refine letO_of (x := .bool true) rfl ?_
  refine letO_of (x := .bool true) rfl ?_
  refine letO_of (x := .bool true) rfl ?_
  refine letO_of (x := .int .i64 13) rfl ?_
  refine letO_of (x := .bool true) rfl ?_
  refine letO_of (x := .bool true) rfl ?_
  refine letO_of (x := .bool true) rfl ?_
  refine letO_of (x := .int .i64 17) rfl ?_
  refine letO_of (x := .bool true) rfl ?_
  refine letO_of (x := .bool true) rfl ?_
  refine letO_of (x := .bool true) rfl ?_
  refine letO_of (x := .int .i64 15) rfl ?_
  refine letO_of (x := .bool true) rfl ?_
  refine letO_of (x := .bool true) rfl ?_
  refine letO_of (x := .bool true) rfl ?_
  refine letO_of (x := .int .i64 4) rfl ?_
  refine letO_of (x := .bool true) rfl ?_
  refine letO_of (x := .bool true) rfl ?_
  refine letO_of (x := .bool true) rfl ?_
  refine letO_of (x := sl [0, 1, 2]) rfl ?_
  refine letO_of (x := lit [0, 1, 2]) (show _ = _ from (by rw [li3]; rfl)) ?_
  refine exJc (c := true) ?_
  refine c68 ?_
  refine exJc (c := true) ?_
  refine c24a (by decide) ?_
  refine letO_of (x := .bool true) rfl ?_
  refine letO_of (x := .bool true) rfl ?_
  refine letO_of (x := .int .i64 2) rfl ?_
  refine letO_of (x := .bool true) rfl ?_
  refine letO_of (x := .bool true) rfl ?_
  refine letO_of (x := .bool true) rfl ?_
  refine letO_of (x := .int .i64 16) rfl ?_
  refine letO_of (x := .bool true) rfl ?_
  refine letO_of (x := .bool true) rfl ?_
  refine letO_of (x := .bool true) rfl ?_
  refine letO_of (x := sl [0, 1]) rfl ?_
  refine letO_of (x := lit [0, 1]) (show _ = _ from (by rw [li2]; rfl)) ?_
  refine exJc (c := true) ?_
  refine c68 ?_
  refine exJc (c := true) ?_
  refine c24a (by decide) ?_
  refine letO_of (x := .bool true) rfl ?_
  refine letO_of (x := .bool true) rfl ?_
  refine letO_of (x := sl [1, 2]) rfl ?_
  refine letO_of (x := lit [1, 2]) (show _ = _ from (by rw [li2]; rfl)) ?_
  refine exJc (c := true) ?_
  refine c68 ?_
  refine exJc (c := true) ?_
  refine c24a (by decide) ?_
  refine letO_of (x := .bool true) rfl ?_
  refine letO_of (x := .bool true) rfl ?_
  refine letO_of (x := .imm shs.length false (shs.flatMap shC)) rfl ?_
  refine letO_of (x := lit [0, 1, 2]) (show _ = _ from (by rw [li3]; rfl)) ?_
  refine exJc (c := true) ?_
  refine c66 ?_
  refine letO_of (x := lit [1, 2, 0]) (show _ = _ from (by rw [li3]; rfl)) ?_
  refine exJc (c := true) ?_
  refine c66 ?_
  refine letO_of (x := lit [2, 0, 1]) (show _ = _ from (by rw [li3]; rfl)) ?_
  refine exJc (c := true) ?_
  refine c66 ?_
  refine letO_of (x := .imm 3 true [lit [0, 1, 2], .int .i64 2, lit [1, 2, 0], .int .i64 1, lit [2, 0, 1], .int .i64 1]) (show _ = _ from (by rw [ls3]; rfl)) ?_
  refine exJc (c := true) ?_
  refine c67a ?_
  refine letO_of (x := .bool true) rfl ?_
  refine letO_of (x := .bool true) rfl ?_
  refine letO_of (x := .int .i64 2) rfl ?_
  refine letO_of (x := .bool true) rfl ?_
  refine letO_of (x := .bool true) rfl ?_
  refine letO_of (x := .bool true) rfl ?_
  refine letO_of (x := tl tA) rfl ?_
  refine exJc (c := true) ?_
  refine c63 ?_
  refine exJc (c := true) ?_
  refine c29a ?_
  refine letO_of (x := .bool true) rfl ?_
  refine letO_of (x := .bool true) rfl ?_
  refine letO_of (x := tl [[1, 0, 1], [1, 1, 0], [0, 1, 1]]) rfl ?_
  refine letO_of (x := lit [1, 0, 1]) (show _ = _ from (by rw [li3]; rfl)) ?_
  refine exJc (c := true) ?_
  refine c68 ?_
  refine letO_of (x := lit [1, 1, 0]) (show _ = _ from (by rw [li3]; rfl)) ?_
  refine exJc (c := true) ?_
  refine c68 ?_
  refine letO_of (x := lit [0, 1, 1]) (show _ = _ from (by rw [li3]; rfl)) ?_
  refine exJc (c := true) ?_
  refine c68 ?_
  refine letO_of (x := tlit [[1, 0, 1], [1, 1, 0], [0, 1, 1]]) (show _ = _ from (by rw [lt3]; rfl)) ?_
  refine exJc (c := true) ?_
  refine c69 ?_
  refine exJc (c := true) ?_
  refine c29b ?_
  refine letO_of (x := .bool true) rfl ?_
  refine letO_of (x := .bool true) rfl ?_
  refine exJc (c := true) ?_
  refine c63 ?_
  refine letO_of (x := lit [1, 2, 0]) (show _ = _ from (by rw [li3]; rfl)) ?_
  refine exJc (c := true) ?_
  refine c68 ?_
  refine exJc (c := true) ?_
  refine c32a ?_
  refine letO_of (x := .bool true) rfl ?_
  refine letO_of (x := .bool true) rfl ?_
  refine letO_of (x := .bool true) rfl ?_
  refine exJc (c := true) ?_
  refine c63 ?_
  refine letO_of (x := lit [0, 2, 1]) (show _ = _ from (by rw [li3]; rfl)) ?_
  refine exJc (c := true) ?_
  refine c68 ?_
  refine exJc (c := true) ?_
  refine c32b ?_
  refine letO_of (x := .bool true) rfl ?_
  refine letO_of (x := .bool true) rfl ?_
  refine letO_of (x := .bool true) rfl ?_
  refine exJc (c := true) ?_
  refine c64 ?_
  refine letO_of (x := lit [0, 1]) (show _ = _ from (by rw [li2]; rfl)) ?_
  refine exJc (c := true) ?_
  refine c68 ?_
  refine letO_of (x := lit [1, 2]) (show _ = _ from (by rw [li2]; rfl)) ?_
  refine exJc (c := true) ?_
  refine c68 ?_
  refine exJc (c := true) ?_
  refine c36a ?_
  refine letO_of (x := .bool true) rfl ?_
  refine letO_of (x := .bool true) rfl ?_
  refine letO_of (x := .bool true) rfl ?_
  refine exJc (c := true) ?_
  refine c64 ?_
  refine letO_of (x := lit [0]) (show _ = _ from (by rw [li1]; rfl)) ?_
  refine exJc (c := true) ?_
  refine c68 ?_
  refine letO_of (x := lit [1, 2]) (show _ = _ from (by rw [li2]; rfl)) ?_
  refine exJc (c := true) ?_
  refine c68 ?_
  refine exJc (c := true) ?_
  refine c36b ?_
  refine letO_of (x := .bool true) rfl ?_
  refine letO_of (x := .bool true) rfl ?_
  refine letO_of (x := .bool true) rfl ?_
  exact endK_ret hk
end Go.Proofs.YtbofkeoebnjjkaaDoor

namespace Go.Proofs.YtbofkeoebnjjkaaDoor
open Go.Av Tab
set_option linter.unusedVariables false
set_option linter.unusedSimpArgs false
set_option maxRecDepth 4000

/-- empty -/
theorem c49 {n : Nat} {H : Heap} {K : AV → Heap → Prop} (hn : 1 ≤ n ∧ n ≤ 1000) (hk : ∀ bo cells H', PT H H' bo cells (zeroT n) → K (.ref 1 bo 0 n none) H') : ACalls Tryd.prog 49 [.int .i64 n] H K := by
  apply W49_ok
  unfold W49
  try simp only [letO_some, cellsOf?_agg, cellsOf?_int, cellsOf?_bool, cellsOf?_imm, cellsOf?_ref, cellsOf?_nils, faddr_iptr, faddr_ptr, List.drop_succ_cons, List.drop_zero, List.take_succ_cons, List.take_zero, load1_iptr, loadN_iptr, List.length_cons, List.length_nil, Nat.le_refl, if_true, List.getElem?_cons_zero, List.getElem?_cons_succ, List.getD_cons_zero, List.getD_cons_succ, extrF_tup, binF_add, binF_sub, binF_mul, binF_eql, binF_neq, binF_lss, binF_leq, binF_gtr, binF_geq, true_and]
  refine ⟨fun L H' => ∃ (i : Nat) (X : AV), eqt L [X, .int .i64 i] ∧ i ≤ n ∧ ((i = 0 ∧ X = .nils ∧ eqt H' H) ∨ ∃ bo cells, X = .ref 1 bo 0 i none ∧ PT H H' bo cells (List.replicate i (List.replicate n 0))), fun L _ => (n - iv L 1).toNat, ⟨0, .nils, rfl, by omega, .inl ⟨rfl, rfl, rfl⟩⟩, ?_⟩
  rintro L H' ⟨i, X, rfl, hi, hX⟩
  try simp only [letO_some, cellsOf?_agg, cellsOf?_int, cellsOf?_bool, cellsOf?_imm, cellsOf?_ref, cellsOf?_nils, faddr_iptr, faddr_ptr, List.drop_succ_cons, List.drop_zero, List.take_succ_cons, List.take_zero, load1_iptr, loadN_iptr, List.length_cons, List.length_nil, Nat.le_refl, if_true, List.getElem?_cons_zero, List.getElem?_cons_succ, List.getD_cons_zero, List.getD_cons_succ, extrF_tup, binF_add, binF_sub, binF_mul, binF_eql, binF_neq, binF_lss, binF_leq, binF_gtr, binF_geq, true_and]
  refine condA_t (fun hlt => ?_) (fun hge => ?_)
  · have a1 : i < n := by omega
    refine ⟨by omega, by omega, by omega, by omega, ?_⟩
    rw [Int.toNat_natCast, rowOf_zero]
    intro b hb
    have hl0 : (List.replicate n (0 : Int)).length = n := by simp
    try simp only [l22 (show cellsOf? (.ref 1 b 0 n (some n)) = some [.ref 1 b 0 n (some n)] from rfl), letO_some]
    rw [wrap_i64 (by omega) (by omega)]
    have key : ∀ (Hx : Heap) (cells : List AV) (X : AV), PR H Hx cells (List.replicate i (List.replicate n 0)) → Hx b = none → Grow 1 (Hx.put b (ints (List.replicate n 0))) (H'.put b (ints (List.replicate n 0))) X i cells → appendA 1 24 X (.imm 1 true [.ref 1 b 0 n (some n)]) (fun t16 H7 =>
        (∃ (i' : Nat) (X : AV), eqt [t16, .int .i64 ((i : Int) + 1)] [X, .int .i64 i'] ∧ i' ≤ n ∧ ((i' = 0 ∧ X = .nils ∧ eqt H7 H) ∨ ∃ bo cells, X = .ref 1 bo 0 i' none ∧ PT H H7 bo cells (List.replicate i' (List.replicate n 0)))) ∧
          (n - iv [t16, .int .i64 ((i : Int) + 1)] 1).toNat < (n - iv [X, .int .i64 (i : Int)] 1).toNat) (H'.put b (ints (List.replicate n 0))) := by
      intro Hx cells X hPR hbx hg
      refine appendA_growR hg (m := 1) (new := [.ref 1 b 0 n (some n)]) (by simp [srcOf]) rfl rfl (by omega) (by omega) (by omega) fun v2 H2 hg2 ho2 => ?_
      obtain ⟨b2, hb2, rfl, rfl⟩ := hg2.own ho2
      have hP1 := hPR.push (l := List.replicate n 0) (cp := some n) hbx
      rw [hl0] at hP1
      have hP2 := hP1.pt hb2
      rw [← List.replicate_succ'] at hP2
      exact ⟨⟨i + 1, _, rfl, by omega, .inr ⟨b2, _, rfl, hP2⟩⟩, by simp <;> omega⟩
    rcases hX with ⟨rfl, rfl, rfl⟩ | ⟨bo, cells, rfl, hP⟩
    · exact key H' [] .nils (PR.nil H') hb (Grow.nils 1 _)
    · have hbo : b ≠ bo := by rintro rfl; rw [hP.out] at hb; cases hb
      refine key (H'.del bo) cells _ (hP.pr fun l hl => by
        have := List.eq_of_mem_replicate hl
        rw [this]
        intro h
        have := congrArg List.length h
        simp at this; omega) (by simp only [Heap.del, if_neg hbo]; exact hb) ?_
      have hd : ((H'.del bo).put b (ints (List.replicate n 0))) bo = none := by rw [Heap.put_ne (Ne.symm hbo)]; simp [Heap.del]
      have hput : H'.put b (ints (List.replicate n 0)) = ((H'.del bo).put b (ints (List.replicate n 0))).put bo cells := by
        funext y
        simp only [Heap.put, Heap.del]
        by_cases hy : y = bo
        · subst hy; rw [if_pos rfl, if_neg (Ne.symm hbo)]; exact hP.out
        · rw [if_neg hy, if_neg hy]
      have := Grow.ref (sz := 1) (H := (H'.del bo).put b (ints (List.replicate n 0))) (b := bo) (n := i) (cells := cells) hd (by rw [hP.len]; simp)
      rwa [← hput] at this
  · have hie : i = n := by omega
    subst hie
    rcases hX with ⟨h0, _, _⟩ | ⟨bo, cells, rfl, hP⟩
    · omega
    · try simp only [letO_some]
      exact endK_ret (hk bo cells H' hP)
section
variable {H : Heap} {K : AV → Heap → Prop}
theorem eA : evenE tA = (2, 0) := by decide
theorem cB : countE tB = (6, 0) := by decide
theorem cC : countE tC = (0, 0) := by decide
theorem gA : weightE tA = (2, 0) := by decide
theorem gC : weightE tC = (0, 0) := by decide
theorem pA : splitsE tA = (1, 0) := by decide
theorem pC : splitsE tC = (0, 17) := by decide
theorem sA : splitS tA = [([0, 1, 2], 1), ([1, 2, 0], 1)] := by decide
def sha : List (List Nat × Int) := [([0, 1, 2], 1), ([1, 2, 0], 1)]
theorem c18A (hk : K (.tup [.int .i64 2, .int .i64 0]) H) : ACalls Tryd.prog 18 [tlit tA] H K := c18 (RT.tlit _ _) lA shA (by rw [eA]; exact hk)
theorem c18C (hk : K (.tup [.int .i64 0, .int .i64 17]) H) : ACalls Tryd.prog 18 [tlit tC] H K := c18 (RT.tlit _ _) lC shC' (by rw [eC]; exact hk)
theorem c22B (hk : K (.tup [.int .i64 6, .int .i64 0]) H) : ACalls Tryd.prog 22 [tlit tB] H K := c22 (RT.tlit _ _) lB shB (by rw [cB, kB]; exact hk)
theorem c22C (hk : K (.tup [.int .i64 0, .int .i64 0]) H) : ACalls Tryd.prog 22 [tlit tC] H K := c22 (RT.tlit _ _) lC shC' (by rw [cC, kC]; exact hk)
theorem c25A (hk : K (.tup [.int .i64 2, .int .i64 0]) H) : ACalls Tryd.prog 25 [tlit tA] H K := c25 (RT.tlit _ _) lA shA (by rw [gA, kA]; exact hk)
theorem c25C (hk : K (.tup [.int .i64 0, .int .i64 0]) H) : ACalls Tryd.prog 25 [tlit tC] H K := c25 (RT.tlit _ _) lC shC' (by rw [gC, kC]; exact hk)
theorem c40A (hk : K (.tup [.int .i64 1, .int .i64 0]) H) : ACalls Tryd.prog 40 [tlit tA] H K := c40 (RT.tlit _ _) lA shA (by rw [pA]; exact hk)
theorem c40C (hk : K (.tup [.int .i64 0, .int .i64 17]) H) : ACalls Tryd.prog 40 [tlit tC] H K := c40 (RT.tlit _ _) lC shC' (by rw [pC]; exact hk)
theorem c38A (hk : K (.tup [.imm sha.length false (sha.flatMap shC), .int .i64 0]) H) : ACalls Tryd.prog 38 [tlit tA] H K := c38 (RT.tlit _ _) lA shA (by rw [eA, sA]; exact hk)
theorem m0 : sumE 3 [([0, 1, 2], 0)] = ([], 1) := by decide
theorem m2 : sumE 2 [([0, 1, 2], 1)] = ([], 5) := by decide
theorem mN : sumE 3 [] = (zeroT 3, 0) := by decide
theorem c42z (hk : K (.tup [tl [], .int .i64 1]) H) : ACalls Tryd.prog 42 [.int .i64 3, .imm 1 true [lit [0, 1, 2], .int .i64 0]] H K := c42 (RS.lit1 _ _ _) (by decide) (by decide) (by rw [m0]; exact hk)
theorem c42s (hk : K (.tup [tl [], .int .i64 5]) H) : ACalls Tryd.prog 42 [.int .i64 2, .imm 1 true [lit [0, 1, 2], .int .i64 1]] H K := c42 (RS.lit1 _ _ _) (by decide) (by decide) (by rw [m2]; exact hk)
theorem c42n (hk : K (.tup [tl (zeroT 3), .int .i64 0]) H) : ACalls Tryd.prog 42 [.int .i64 3, .nils] H K := c42 (ss := []) ⟨[], ⟨rfl, rfl⟩, fun i hi => by simp at hi⟩ (by decide) (by decide) (by rw [mN]; exact hk)
theorem c67s (hk : K (.bool true) H) : ACalls Tryd.prog 67 [.imm sha.length false (sha.flatMap shC), .imm 2 true [lit [0, 1, 2], .int .i64 1, lit [1, 2, 0], .int .i64 1]] H K := c67 (RS.of _ _) (RS.lit2 _ _ _ _ _) (by decide) (by decide) (by rw [decide_eq_true (by decide)]; exact hk)
theorem c49k (hk : ∀ bo H', RT H' (.ref 1 bo 0 3 none) (zeroT 3) → K (.ref 1 bo 0 3 none) H') : ACalls Tryd.prog 49 [.int .i64 3] H K := c49 (n := 3) (by omega) fun bo cells H' hP => hk bo H' (hP.rt none)
theorem c29z {v : AV} (hv : RT H v (zeroT 3)) (hk : K (.bool true) H) : ACalls Tryd.prog 29 [tl (zeroT 3), v] H K := c29 (RT.tl _ _) hv (by decide) (by decide) (by rw [decide_eq_true rfl]; exact hk)
theorem c32c (hk : K (.int .i64 5) H) : ACalls Tryd.prog 32 [tlit tA, lit [0, 1]] H K := c32 (RT.tlit _ _) (lit_reads _ _) lA shA (by decide) (by rw [show withE tA [0, 1] = 5 by decide]; exact hk)
theorem c32d (hk : K (.int .i64 6) H) : ACalls Tryd.prog 32 [tlit tA, lit [0, 0, 1]] H K := c32 (RT.tlit _ _) (lit_reads _ _) lA shA (by decide) (by rw [show withE tA [0, 0, 1] = 6 by decide]; exact hk)
theorem c32e (hk : K (.int .i64 2) H) : ACalls Tryd.prog 32 [tlit tA, lit [0, 3, 1]] H K := c32 (RT.tlit _ _) (lit_reads _ _) lA shA (by decide) (by rw [show withE tA [0, 3, 1] = 2 by decide]; exact hk)
theorem c36c (hk : K (.int .i64 14) H) : ACalls Tryd.prog 36 [tlit tC, lit [0, 2], lit [1, 2]] H K := c36 (RT.tlit _ _) (lit_reads _ _) (lit_reads _ _) lC shC' (by decide) (by decide) (by rw [show provesE tC [0, 2] [1, 2] = 14 by decide]; exact hk)
theorem c36d (hk : K (.int .i64 7) H) : ACalls Tryd.prog 36 [tlit tC, lit [1, 0], lit [1, 2]] H K := c36 (RT.tlit _ _) (lit_reads _ _) (lit_reads _ _) lC shC' (by decide) (by decide) (by rw [show provesE tC [1, 0] [1, 2] = 7 by decide]; exact hk)
theorem c36e (hk : K (.int .i64 2) H) : ACalls Tryd.prog 36 [tlit tC, lit [0, 3], lit [1, 2]] H K := c36 (RT.tlit _ _) (lit_reads _ _) (lit_reads _ _) lC shC' (by decide) (by decide) (by rw [show provesE tC [0, 3] [1, 2] = 2 by decide]; exact hk)
theorem c30n (hk : K (.int .i64 4) H) : ACalls Tryd.prog 30 [.nils] H K := c30 (t := []) ⟨[], ⟨rfl, rfl⟩, fun r hr => by simp at hr⟩ (by decide) (by decide) (by rw [show chkT [] = 4 by decide]; exact hk)
theorem c30s (hk : K (.int .i64 5) H) : ACalls Tryd.prog 30 [tlit [[1, 0], [1]]] H K := c30 (RT.tlit _ _) (by decide) (by decide) (by rw [show chkT [[1, 0], [1]] = 5 by decide]; exact hk)
theorem c30r (hk : K (.int .i64 1) H) : ACalls Tryd.prog 30 [tlit [[10]]] H K := c30 (RT.tlit _ _) (by decide) (by decide) (by rw [show chkT [[10]] = 1 by decide]; exact hk)
theorem c30m {b : Nat} (hb : H b = some (List.replicate 5 .nils)) (hk : K (.int .i64 3) H) : ACalls Tryd.prog 30 [.ref 1 b 0 5 (some 5)] H K := by
  have hr : RT H (.ref 1 b 0 5 (some 5)) (List.replicate 5 []) := by
    refine ⟨List.replicate 5 .nils, ⟨rfl, rfl, rfl, _, hb, by decide, by rfl⟩, fun r hr => ?_⟩
    have hr5 : r < 5 := by simpa using hr
    refine ⟨.nils, by rw [List.getElem?_replicate, if_pos hr5], ?_⟩
    have : (List.replicate 5 ([] : List Int)).getD r [] = [] := by rw [List.getD_eq_getElem?_getD, List.getElem?_replicate, if_pos hr5]; rfl
    rw [this]
    exact rfl
  exact c30 hr (by decide) (by decide) (by rw [show chkT (List.replicate 5 []) = 3 by decide]; exact hk)
theorem exMk {k : AV → Heap → Prop} (h : ∀ b H', H' b = some (List.replicate 5 .nils) → k (.ref 1 b 0 5 (some 5)) H') :
    ∃ J : AV → Heap → Prop, condG (.bool true) true (makeA [.nils] 1 24 (.int .i64 5) (.int .i64 5) (fun t h => J t h) H) (J (.tup []) H) ∧ ∀ t h, J t h → k t h := by
  refine ⟨k, condG_tt.2 ⟨by decide, by decide, by decide, by decide, fun b hb => ?_⟩, fun _ _ h => h⟩
  exact h b _ Heap.put_same
theorem lt1 {a : List Int} : literalF Tryd.prog 22 1 [(0, lit a)] = some [lit a] := by
  rw [literalF_of (show literalPlan Tryd.prog 22 = some ([.nils], 1) by kernel_rfl) (by decide) (by simp)]
  rfl
theorem lt2 {a b : List Int} : literalF Tryd.prog 22 2 [(0, lit a), (1, lit b)] = some [lit a, lit b] := by
  rw [literalF_of (show literalPlan Tryd.prog 22 = some ([.nils], 1) by kernel_rfl) (by decide) (by simp)]
  rfl
end
end Go.Proofs.YtbofkeoebnjjkaaDoor
