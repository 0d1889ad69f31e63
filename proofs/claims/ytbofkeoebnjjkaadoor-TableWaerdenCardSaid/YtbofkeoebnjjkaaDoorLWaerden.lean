import Derived.Test.YtbofkeoebnjjkaaDoorLWaerdenP1
import Derived.Test.YtbofkeoebnjjkaaDoorConB
import Derived.Test.YtbofkeoebnjjkaaDoorBase
import Derived.Test.YtbofkeoebnjjkaaDoorAvB
import Derived.Test.YtbofkeoebnjjkaaDoorRows
import Derived.MakeChecks
import Derived.LaidLaws
import Derived.Deep.DeepLaidRun
import Derived.LaidHandle
import Derived.Test.YtbofkeoebnjjkaaDoorTie
import Derived.Test.YtbofkeoebnjjkaaDoorCards
import Derived.SevenTiedAt
/- TableWaerden: for every input the law returns true, and the input reads as before. No conditions. -/
namespace Go.Proofs.YtbofkeoebnjjkaaDoor
open Go.Av Tab
set_option linter.unusedVariables false
set_option linter.unusedSimpArgs false
set_option maxRecDepth 4000

theorem prodZ_K (t : Tb) (p : List Nat) : ∀ i, prodZ t (up p) i = prodK t p i
  | 0 => rfl
  | i + 1 => by rw [prodZ, prodK, prodZ_K t p i, up_getN]
theorem l72 {x y : AV} (hx : cellsOf? x = some [x]) (hy : cellsOf? y = some [y]) : literalF Tryd.prog 72 2 [(0, x), (1, y)] = some [x, y] := by
  rw [literalF_of (show literalPlan Tryd.prog 72 = some ([.nils], 1) by kernel_rfl) (by decide) (by simp)]
  simp [fillA, hx, hy, splice, rowOf, List.range_succ]
theorem sumP_snoc (t : Tb) (l : List (List Nat)) (p : List Nat) : sumP t (l ++ [p]) = sumP t l + prodK t p t.length := by simp [sumP]
/-- TableWaerden -/
theorem c9 {g : List Nat} {H : Heap} {K : AV → Heap → Prop} (hg : Led g) (hk : K (.bool true) H) : ACalls Tryd.prog 9 [.agg (u8s g)] H K := by
  apply W9_ok
  unfold W9
  have hb := gsz_bd g
  simp only [letO_some, cellsOf?_agg, cellsOf?_int, cellsOf?_bool, cellsOf?_imm, cellsOf?_ref, cellsOf?_nils, faddr_iptr, faddr_ptr, List.drop_succ_cons, List.drop_zero, List.take_succ_cons, List.take_zero, load1_iptr, loadN_iptr, List.length_cons, List.length_nil, Nat.le_refl, if_true, List.getElem?_cons_zero, List.getElem?_cons_succ, List.getD_cons_zero, List.getD_cons_succ, extrF_tup, binF_add, binF_sub, binF_mul, binF_eql, binF_neq, binF_lss, binF_leq, binF_gtr, binF_geq, true_and, hg.all]
  refine c44 (most := 8) hg ⟨by omega, by omega⟩ ?_
  have hk8 : evenN g 8 ≤ 8 := by have := Nat.mod_lt (gv g 1) (show 8 + 1 > 0 by omega); unfold evenN; omega
  have hchk : chkT (evenT g 8) = 0 := evenK_chk g (by omega)
  have hlen : (evenT g 8).length = gsz g := evenK_len g _
  have hsum : ∀ r, r < (evenT g 8).length → rowS (evenT g 8) r (evenT g 8).length = (evenN g 8 : Nat) ∧ colS (evenT g 8) r (evenT g 8).length = (evenN g 8 : Nat) := fun r hr => by
    rw [hlen] at hr ⊢
    exact evenK_sums g _ r hr
  have hvl := (RT.tl H (evenT g 8)).len
  simp only [letO_some, cellsOf?_agg, cellsOf?_int, cellsOf?_bool, cellsOf?_imm, cellsOf?_ref, cellsOf?_nils, faddr_iptr, faddr_ptr, List.drop_succ_cons, List.drop_zero, List.take_succ_cons, List.take_zero, load1_iptr, loadN_iptr, List.length_cons, List.length_nil, Nat.le_refl, if_true, List.getElem?_cons_zero, List.getElem?_cons_succ, List.getD_cons_zero, List.getD_cons_succ, extrF_tup, binF_add, binF_sub, binF_mul, binF_eql, binF_neq, binF_lss, binF_leq, binF_gtr, binF_geq, true_and, hvl, hg.all]
  refine c54 hg ?_
  have hchk2 := freeT_chk g
  have hlen2 := freeT_length g
  generalize evenT g 8 = t at *
  generalize evenN g 8 = k at *
  generalize freeT g = u at *
  generalize gsz g = n at *
  have hsl : ∀ {t : Tb}, chkT t = 0 → ∀ l ∈ t, l.length < 2 ^ 63 := fun {t} hchk l hl => Nat.lt_of_le_of_lt (Nat.le_trans (Nat.le_of_eq ((chkT_ok hchk).2.2 l hl).1) (chkT_ok hchk).2.1) (by decide)
  have h2l : lenA (.imm 2 true [tl t, tl u]) = some (.int .i64 2) := rfl
  simp only [l72 (show cellsOf? (tl t) = some [tl t] from rfl) (show cellsOf? (tl u) = some [tl u] from rfl), letO_some, h2l, hlen]
  refine ⟨fun L H' => ∃ i : Nat, eqt L [.int .i64 i] ∧ i ≤ 2 ∧ eqt H' H, fun L _ => (2 - iv L 0).toNat, ⟨0, rfl, by omega, rfl⟩, ?_⟩
  rintro L H' ⟨i, rfl, hi, rfl⟩
  try simp only [letO_some, cellsOf?_agg, cellsOf?_int, cellsOf?_bool, cellsOf?_imm, cellsOf?_ref, cellsOf?_nils, faddr_iptr, faddr_ptr, List.drop_succ_cons, List.drop_zero, List.take_succ_cons, List.take_zero, load1_iptr, loadN_iptr, List.length_cons, List.length_nil, Nat.le_refl, if_true, List.getElem?_cons_zero, List.getElem?_cons_succ, List.getD_cons_zero, List.getD_cons_succ, extrF_tup, binF_add, binF_sub, binF_mul, binF_eql, binF_neq, binF_lss, binF_leq, binF_gtr, binF_geq, true_and]
  refine condA_t (fun hlt => ?_) (fun hge => ?_)
  · have a1 : i < 2 := by omega
    obtain ⟨x, hx1, hx2, hxe⟩ : ∃ x : Tb, chkT x = 0 ∧ x.length = n ∧ ([tl t, tl u] : List AV)[i]? = some (tl x) := by
      have : i = 0 ∨ i = 1 := by omega
      rcases this with rfl | rfl
      · exact ⟨t, hchk, hlen, rfl⟩
      · exact ⟨u, hchk2, hlen2, rfl⟩
    have hget : ∀ k : AV → Prop, k (tl x) → letO (idx 1 (.imm 2 true [tl t, tl u]) (.int .i64 (i : Int))) fun q => letO (load1 q H') k := by
      intro k hk
      refine ReadsC.get (v := .imm 2 true [tl t, tl u]) (Heap.le_refl H') (n := 2) (cells := [tl t, tl u]) ⟨rfl, rfl, rfl⟩ (x := tl x) (by omega) (by omega) (by rw [Int.toNat_natCast]; exact hxe) hk
    refine hget _ ?_
    try simp only [letO_some, cellsOf?_agg, cellsOf?_int, cellsOf?_bool, cellsOf?_imm, cellsOf?_ref, cellsOf?_nils, faddr_iptr, faddr_ptr, List.drop_succ_cons, List.drop_zero, List.take_succ_cons, List.take_zero, load1_iptr, loadN_iptr, List.length_cons, List.length_nil, Nat.le_refl, if_true, List.getElem?_cons_zero, List.getElem?_cons_succ, List.getD_cons_zero, List.getD_cons_succ, extrF_tup, binF_add, binF_sub, binF_mul, binF_eql, binF_neq, binF_lss, binF_leq, binF_gtr, binF_geq, true_and]
    refine c45 hb ?_
    have hPl := plansS_len hb.2
    have hPm : ∀ p ∈ plansS n, p.length = n ∧ ∀ c ∈ p, c < n := fun p hp => plansS_mem hp
    have hPL := (RT.tl H' ((plansS n).map up)).len
    have hw : (weightE x).1 = sumP x (plansS n) := by rw [weightE_eq hx1, hx2]
    have hxr : ∀ r, r < n → (row x r).length = n := fun r hr => by rw [← hx2]; exact row_len hx1 (by rw [hx2]; exact hr)
    generalize hPP : plansS n = P at *
    rw [List.length_map] at hPL
    simp only [letO_some, cellsOf?_agg, cellsOf?_int, cellsOf?_bool, cellsOf?_imm, cellsOf?_ref, cellsOf?_nils, faddr_iptr, faddr_ptr, List.drop_succ_cons, List.drop_zero, List.take_succ_cons, List.take_zero, load1_iptr, loadN_iptr, List.length_cons, List.length_nil, Nat.le_refl, if_true, List.getElem?_cons_zero, List.getElem?_cons_succ, List.getD_cons_zero, List.getD_cons_succ, extrF_tup, binF_add, binF_sub, binF_mul, binF_eql, binF_neq, binF_lss, binF_leq, binF_gtr, binF_geq, true_and, hPL]
    refine ⟨fun L H'' => ∃ j : Nat, eqt L [.int .i64 (sumP x (P.take j)), .int .i64 j] ∧ j ≤ P.length ∧ eqt H'' H', fun L _ => (P.length - iv L 1).toNat, ⟨0, rfl, by omega, rfl⟩, ?_⟩
    rintro L H'' ⟨j, rfl, hj, rfl⟩
    try simp only [letO_some, cellsOf?_agg, cellsOf?_int, cellsOf?_bool, cellsOf?_imm, cellsOf?_ref, cellsOf?_nils, faddr_iptr, faddr_ptr, List.drop_succ_cons, List.drop_zero, List.take_succ_cons, List.take_zero, load1_iptr, loadN_iptr, List.length_cons, List.length_nil, Nat.le_refl, if_true, List.getElem?_cons_zero, List.getElem?_cons_succ, List.getD_cons_zero, List.getD_cons_succ, extrF_tup, binF_add, binF_sub, binF_mul, binF_eql, binF_neq, binF_lss, binF_leq, binF_gtr, binF_geq, true_and]
    refine condA_t (fun hlt2 => ?_) (fun hge2 => ?_)
    · have b1 : j < P.length := by omega
      have hgp : ∀ k : AV → Prop, k (sl (up P[j])) → letO (idx 1 (tl (P.map up)) (.int .i64 (j : Int))) fun q => letO (load1 q H'') k := by
        intro k hk
        refine ReadsC.get (Heap.le_refl H'') (n := P.length) (cells := (P.map up).map sl) ⟨by simp, by simp [tl]⟩ (x := sl (up P[j])) (by omega) (by omega) ?_ hk
        simp [b1]
      refine hgp _ ?_
      obtain ⟨p1, p2⟩ := hPm P[j] (List.getElem_mem b1)
      try simp only [letO_some, cellsOf?_agg, cellsOf?_int, cellsOf?_bool, cellsOf?_imm, cellsOf?_ref, cellsOf?_nils, faddr_iptr, faddr_ptr, List.drop_succ_cons, List.drop_zero, List.take_succ_cons, List.take_zero, load1_iptr, loadN_iptr, List.length_cons, List.length_nil, Nat.le_refl, if_true, List.getElem?_cons_zero, List.getElem?_cons_succ, List.getD_cons_zero, List.getD_cons_succ, extrF_tup, binF_add, binF_sub, binF_mul, binF_eql, binF_neq, binF_lss, binF_leq, binF_gtr, binF_geq, true_and]
      refine c48 (RT.tl _ _) (Reads.sl _ _) (by rw [up_length]; omega) (by rw [up_length]; omega) (fun r c => by have := cell_rng hx1 r c; omega) (fun r hr => by
        rw [up_length, p1] at hr
        have hm := p2 _ (getD_mem (l := P[j]) (i := r) (d := 0) (by omega))
        rw [up_getD, hxr r hr]
        omega) ?_
      rw [up_length, p1, prodZ_K]
      have s1 := sumP_bd hx1 (P.take j)
      have s2 := sumP_bd hx1 (P.take (j + 1))
      have hst : sumP x (P.take j) + prodK x P[j] n = sumP x (P.take (j + 1)) := by
        rw [take_snoc b1, sumP_snoc, hx2]
      have l1 : (P.take j).length ≤ 256 := by rw [List.length_take]; omega
      have l2 : (P.take (j + 1)).length ≤ 256 := by rw [List.length_take]; omega
      simp only [letO_some, cellsOf?_agg, cellsOf?_int, cellsOf?_bool, cellsOf?_imm, cellsOf?_ref, cellsOf?_nils, faddr_iptr, faddr_ptr, List.drop_succ_cons, List.drop_zero, List.take_succ_cons, List.take_zero, load1_iptr, loadN_iptr, List.length_cons, List.length_nil, Nat.le_refl, if_true, List.getElem?_cons_zero, List.getElem?_cons_succ, List.getD_cons_zero, List.getD_cons_succ, extrF_tup, binF_add, binF_sub, binF_mul, binF_eql, binF_neq, binF_lss, binF_leq, binF_gtr, binF_geq, true_and, hst]
      rw [wrap_i64 (n := sumP x (P.take (j + 1))) (by omega) (by omega), wrap_i64 (by omega) (by omega)]
      exact ⟨⟨j + 1, rfl, by omega, rfl⟩, by simp <;> omega⟩
    have hje : j = P.length := by omega
    subst hje
    rw [List.take_length]
    try simp only [letO_some, cellsOf?_agg, cellsOf?_int, cellsOf?_bool, cellsOf?_imm, cellsOf?_ref, cellsOf?_nils, faddr_iptr, faddr_ptr, List.drop_succ_cons, List.drop_zero, List.take_succ_cons, List.take_zero, load1_iptr, loadN_iptr, List.length_cons, List.length_nil, Nat.le_refl, if_true, List.getElem?_cons_zero, List.getElem?_cons_succ, List.getD_cons_zero, List.getD_cons_succ, extrF_tup, binF_add, binF_sub, binF_mul, binF_eql, binF_neq, binF_lss, binF_leq, binF_gtr, binF_geq, true_and]
    refine c25 (RT.tl _ _) (by omega) (hsl hx1) ?_
    rw [hw, hx1]
    simp only [letO_some, cellsOf?_agg, cellsOf?_int, cellsOf?_bool, cellsOf?_imm, cellsOf?_ref, cellsOf?_nils, faddr_iptr, faddr_ptr, List.drop_succ_cons, List.drop_zero, List.take_succ_cons, List.take_zero, load1_iptr, loadN_iptr, List.length_cons, List.length_nil, Nat.le_refl, if_true, List.getElem?_cons_zero, List.getElem?_cons_succ, List.getD_cons_zero, List.getD_cons_succ, extrF_tup, binF_add, binF_sub, binF_mul, binF_eql, binF_neq, binF_lss, binF_leq, binF_gtr, binF_geq, true_and, gval_bool, Int.reduceBNe, Int.reduceBEq, pickF_true, pickF_false, reduceIte, Bool.true_eq_false, Bool.false_eq_true, if_false, condA_tt, condA_ff, condG_tt, condG_ff, condG_tt', condG_ff', condG_undef, gval_undef, bne_self_eq_false]
    rw [wrap_i64 (by omega) (by omega)]
    exact ⟨⟨i + 1, rfl, by omega, rfl⟩, by simp <;> omega⟩
  try simp only [letO_some, cellsOf?_agg, cellsOf?_int, cellsOf?_bool, cellsOf?_imm, cellsOf?_ref, cellsOf?_nils, faddr_iptr, faddr_ptr, List.drop_succ_cons, List.drop_zero, List.take_succ_cons, List.take_zero, load1_iptr, loadN_iptr, List.length_cons, List.length_nil, Nat.le_refl, if_true, List.getElem?_cons_zero, List.getElem?_cons_succ, List.getD_cons_zero, List.getD_cons_succ, extrF_tup, binF_add, binF_sub, binF_mul, binF_eql, binF_neq, binF_lss, binF_leq, binF_gtr, binF_geq, true_and]
  refine c25 (RT.tl _ _) (by omega) (hsl hchk) ?_
  have hwd := waerden hchk hk8 hsum
  have hwb := sumP_bd hchk (plansS t.length)
  rw [← weightE_eq hchk] at hwb
  have hpl := plansS_len (show t.length ≤ 4 by omega)
  rw [hchk]
  simp only [letO_some, cellsOf?_agg, cellsOf?_int, cellsOf?_bool, cellsOf?_imm, cellsOf?_ref, cellsOf?_nils, faddr_iptr, faddr_ptr, List.drop_succ_cons, List.drop_zero, List.take_succ_cons, List.take_zero, load1_iptr, loadN_iptr, List.length_cons, List.length_nil, Nat.le_refl, if_true, List.getElem?_cons_zero, List.getElem?_cons_succ, List.getD_cons_zero, List.getD_cons_succ, extrF_tup, binF_add, binF_sub, binF_mul, binF_eql, binF_neq, binF_lss, binF_leq, binF_gtr, binF_geq, true_and]
  rw [hlen] at hwd
  have hw0 : 0 ≤ (weightE t).1 := hwb.1
  have hw1 : (weightE t).1 ≤ 1679616 := by omega
  generalize (weightE t).1 = w at *
  have hleft : ∀ i, i ≤ 4 → 0 ≤ w * ((n ^ i : Nat) : Int) ∧ w * ((n ^ i : Nat) : Int) ≤ 1679616 * 256 := fun i hi => by
    have h1 : n ^ i ≤ 4 ^ i := Nat.pow_le_pow_left hb.2 i
    have h2 : 4 ^ i ≤ 4 ^ 4 := Nat.pow_le_pow_right (by decide) hi
    have h3 : ((n ^ i : Nat) : Int) ≤ 256 := by have : n ^ i ≤ 256 := Nat.le_trans h1 h2; omega
    exact ⟨Int.mul_nonneg hw0 (by omega), Int.mul_le_mul hw1 h3 (by omega) (by decide)⟩
  refine ⟨fun L H'' => ∃ i : Nat, eqt L [.int .i64 (w * ((n ^ i : Nat) : Int)), .int .i64 (rgt k i : Nat), .int .i64 i] ∧ i ≤ n ∧ eqt H'' H', fun L _ => (n - iv L 2).toNat, ⟨0, by simp [eqt, rgt], by omega, rfl⟩, ?_⟩
  rintro L H'' ⟨i, rfl, hi, rfl⟩
  try simp only [letO_some, cellsOf?_agg, cellsOf?_int, cellsOf?_bool, cellsOf?_imm, cellsOf?_ref, cellsOf?_nils, faddr_iptr, faddr_ptr, List.drop_succ_cons, List.drop_zero, List.take_succ_cons, List.take_zero, load1_iptr, loadN_iptr, List.length_cons, List.length_nil, Nat.le_refl, if_true, List.getElem?_cons_zero, List.getElem?_cons_succ, List.getD_cons_zero, List.getD_cons_succ, extrF_tup, binF_add, binF_sub, binF_mul, binF_eql, binF_neq, binF_lss, binF_leq, binF_gtr, binF_geq, true_and]
  refine condA_t (fun hlt2 => ?_) (fun hge2 => ?_)
  · have b1 : i < n := by omega
    have q1 := hleft (i + 1) (by omega)
    have q2 := rgt_bd hk8 (i + 1) (by omega)
    have q3 : 32 ^ (i + 1) ≤ 32 ^ 4 := Nat.pow_le_pow_right (by decide) (by omega)
    have e1 : w * ((n ^ i : Nat) : Int) * (n : Int) = w * ((n ^ (i + 1) : Nat) : Int) := by rw [Int.mul_assoc, ← Int.natCast_mul, Nat.pow_succ]
    have e2 : ((rgt k i : Nat) : Int) * ((k : Int) * ((i : Int) + 1)) = ((rgt k (i + 1) : Nat) : Int) := by rw [rgt, Int.natCast_mul, Int.natCast_mul, Int.natCast_add]; rfl
    have q4 : k * (i + 1) ≤ 8 * 4 := Nat.mul_le_mul hk8 (by omega)
    have e3 : (k : Int) * ((i : Int) + 1) = ((k * (i + 1) : Nat) : Int) := by rw [Int.natCast_mul, Int.natCast_add]; rfl
    rw [wrap_i64 (n := (i : Int) + 1) (by omega) (by omega), wrap_i64 (n := (k : Int) * ((i : Int) + 1)) (by omega) (by omega), e1, e2, wrap_i64 (by omega) (by omega), wrap_i64 (by omega) (by omega)]
    exact ⟨⟨i + 1, rfl, by omega, rfl⟩, by simp <;> omega⟩
  have hie : i = n := by omega
  subst hie
  refine c49 ⟨hb.1, by omega⟩ fun bo cells H1 hP => ?_
  rw [← flatK_zero (k : Int)] at hP
  try simp only [letO_some, cellsOf?_agg, cellsOf?_int, cellsOf?_bool, cellsOf?_imm, cellsOf?_ref, cellsOf?_nils, faddr_iptr, faddr_ptr, List.drop_succ_cons, List.drop_zero, List.take_succ_cons, List.take_zero, load1_iptr, loadN_iptr, List.length_cons, List.length_nil, Nat.le_refl, if_true, List.getElem?_cons_zero, List.getElem?_cons_succ, List.getD_cons_zero, List.getD_cons_succ, extrF_tup, binF_add, binF_sub, binF_mul, binF_eql, binF_neq, binF_lss, binF_leq, binF_gtr, binF_geq, true_and]
  refine ⟨fun L H' => ∃ r : Nat, eqt L [.int .i64 r] ∧ r ≤ i ∧ PT H'' H' bo cells (flatK k i r 0), fun L _ => (i - iv L 0).toNat, ⟨0, rfl, by omega, hP⟩, ?_⟩
  rintro L H2 ⟨r, rfl, hr, hQ⟩
  try simp only [letO_some, cellsOf?_agg, cellsOf?_int, cellsOf?_bool, cellsOf?_imm, cellsOf?_ref, cellsOf?_nils, faddr_iptr, faddr_ptr, List.drop_succ_cons, List.drop_zero, List.take_succ_cons, List.take_zero, load1_iptr, loadN_iptr, List.length_cons, List.length_nil, Nat.le_refl, if_true, List.getElem?_cons_zero, List.getElem?_cons_succ, List.getD_cons_zero, List.getD_cons_succ, extrF_tup, binF_add, binF_sub, binF_mul, binF_eql, binF_neq, binF_lss, binF_leq, binF_gtr, binF_geq, true_and]
  refine condA_t (fun hlt3 => ?_) (fun hge3 => ?_)
  · have b1 : r < i := by omega
    refine ⟨fun L H' => ∃ c : Nat, eqt L [.int .i64 c] ∧ c ≤ i ∧ PT H'' H' bo cells (flatK k i r c), fun L _ => (i - iv L 0).toNat, ⟨0, rfl, by omega, hQ⟩, ?_⟩
    rintro L H3 ⟨c, rfl, hc, hQ⟩
    try simp only [letO_some, cellsOf?_agg, cellsOf?_int, cellsOf?_bool, cellsOf?_imm, cellsOf?_ref, cellsOf?_nils, faddr_iptr, faddr_ptr, List.drop_succ_cons, List.drop_zero, List.take_succ_cons, List.take_zero, load1_iptr, loadN_iptr, List.length_cons, List.length_nil, Nat.le_refl, if_true, List.getElem?_cons_zero, List.getElem?_cons_succ, List.getD_cons_zero, List.getD_cons_succ, extrF_tup, binF_add, binF_sub, binF_mul, binF_eql, binF_neq, binF_lss, binF_leq, binF_gtr, binF_geq, true_and]
    refine condA_t (fun hlt4 => ?_) (fun hge4 => ?_)
    · have c1 : c < i := by omega
      obtain ⟨w', q, q1, q2, q3, q4, q5⟩ := PT.cell none hQ (r := r) (c := c) (by simpa using b1) (by rw [flatK_get b1]; simpa using c1)
      rw [flatK_length] at q1
      simp only [q1, q2, q3, letO_some]
      refine q5 (k : Int) _ fun H4 hQ4 => ?_
      rw [flatK_step b1 c1] at hQ4
      rw [wrap_i64 (by omega) (by omega)]
      exact ⟨⟨c + 1, rfl, by omega, hQ4⟩, by simp <;> omega⟩
    · have hce : c = i := by omega
      subst hce
      rw [flatK_next] at hQ
      rw [wrap_i64 (by omega) (by omega)]
      exact ⟨⟨r + 1, rfl, by omega, hQ⟩, by simp <;> omega⟩
  have hre : r = i := by omega
  subst hre
  have hRQ := hQ.rt none
  rw [flatK_length] at hRQ
  have hf1 := flat_chk ⟨r, by omega⟩ ⟨k, by omega⟩ (by simp only; omega)
  have hf2 := flat_weight ⟨r, by omega⟩ ⟨k, by omega⟩ (by simp only; omega)
  simp only at hf1 hf2
  refine c25 hRQ (by rw [flatK_length]; omega) (hsl hf1) ?_
  rw [hf1, hf2]
  have hge5 : decide (w * ((r ^ r : Nat) : Int) < (rgt k r : Int)) = false := decide_eq_false (by omega)
  have hge6 : decide ((rgt k r : Int) ≤ w * ((r ^ r : Nat) : Int)) = true := decide_eq_true hwd
  simp only [letO_some, cellsOf?_agg, cellsOf?_int, cellsOf?_bool, cellsOf?_imm, cellsOf?_ref, cellsOf?_nils, faddr_iptr, faddr_ptr, List.drop_succ_cons, List.drop_zero, List.take_succ_cons, List.take_zero, load1_iptr, loadN_iptr, List.length_cons, List.length_nil, Nat.le_refl, if_true, List.getElem?_cons_zero, List.getElem?_cons_succ, List.getD_cons_zero, List.getD_cons_succ, extrF_tup, binF_add, binF_sub, binF_mul, binF_eql, binF_neq, binF_lss, binF_leq, binF_gtr, binF_geq, true_and, gval_bool, Int.reduceBNe, Int.reduceBEq, pickF_true, pickF_false, reduceIte, Bool.true_eq_false, Bool.false_eq_true, if_false, condA_tt, condA_ff, condG_tt, condG_ff, condG_tt', condG_ff', condG_undef, gval_undef, beq_self_eq_true, hge6]
  refine exJ ?_
  refine c17 ?_
  try simp only [letO_some, cellsOf?_agg, cellsOf?_int, cellsOf?_bool, cellsOf?_imm, cellsOf?_ref, cellsOf?_nils, faddr_iptr, faddr_ptr, List.drop_succ_cons, List.drop_zero, List.take_succ_cons, List.take_zero, load1_iptr, loadN_iptr, List.length_cons, List.length_nil, Nat.le_refl, if_true, List.getElem?_cons_zero, List.getElem?_cons_succ, List.getD_cons_zero, List.getD_cons_succ, extrF_tup, binF_add, binF_sub, binF_mul, binF_eql, binF_neq, binF_lss, binF_leq, binF_gtr, binF_geq, true_and, gval_bool, Int.reduceBNe, Int.reduceBEq, pickF_true, pickF_false, reduceIte, Bool.true_eq_false, Bool.false_eq_true, if_false, condA_tt, condA_ff, condG_tt, condG_ff, condG_tt', condG_ff', condG_undef, gval_undef]
  exact endK_le hQ.le hk
end Go.Proofs.YtbofkeoebnjjkaaDoor
namespace Go.Proofs.YtbofkeoebnjjkaaDoor.tableWaerden
open Go.Av Tab
theorem law {g : List Nat} (h0 : g.length = 27) (h1 : ∀ x ∈ g, x < 256) : ACalls Tryd.prog 9 [.agg (g.map fun (x : Nat) => .int .u8 (x : Int))] Heap.none fun r _ => r = .bool true :=
  c9 ⟨h0, h1⟩ rfl
end Go.Proofs.YtbofkeoebnjjkaaDoor.tableWaerden

/- From a walk to a tied row: what the listed variables hold. -/
set_option linter.unusedVariables false
namespace Go.Proofs.YtbofkeoebnjjkaaDoor
open Go.ChangeShapes Go.WideShapes Go.ChangeAt Go.RowKit Go.Av

theorem ownK : ownKnob Tryd.prog.godebug = none := by kernel_rfl
theorem laidOutK : laidOutB Tryd.prog = true := by kernel_rfl
theorem g64 : Tryd.prog.globalNamed "math/bits.deBruijn64tab" = some 1 := by kernel_rfl
theorem g64t : (Tryd.prog.globals[1]?).map (·.type) = some 123 := by kernel_rfl
theorem u123 : Tryd.prog.underlying 123 = some (.array 64 5) := by kernel_rfl
theorem u5 : Tryd.prog.underlying 5 = some (.int .u8) := by kernel_rfl
theorem k5 : Tryd.prog.cellsOf 5 = 1 := by kernel_rfl
theorem k123 : Tryd.prog.cellsOf 123 = 64 := by kernel_rfl
abbrev laidL : List (String × DataW Unit) := [("math/bits.deBruijn32tab", Rows.laid_math_bits_deBruijn32tab), ("math/bits.deBruijn64tab", Rows.laid_math_bits_deBruijn64tab)]
def vals64 : List Int := [0, 1, 56, 2, 57, 49, 28, 3, 61, 58, 42, 50, 38, 29, 17, 4, 62, 47, 59, 36, 45, 43, 51, 22, 53, 39, 33, 30, 24, 18, 12, 5, 63, 55, 48, 27, 60, 41, 37, 16, 46, 35, 44, 21, 52, 32, 23, 11, 54, 26, 40, 15, 34, 20, 31, 10, 25, 14, 19, 9, 13, 8, 7, 6]
theorem laid64 : (Rows.laid_math_bits_deBruijn64tab : DataW Unit) = .agg (vals64.map fun n => .lit (.int .u8 n)) := by rfl
theorem tz64_eq : tz64 = vals64.map (.int .u8) := by rfl
/-- WHAT THE CONDITION GIVES A WALK. -/
theorem glb_of_laid {W : World} (h : laidMetH Tryd.prog laidL W) : Glb Tryd.prog (E0 W) := by
  rw [MakeChecks.laidMetH_plain _ _ _ (by kernel_rfl)] at h
  obtain ⟨ps, h1, _⟩ := h
  obtain ⟨_, _, _, _, _, _, _, _, _, _, h2, _⟩ := h1
  obtain ⟨g, t, cs, fuel, p, q, e1, e2, e3, e4, _, _⟩ := h2
  obtain rfl : (1 : Nat) = g := Option.some.inj (g64.symm.trans e1)
  obtain rfl : 123 = t := Option.some.inj (g64t.symm.trans e2)
  intro g cells hg
  unfold globs at hg
  rw [g64] at hg
  split at hg
  · rename_i hh
    cases hh
    cases hg
    obtain ⟨xs, m, _, hx, hl, hxl, hel⟩ := DataW.trod_array u123 e4
    rw [k123] at hl
    have hcs : ∀ i, i < 64 → cs[i]? = some (.int .u8 (vals64.getD i 0)) := by
      intro i hi
      have h5 := hel i hi
      rw [k5, Nat.mul_one] at h5
      have hxi : xs[i]? = some xs[i] := by simp [hxl, hi]
      rw [hxi] at h5
      obtain ⟨n, hn, hx5, _⟩ := DataW.trod_int u5 h5
      have hval : n = vals64.getD i 0 := by
        have h6 : (xs.map (·.1))[i]? = some (DataW.lit (.int .u8 n)) := by
          rw [List.getElem?_map, hxi, hx5]; rfl
        have h7 : (xs.map (·.1)) = vals64.map fun n => DataW.lit (.int .u8 n) := by
          have := congrArg Prod.fst hx
          rw [laid64] at this
          injection this with this
          exact this.symm
        rw [h7, List.getElem?_map] at h6
        have h8 : vals64[i]? = some (vals64.getD i 0) := by
          have : i < vals64.length := hi
          rw [List.getD_eq_getElem?_getD, List.getElem?_eq_getElem this]; rfl
        rw [h8] at h6
        simp only [Option.map_some, Option.some.injEq, DataW.lit.injEq, Lit.int.injEq, true_and] at h6
        exact h6.symm
      have h9 : ((cs.toList.drop i).take 1)[0]? = some (.int .u8 n) := by rw [hn]; rfl
      rw [List.getElem?_take_of_lt (by omega), List.getElem?_drop, Nat.add_zero] at h9
      rw [← hval]
      simpa using h9
    -- the block
    have hblk : ∃ T fr, W.heap[1]? = some (.cells cs T fr) := by
      unfold World.var? at e3
      rw [g64] at e3
      simp only [Option.bind_some] at e3
      split at e3
      · rename_i c T fr hh
        cases e3
        exact ⟨T, fr, hh⟩
      · cases e3
    obtain ⟨T, fr, hblk⟩ := hblk
    refine Rep.iptr tz64 1 0 cs T fr (fun i => .int .u8 (vals64.getD i 0)) hblk (fun i hi => ?_) (fun i hi => ?_)
    · rw [Nat.zero_add]; exact hcs i hi
    · have h1 : i < vals64.length := hi
      have : tz64[i] = .int .u8 (vals64.getD i 0) := by
        have e : tz64[i]? = some (.int .u8 (vals64.getD i 0)) := by
          rw [tz64_eq, List.getElem?_map, List.getD_eq_getElem?_getD, List.getElem?_eq_getElem h1]; rfl
        rw [List.getElem?_eq_getElem hi] at e
        exact Option.some.inj e
      exact Eq.mpr (congrArg (fun z => Rep (E0 W) z (Value.int .u8 (vals64.getD i 0))) this) (Rep.int _ _)
  · cases hg
end Go.Proofs.YtbofkeoebnjjkaaDoor

/- A world that meets the condition; the row's builder. -/
set_option linter.unusedVariables false
namespace Go.Proofs.YtbofkeoebnjjkaaDoor
open Go.ChangeShapes Go.WideShapes Go.ChangeAt Go.RowKit Go.Av

def vals32 : List Int := [0, 1, 28, 2, 29, 14, 24, 3, 30, 22, 20, 15, 25, 17, 4, 8, 31, 27, 13, 23, 21, 19, 16, 7, 26, 12, 18, 6, 11, 5, 10, 9]
/-- A world that meets the condition: the settled one, the two tables laid. -/
noncomputable def laidWorld (os : Os) (blocks : Array Obj) : World :=
  let w0 := World.holding Tryd.prog os ⟨blocks, #[], []⟩
  { w0 with heap := (w0.heap.modify 0 fun
      | .cells _ t frozen => .cells (vals32.map (Value.int .u8)).toArray t frozen
      | o => o).modify 1 fun
      | .cells _ t frozen => .cells (vals64.map (Value.int .u8)).toArray t frozen
      | o => o }
set_option maxRecDepth 100000 in
theorem laidWorld_met0 (os : Os) (args : Array Value) : laidMetH Tryd.prog laidL ((laidWorld os #[]).forCall (fun _ _ => 0) ⟨#[], args, []⟩).memory :=
  laidMetH_of_parts (laidMet_of_run3 80 (by kernel_rfl) (by kernel_rfl) (by kernel_rfl)) (by kernel_rfl)
end Go.Proofs.YtbofkeoebnjjkaaDoor

/- MADE BY PROGRAM (rowt.py): the row and the tied card of TableWaerden. -/
namespace Go.Proofs.YtbofkeoebnjjkaaDoor.tableWaerden
open Go.ChangeShapes Go.WideShapes Go.ChangeAt Go.RowKit Go.Av
set_option linter.unusedVariables false

set_option maxRecDepth 100000 in
theorem lifted (os : Os) (started : os.Started) (H : Type) (enc : TypeId × Value → H) :
    ReturnsInHanded {} Tryd.checked os 9 .any (fun w args => (Rows.tableWaerdenSpec.pre enc Tryd.prog Tryd.f9 [] false w args ∧ laidMetH Tryd.prog laidL w) ∧ sizedMet enc Tryd.prog Tryd.f9 (OpenSpec.ofChange Rows.tableWaerdenSpec) false w args)
      (Rows.tableWaerdenSpec.post enc Tryd.prog Tryd.f9 false true false false) := by
  refine returnsInHanded_of_change_and (C := Tryd.checked) (X := fun w _ => laidMetH Tryd.prog laidL w) (fun _ _ _ hh h => h.of_heap hh) ownK started (by kernel_rfl) Tryd.func9
    (ChangeSpec.witness_at (enc := enc) (C := Tryd.checked) (os := os) (X := fun w _ => laidMetH Tryd.prog laidL w) false (laidWorld os #[]) #[.agg #[.int .u8 0, .int .u8 0, .int .u8 0, .int .u8 0, .int .u8 0, .int .u8 0, .int .u8 0, .int .u8 0, .int .u8 0, .int .u8 0, .int .u8 0, .int .u8 0, .int .u8 0, .int .u8 0, .int .u8 0, .int .u8 0, .int .u8 0, .int .u8 0, .int .u8 0, .int .u8 0, .int .u8 0, .int .u8 0, .int .u8 0, .int .u8 0, .int .u8 0, .int .u8 0, .int .u8 0]] 8 rfl (by kernel_rfl) (by kernel_rfl) (by kernel_rfl) (by kernel_rfl) (by kernel_rfl) (laidWorld_met0 os _)) ?_
  intro W base args ds gs before hval0 hW hcnd _ hL _
  have hval : ∀ (j : Nat) t v, Tryd.f9.params[j]? = some t → args[j]? = some v → Value.okWide Tryd.prog W .any base t v := hval0
  have hW' := hW
  obtain ⟨p, q, hA0, hV, rfl, hfz, hnd⟩ := hW
  have hA : DataW.TrodAll enc Tryd.prog W 0 (fun _ => true) true Tryd.f9.params.toList args.toList ds p := hA0
  have hA1 := hA
  rw [Tryd.params9] at hA hval
  obtain ⟨rfl, rfl⟩ := trodVars_none hV
  clear hA0 hval0
  simp only [List.append_nil] at hW'
  have hlt : ∀ x ∈ p, x.block < W.heap.size := fun x hx => by simpa using hW'.lt x hx
  obtain ⟨v0, d0, rfl, rfl, h0⟩ := trodAll_one hA
  obtain ⟨g0, gl0, gx0, r0⟩ := rep_row (E := E0 W) (n := 27) (u := 5) (.inl ⟨_, Tryd.underlying57⟩) (by kernel_rfl) (by kernel_rfl) Tryd.underlying5 (hval 0 57 v0 rfl rfl)
  refine ((law gl0 gx0).2 (E0 W) W [v0] (glb_of_laid hL) (st0 W) (RepL.cons r0 (RepL.nil _))).mono ?_
  rintro e W' ⟨r, v, E', H', rfl, hr, _, hx, rfl⟩
  cases hr
  exact ⟨_, rfl, _, _, _, [], _, [], hW', trodAll_cons_mk (shut_bool Tryd.underlying4 _) trodAll_mk0, hx.trodAll laidOutK (by kernel_rfl) hA1 hlt, rfl, hx.kept _, fun h => by cases h⟩

theorem over : Rows.tableWaerdenRow.holds Tryd.pinned (OpenSpec.ofChange Rows.tableWaerdenSpec) :=
  OpenClaim.holds_of_wide 9 Tryd.f9 rfl rfl rfl rfl rfl rfl rfl ⟨rfl, rfl, rfl, rfl, rfl⟩ rfl rfl rfl rfl rfl (by kernel_rfl) Tryd.func9 (by kernel_rfl)
    (of_decide_eq_true (by kernel_rfl)) (by unfold Func.isWrapper; first | (rw [if_pos (by decide +kernel)]; kernel_rfl) | (rw [if_neg (by decide +kernel)]; exact ⟨rfl, rfl⟩))
    (fun os started H enc _ => lifted os started H enc)

theorem carded : Rows.TableWaerdenCardSaid :=
  Claim7.holds_tied_plain_at .later [] [.data, .data] true (true, "29ac6a78e3fa4d425541ea16beb52bdc0cb68dcf07b6d1720047e0e447a29f7d") false
    over (fun _ h => by cases h) (by kernel_rfl) (fun _ h => by cases h) tableWaerden_row_tie rfl ⟨rfl, rfl⟩ (by kernel_rfl) rfl
    (fun f fn hf hfn => by
      obtain rfl : f = 9 := Option.some.inj ((show Tryd.prog.funcNamed "headword/headwordlaw11.TableWaerden" = some 9 by kernel_rfl).symm.trans hf) |>.symm
      obtain rfl : fn = Tryd.f9 := (Option.some.inj (Tryd.func9.symm.trans hfn)).symm
      exact ⟨by kernel_rfl, fun j t ht => by
        rw [Tryd.params9] at ht
        have hm := Array.mem_of_getElem? ht
        obtain rfl : t = 57 := by simpa using hm
        · exact (show Tryd.prog.wantsStandIn 57 = false by kernel_rfl)⟩)
    (by kernel_rfl)
#print axioms carded
end Go.Proofs.YtbofkeoebnjjkaaDoor.tableWaerden
