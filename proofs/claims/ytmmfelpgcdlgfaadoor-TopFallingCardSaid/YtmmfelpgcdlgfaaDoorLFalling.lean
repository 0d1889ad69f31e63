import Derived.Test.YtmmfelpgcdlgfaaDoorLFallingP1
import Derived.Test.YtmmfelpgcdlgfaaDoorBase
import Derived.Test.YtmmfelpgcdlgfaaDoorAvB
import Derived.Test.YtmmfelpgcdlgfaaDoorRows
import Derived.MakeChecks
import Derived.LaidLaws
import Derived.Deep.DeepLaidRun
import Derived.LaidHandle
import Derived.Test.YtmmfelpgcdlgfaaDoorTie
import Derived.Test.YtmmfelpgcdlgfaaDoorCards
import Derived.SevenTiedAt
/- TopFalling: for every input the law returns true, and the input reads as before. No conditions. -/
namespace Go.Proofs.YtmmfelpgcdlgfaaDoor
open Go.Av
set_option linter.unusedVariables false
set_option linter.unusedSimpArgs false
set_option maxRecDepth 8000

theorem idx_fst {H H' : Heap} (hl : H.le H') {v : AV} {Y : List Nat} (h : RP H v (srs Y)) {i : Int} {k : AV → Prop} (hi : 0 ≤ i) (hi2 : i < Y.length) (hk : k (.int .i64 (Y.getD i.toNat 0 : Nat))) :
    letO (idx 2 v (.int .i64 i)) fun p => letO (faddr 0 p) fun q => letO (load1 q H') k := by
  obtain ⟨h0, h⟩ := h
  rw [srs_len] at h h0
  have hget : ((srs Y).flatMap prC)[i.toNat * 2]? = some (.int .i64 (Y.getD i.toNat 0 : Nat)) := by
    have := rows_at (f := prC) prC_len (l := srs Y) (i := i.toNat) (k := 0) (srs_get (by omega)) (by omega)
    rw [Nat.add_zero] at this
    rw [this]; rfl
  cases v <;> simp only at h <;> try exact h.elim
  · omega
  · obtain ⟨rfl, rfl⟩ := h
    simp only [idx, hi, hi2, and_self, if_true, letO_some]
    have f0 : ∀ cs, faddr 0 (.iptr cs) = some (.iptr (cs.drop 0)) := fun cs => rfl
    simp only [f0, List.drop_zero, letO_some, load1_iptr, List.getElem?_drop, Nat.add_zero, hget]
    exact hk
  · rename_i s b off m cp
    obtain ⟨rfl, rfl, cs, h1, h2, h3⟩ := h
    have e : cs[off + i.toNat * 2]? = some (.int .i64 (Y.getD i.toNat 0 : Nat)) := by
      rw [← h3, List.getElem?_take_of_lt (by omega), List.getElem?_drop] at hget
      exact hget
    simp only [idx, hi, hi2, and_self, if_true, letO_some]
    have f0 : ∀ o, faddr 0 (.ptr b o) = some (.ptr b (o + 0)) := fun o => rfl
    simp only [f0, Nat.add_zero, letO_some, load1_ptr, hl _ _ h1, Option.bind_some, e]
    exact hk
/-- reign.Falls -/
theorem c21 {v : AV} {Y : List Nat} {H : Heap} {K : AV → Heap → Prop} (hv : RP H v (srs Y)) (h1 : 1 ≤ Y.length) (h8 : Y.length ≤ 8) (hy : ∀ y ∈ Y, y ≤ 100) (hk : ∀ i, K (.tup [.int .i64 i, .int .i64 (if falls Y = [] then 13 else 0)]) H) :
    ACalls Tryd.prog 21 [v] H K := by
  apply W21_ok
  unfold W21
  have hlen := ReadsC.len hv
  rw [srs_len] at hlen
  have e0 : ((0 : Int) != 0) = false := rfl
  have ws : IntKind.i64.wrap ((Y.length : Int) - 1) = ((Y.length - 1 : Nat) : Int) := by rw [wrap_i64 (by omega) (by omega)]; omega
  try simp only [letO_some, cellsOf?_agg, cellsOf?_int, cellsOf?_bool, cellsOf?_imm, cellsOf?_ref, cellsOf?_nils, faddr_iptr, faddr_ptr, List.drop_succ_cons, List.drop_zero, List.take_succ_cons, List.take_zero, load1_iptr, loadN_iptr, List.length_cons, List.length_nil, Nat.le_refl, if_true, List.getElem?_cons_zero, List.getElem?_cons_succ, List.getD_cons_zero, List.getD_cons_succ, extrF_tup, binF_add, binF_sub, binF_mul, binF_eql, binF_neq, binF_lss, binF_leq, binF_gtr, binF_geq, true_and]
  refine c46 hv h1 (by omega) hy ?_
  simp only [letO_some, cellsOf?_agg, cellsOf?_int, cellsOf?_bool, cellsOf?_imm, cellsOf?_ref, cellsOf?_nils, faddr_iptr, faddr_ptr, List.drop_succ_cons, List.drop_zero, List.take_succ_cons, List.take_zero, load1_iptr, loadN_iptr, List.length_cons, List.length_nil, Nat.le_refl, if_true, List.getElem?_cons_zero, List.getElem?_cons_succ, List.getD_cons_zero, List.getD_cons_succ, extrF_tup, binF_add, binF_sub, binF_mul, binF_eql, binF_neq, binF_lss, binF_leq, binF_gtr, binF_geq, true_and, e0, condA_ff, hlen, ws]
  refine ⟨fun L H' => ∃ i : Nat, eqt L [.int .i64 i] ∧ i + 1 ≤ Y.length ∧ eqt H' H ∧ ∀ j, j < i → Y.getD j 0 ≤ Y.getD (j + 1) 0, fun L _ => (Y.length - iv L 0).toNat, ⟨0, rfl, by omega, rfl, by simp⟩, ?_⟩
  rintro L H1 ⟨i, rfl, hi, rfl, hn⟩
  try simp only [letO_some, cellsOf?_agg, cellsOf?_int, cellsOf?_bool, cellsOf?_imm, cellsOf?_ref, cellsOf?_nils, faddr_iptr, faddr_ptr, List.drop_succ_cons, List.drop_zero, List.take_succ_cons, List.take_zero, load1_iptr, loadN_iptr, List.length_cons, List.length_nil, Nat.le_refl, if_true, List.getElem?_cons_zero, List.getElem?_cons_succ, List.getD_cons_zero, List.getD_cons_succ, extrF_tup, binF_add, binF_sub, binF_mul, binF_eql, binF_neq, binF_lss, binF_leq, binF_gtr, binF_geq, true_and]
  refine condA_t (fun hlt => ?_) (fun hge => ?_)
  · have wa : IntKind.i64.wrap ((i : Int) + 1) = ((i + 1 : Nat) : Int) := by rw [wrap_i64 (by omega) (by omega)]; omega
    refine idx_fst (Heap.le_refl _) hv (by omega) (by omega) ?_
    rw [Int.toNat_natCast]
    simp only [letO_some, cellsOf?_agg, cellsOf?_int, cellsOf?_bool, cellsOf?_imm, cellsOf?_ref, cellsOf?_nils, faddr_iptr, faddr_ptr, List.drop_succ_cons, List.drop_zero, List.take_succ_cons, List.take_zero, load1_iptr, loadN_iptr, List.length_cons, List.length_nil, Nat.le_refl, if_true, List.getElem?_cons_zero, List.getElem?_cons_succ, List.getD_cons_zero, List.getD_cons_succ, extrF_tup, binF_add, binF_sub, binF_mul, binF_eql, binF_neq, binF_lss, binF_leq, binF_gtr, binF_geq, true_and, wa]
    refine idx_fst (Heap.le_refl _) hv (by omega) (by omega) ?_
    rw [Int.toNat_natCast]
    try simp only [letO_some, cellsOf?_agg, cellsOf?_int, cellsOf?_bool, cellsOf?_imm, cellsOf?_ref, cellsOf?_nils, faddr_iptr, faddr_ptr, List.drop_succ_cons, List.drop_zero, List.take_succ_cons, List.take_zero, load1_iptr, loadN_iptr, List.length_cons, List.length_nil, Nat.le_refl, if_true, List.getElem?_cons_zero, List.getElem?_cons_succ, List.getD_cons_zero, List.getD_cons_succ, extrF_tup, binF_add, binF_sub, binF_mul, binF_eql, binF_neq, binF_lss, binF_leq, binF_gtr, binF_geq, true_and]
    refine condA_t (fun hc => ?_) (fun hc => ?_)
    · have : falls Y ≠ [] := fun h => by
        have := falls_nil.1 h i (by omega)
        omega
      have hk := hk i
      rw [if_neg this] at hk
      exact endK_ret hk
    · refine ⟨⟨i + 1, rfl, by omega, rfl, fun j hj => ?_⟩, by simp [iv]; omega⟩
      by_cases he : j = i
      · subst he; omega
      · exact hn j (by omega)
  · have : falls Y = [] := falls_nil.2 fun j hj => hn j (by omega)
    have hk := hk 0
    rw [if_pos this] at hk
    exact endK_ret hk
theorem b59 (a b : Nat) : buildF Tryd.prog 59 [(0, .int .i64 (a : Int)), (1, .int .i64 (b : Int))] = some (.agg (prC (a, b))) := by
  rw [buildF_of (show buildPlan Tryd.prog 59 = some ([.int .i64 0, .int .i64 0], [(0, 1), (1, 1)]) by kernel_rfl)]
  simp [fillA, splice, prC]
theorem l57_1 (p : Nat × Nat) : literalF Tryd.prog 57 1 [(0, .agg (prC p))] = some (prC p) := by
  rw [literalF_of (show literalPlan Tryd.prog 57 = some ([.int .i64 0, .int .i64 0], 2) by kernel_rfl) (by decide) (by simp)]
  simp [fillA, splice, rowOf, prC]
theorem l57_3 (p q r : Nat × Nat) : literalF Tryd.prog 57 3 [(0, .agg (prC p)), (1, .agg (prC q)), (2, .agg (prC r))] = some (prC p ++ prC q ++ prC r) := by
  rw [literalF_of (show literalPlan Tryd.prog 57 = some ([.int .i64 0, .int .i64 0], 2) by kernel_rfl) (by decide) (by simp)]
  simp [fillA, splice, rowOf, prC, List.range_succ]
theorem l35_1 (a : Int) : literalF Tryd.prog 35 1 [(0, .int .i64 a)] = some (ints [a]) := l35 cellsOf?_int
/-- reignsWork -/
theorem c22 {H : Heap} {K : AV → Heap → Prop} (hk : K (.bool true) H) : ACalls Tryd.prog 22 [] H K := by
  apply W22_ok
  unfold W22
  have b1 := b59 3 1
  have b2 := b59 1 1
  have b3 := b59 2 1
  simp only [Int.cast_ofNat_Int, Int.natCast_one] at b1 b2 b3
  simp only [letO_some, b1, b2, b3, l57_3]
  refine c20 (Y := [3, 1, 2]) (ReadsC.imm rfl) (by decide) (by decide) (by decide) ?_
  have hs : (shS [3, 1, 2].length (falls [3, 1, 2])).1 = [0] := by decide +kernel
  rw [hs]
  have e0 : ((0 : Int) == 0) = true := rfl
  simp only [letO_some, cellsOf?_agg, cellsOf?_int, cellsOf?_bool, cellsOf?_imm, cellsOf?_ref, cellsOf?_nils, faddr_iptr, faddr_ptr, List.drop_succ_cons, List.drop_zero, List.take_succ_cons, List.take_zero, load1_iptr, loadN_iptr, List.length_cons, List.length_nil, Nat.le_refl, if_true, List.getElem?_cons_zero, List.getElem?_cons_succ, List.getD_cons_zero, List.getD_cons_succ, extrF_tup, binF_add, binF_sub, binF_mul, binF_eql, binF_neq, binF_lss, binF_leq, binF_gtr, binF_geq, true_and, e0, gval_bool, Int.reduceBNe, Int.reduceBEq, pickF_true, pickF_false, reduceIte, Bool.true_eq_false, Bool.false_eq_true, if_false, condA_tt, condA_ff, condG_tt, condG_ff, condG_tt', condG_ff', condG_undef, gval_undef, l35_1, Option.map_some]
  refine exJ (c24 ?_)
  try simp only [letO_some, cellsOf?_agg, cellsOf?_int, cellsOf?_bool, cellsOf?_imm, cellsOf?_ref, cellsOf?_nils, faddr_iptr, faddr_ptr, List.drop_succ_cons, List.drop_zero, List.take_succ_cons, List.take_zero, load1_iptr, loadN_iptr, List.length_cons, List.length_nil, Nat.le_refl, if_true, List.getElem?_cons_zero, List.getElem?_cons_succ, List.getD_cons_zero, List.getD_cons_succ, extrF_tup, binF_add, binF_sub, binF_mul, binF_eql, binF_neq, binF_lss, binF_leq, binF_gtr, binF_geq, true_and, gval_bool, Int.reduceBNe, Int.reduceBEq, pickF_true, pickF_false, reduceIte, Bool.true_eq_false, Bool.false_eq_true, if_false, condA_tt, condA_ff, condG_tt, condG_ff, condG_tt', condG_ff', condG_undef, gval_undef]
  refine exJ (c14 (a := up [0]) (b := [0]) (Reads.sl _ _) ⟨rfl, rfl⟩ (by decide) (by decide) ?_)
  have e2 : decide (up [0] = [0]) = true := by decide
  simp only [letO_some, cellsOf?_agg, cellsOf?_int, cellsOf?_bool, cellsOf?_imm, cellsOf?_ref, cellsOf?_nils, faddr_iptr, faddr_ptr, List.drop_succ_cons, List.drop_zero, List.take_succ_cons, List.take_zero, load1_iptr, loadN_iptr, List.length_cons, List.length_nil, Nat.le_refl, if_true, List.getElem?_cons_zero, List.getElem?_cons_succ, List.getD_cons_zero, List.getD_cons_succ, extrF_tup, binF_add, binF_sub, binF_mul, binF_eql, binF_neq, binF_lss, binF_leq, binF_gtr, binF_geq, true_and, e2, gval_bool, Int.reduceBNe, Int.reduceBEq, pickF_true, pickF_false, reduceIte, Bool.true_eq_false, Bool.false_eq_true, if_false, condA_tt, condA_ff, condG_tt, condG_ff, condG_tt', condG_ff', condG_undef, gval_undef]
  refine exJ (c18 ?_)
  try simp only [letO_some, cellsOf?_agg, cellsOf?_int, cellsOf?_bool, cellsOf?_imm, cellsOf?_ref, cellsOf?_nils, faddr_iptr, faddr_ptr, List.drop_succ_cons, List.drop_zero, List.take_succ_cons, List.take_zero, load1_iptr, loadN_iptr, List.length_cons, List.length_nil, Nat.le_refl, if_true, List.getElem?_cons_zero, List.getElem?_cons_succ, List.getD_cons_zero, List.getD_cons_succ, extrF_tup, binF_add, binF_sub, binF_mul, binF_eql, binF_neq, binF_lss, binF_leq, binF_gtr, binF_geq, true_and, gval_bool, Int.reduceBNe, Int.reduceBEq, pickF_true, pickF_false, reduceIte, Bool.true_eq_false, Bool.false_eq_true, if_false, condA_tt, condA_ff, condG_tt, condG_ff, condG_tt', condG_ff', condG_undef, gval_undef]
  exact endK_ret hk
theorem flat_drop (R : List (Nat × Nat)) (k : Nat) : (R.flatMap prC).drop (k * 2) = (R.drop k).flatMap prC := by
  induction R generalizing k with
  | nil => simp
  | cons s S ih =>
    cases k with
    | zero => rfl
    | succ k =>
      rw [List.drop_succ_cons, List.flatMap_cons, ← ih k]
      rw [show (k + 1) * 2 = (prC s).length + k * 2 by rw [prC_len]; omega, List.drop_length_add_append]
/-- The last pairs. -/
theorem slcPd {H : Heap} {v : AV} {R : List (Nat × Nat)} {k : Nat} (h : RP H v R) (hk : k ≤ R.length) : ∃ v', slc 2 v (some (.int .i64 (k : Int))) none none = some v' ∧ RP H v' (R.drop k) := by
  have n1 : ∀ d, natOf none d = some d := fun d => rfl
  have n2 : ∀ d, natOf (some (.int .i64 (k : Int))) d = some k := fun d => by simp [natOf]
  have hft := flat_drop R k
  obtain ⟨h0, h⟩ := h
  have hln : (R.drop k).length = R.length - k := List.length_drop
  have hrl : ((R.drop k).flatMap prC).length = (R.length - k) * 2 := by rw [rows_len prC_len, hln]
  cases v <;> simp only at h <;> try exact h.elim
  · have : R = [] := List.eq_nil_of_length_eq_zero h
    subst this
    have : k = 0 := by simpa using hk
    subst this
    simp only [slc, n1, n2, Option.bind_some]
    exact ⟨_, rfl, rfl, rfl⟩
  · obtain ⟨rfl, rfl⟩ := h
    simp only [slc, n1, n2, Option.bind_some]
    rw [if_pos ⟨hk, Nat.le_refl _⟩]
    refine ⟨_, rfl, by rw [hrl, hln], ?_, ?_⟩
    · rw [hln]
    · rw [hft, List.take_of_length_le (by omega)]
  · rename_i s b off n cp
    obtain ⟨rfl, rfl, cs, hb, hc, ht⟩ := h
    simp only [slc, n1, n2, Option.bind_some]
    by_cases hlt : k = 0 ∨ k < R.length
    · rw [if_pos ⟨by trivial, hk, by omega, hlt⟩]
      refine ⟨_, rfl, by rw [hrl, hln], rfl, by rw [hln], cs, hb, by rw [hln]; omega, ?_⟩
      rw [hln, ← hft, ← ht, List.drop_take, List.drop_drop, ← Nat.sub_mul]
    · rw [if_neg (by omega), if_pos ⟨by omega, by omega⟩]
      have : R.drop k = [] := List.drop_of_length_le (by omega)
      rw [this]
      exact ⟨_, rfl, rfl, rfl, rfl⟩
theorem fa_snoc (Y : List Nat) (i k : Nat) : (List.range (k + 1)).filterMap (faF Y i) = (List.range k).filterMap (faF Y i) ++ (faF Y i k).toList := by
  rw [List.range_succ, List.filterMap_append]
  congr 1
theorem fa_len (Y : List Nat) (i k : Nat) : ((List.range k).filterMap (faF Y i)).length ≤ k := by
  have := List.length_filterMap_le (faF Y i) (List.range k)
  simpa using this
theorem eqb4 (a b : Bool) : binF Tryd.prog .eql 4 (.bool a) (.bool b) = some (.bool (a == b)) := by
  have h : Tryd.prog.underlying 4 = some .bool := by kernel_rfl
  show (eqF Tryd.prog 4 (.bool a) (.bool b)).map AV.bool = _
  simp only [eqF, h]; rfl
/-- TopFalling -/
theorem c6 {y : Nat} {a : List Nat} {H : Heap} {K : AV → Heap → Prop} (hy : y < 256) (ha : a.length = 8) (ha2 : ∀ x ∈ a, x < 256) (hk : K (.bool true) H) :
    ACalls Tryd.prog 6 [.int .u8 (y : Int), .agg (u8a a)] H K := by
  apply W6_ok
  unfold W6
  have hm5 : y % 5 < 5 := Nat.mod_lt _ (by omega)
  have hrem2 : binF Tryd.prog .rem 3 (.int .i64 (y : Int)) (.int .i64 5) = some (.int .i64 ((y % 5 : Nat) : Int)) := rem_nat (b := 5) (by omega)
  have hc1 : cellsOf? (.agg (u8a a)) = some (u8a a) := rfl
  have hadd : IntKind.i64.wrap (1 + ((y % 5 : Nat) : Int)) = ((1 + y % 5 : Nat) : Int) := by rw [wrap_i64 (by omega) (by omega)]; omega
  generalize hmm : 1 + y % 5 = m at *
  have hsl : slcArr 8 1 (.iptr (u8a a)) none (some (.int .i64 (m : Int))) none = some (.imm m (m == 8) ((u8a a).take m)) := by
    have n1 : ∀ d, natOf none d = some d := fun d => rfl
    have n2 : ∀ d, natOf (some (.int .i64 (m : Int))) d = some m := fun d => by simp [natOf]
    simp only [slcArr, n1, n2, Option.bind_some]
    rw [if_pos ⟨by omega, by omega⟩]
    simp
  have hln : lenA (.imm m (m == 8) ((u8a a).take m)) = some (.int .i64 m) := rfl
  have hrd : ∀ H', ReadsC 1 H' (.imm m (m == 8) ((u8a a).take m)) m ((u8a a).take m) := fun H' => ⟨by rw [List.length_take, u8a_len]; omega, rfl, rfl⟩
  simp only [letO_some, hc1, conv53 (n := (y : Int)) (by omega), hrem2, binF_add, hadd, hsl, hln, true_and]
  have hkl : ∀ i, ((a.take i).map (· % 101)).length ≤ i := fun i => by rw [List.length_map, List.length_take]; omega
  refine ⟨fun L H' => ∃ (i : Nat) (X : AV), eqt L [X, .int .i64 (i : Int)] ∧ i ≤ m ∧ Grow 2 H H' X (srs ((a.take i).map (· % 101))).length ((srs ((a.take i).map (· % 101))).flatMap prC),
    fun L _ => (m - iv L 1).toNat, ⟨0, .nils, rfl, by omega, Grow.nils 2 H⟩, ?_⟩
  rintro L H1 ⟨i, X, rfl, hi, hg⟩
  try simp only [letO_some, cellsOf?_agg, cellsOf?_int, cellsOf?_bool, cellsOf?_imm, cellsOf?_ref, cellsOf?_nils, faddr_iptr, faddr_ptr, List.drop_succ_cons, List.drop_zero, List.take_succ_cons, List.take_zero, load1_iptr, loadN_iptr, List.length_cons, List.length_nil, Nat.le_refl, if_true, List.getElem?_cons_zero, List.getElem?_cons_succ, List.getD_cons_zero, List.getD_cons_succ, extrF_tup, binF_add, binF_sub, binF_mul, binF_eql, binF_neq, binF_lss, binF_leq, binF_gtr, binF_geq, true_and]
  refine condA_t (fun hlt => ?_) (fun hge => ?_)
  · have a1 : i < a.length := by omega
    have htk : (a.take (i + 1)).map (· % 101) = (a.take i).map (· % 101) ++ [a[i] % 101] := by
      rw [List.take_add_one, List.getElem?_eq_getElem a1, Option.toList_some, List.map_append]; rfl
    refine ReadsC.get (Heap.le_refl _) (hrd H1) (x := .int .u8 (a[i] : Int)) (by omega) (by omega) (by rw [Int.toNat_natCast, List.getElem?_take_of_lt (by omega)]; simp [u8a, a1]) ?_
    have hai := ha2 _ (List.getElem_mem a1)
    have hkl := hkl i
    generalize (a.take i).map (· % 101) = pg at *
    generalize a[i] = z at *
    have hrem4 : binF Tryd.prog .rem 3 (.int .i64 (z : Int)) (.int .i64 101) = some (.int .i64 ((z % 101 : Nat) : Int)) := rem_nat (b := 101) (by omega)
    have hb1 := b59 (z % 101) 1
    simp only [Int.natCast_one] at hb1
    simp only [letO_some, conv53 (n := (z : Int)) (by omega), hrem4, hb1, l57_1]
    refine appendA_growR hg (m := 1) (new := prC (z % 101, 1)) (by simp [srcOf, prC]) rfl rfl (by omega) (by rw [srs_len]; omega) (by rw [srs_len]; omega) fun v' H7 hg7 ho7 => ?_
    try simp only [letO_some, binF_add]
    rw [wrap_i64 (by omega) (by omega)]
    refine ⟨⟨i + 1, v', rfl, by omega, ?_⟩, by simp [iv]; omega⟩
    have hs : srs (pg ++ [z % 101]) = srs pg ++ [(z % 101, 1)] := by simp [srs]
    rw [htk, hs, l24_dec, List.length_append]
    exact hg7
  have hie : i = m := by omega
  subst hie
  have hYl : ((a.take i).map (· % 101)).length = i := by rw [List.length_map, List.length_take]; omega
  have hY : ∀ p ∈ (a.take i).map (· % 101), p ≤ 100 := fun p hp => by
    obtain ⟨q, _, rfl⟩ := List.mem_map.1 hp
    have := Nat.mod_lt q (show 0 < 101 by omega)
    omega
  generalize (a.take i).map (· % 101) = Y at *
  have hXr : RP H1 X (srs Y) := hg.readsC
  have hXl := hg.len
  rw [srs_len] at hXl
  have hle1 := hg.le
  clear hg
  have hF := falls_fd (Y := Y) (by omega) (by omega)
  have hten := falls_ten (Y := Y) (by omega)
  have h5 : Y.length ≤ 5 := by omega
  have hlen10 : ∀ j, j ≤ Y.length → ((List.range j).flatMap (faP Y)).length ≤ 10 := fun j hj => by
    have := hten j hj
    have h20 : Y.length * (Y.length - 1) ≤ 5 * 4 := Nat.mul_le_mul h5 (by omega)
    omega
  simp only [hXl, b27n (x := .int .i64 (Y.length : Int)) rfl, letO_some]
  refine alloc_store (cs := [.int .i64 (Y.length : Int), .nils]) rfl rfl rfl rfl fun b7 hb7 => ?_
  have hle7 := Heap.le_new (c := [.int .i64 (Y.length : Int), .nils]) hb7
  have h7 : (H1.put b7 [.int .i64 (Y.length : Int), .nils]) b7 = some [.int .i64 (Y.length : Int), .nils] := Heap.put_same
  generalize H1.put b7 [.int .i64 (Y.length : Int), .nils] = H7 at *
  have f7 : faddr 1 (.ptr b7 0) = some (.ptr b7 1) := rfl
  have fz : ∀ b, faddr 0 (.ptr b 0) = some (.ptr b 0) := fun b => rfl
  try simp only [hXl, letO_some]
  refine ⟨fun L H' => ∃ (i : Nat) (Z : AV) (Hg : Heap), eqt L [.int .i64 (i : Int)] ∧ i ≤ Y.length ∧ Grow 2 Hg H' Z ((List.range i).flatMap (faP Y)).length (((List.range i).flatMap (faP Y)).flatMap prC) ∧ Hg b7 = some [.int .i64 (Y.length : Int), Z] ∧ H1.le Hg,
    fun L _ => (Y.length - iv L 0).toNat, ⟨0, .nils, H7, rfl, by omega, Grow.nils 2 H7, h7, hle7⟩, ?_⟩
  rintro L H8 ⟨j, Z, Hg, rfl, hj, hg, g7, hle8⟩
  have hcpi := hlen10 j (by omega)
  try simp only [letO_some, cellsOf?_agg, cellsOf?_int, cellsOf?_bool, cellsOf?_imm, cellsOf?_ref, cellsOf?_nils, faddr_iptr, faddr_ptr, List.drop_succ_cons, List.drop_zero, List.take_succ_cons, List.take_zero, load1_iptr, loadN_iptr, List.length_cons, List.length_nil, Nat.le_refl, if_true, List.getElem?_cons_zero, List.getElem?_cons_succ, List.getD_cons_zero, List.getD_cons_succ, extrF_tup, binF_add, binF_sub, binF_mul, binF_eql, binF_neq, binF_lss, binF_leq, binF_gtr, binF_geq, true_and]
  refine condA_t (fun hlt => ?_) (fun hge2 => ?_)
  · have j1 : j < Y.length := by omega
    have hle18 := Heap.le_trans hle8 hg.le
    refine ReadsC.getN hle18 hXr (by omega) (by rw [srs_len]; omega) ?_
    rw [Int.toNat_natCast, rows_get prC_len (srs_get j1)]
    have hsn : (List.range (j + 1)).flatMap (faP Y) = (List.range j).flatMap (faP Y) ++ (List.range (Y.length - (j + 1))).filterMap (faF Y j) := by
      rw [List.range_succ, List.flatMap_append]; simp [faP]
    have hjx : ∀ k, faF Y j k = if Y.getD (j + 1 + k) 0 < Y.getD j 0 then some (j, j + 1 + k) else none := fun k => rfl
    have hpy : Y.getD j 0 ≤ 100 := by
      rw [List.getD_eq_getElem?_getD, List.getElem?_eq_getElem j1]; exact hY _ (List.getElem_mem j1)
    generalize Y.getD j 0 = p at *
    refine alloc_store (cs := prC (p, 1)) rfl rfl rfl rfl fun b9 hb9 => ?_
    have h9 : (H8.put b9 (prC (p, 1))) b9 = some (prC (p, 1)) := Heap.put_same
    have hg9 : Grow 2 (Hg.put b9 (prC (p, 1))) (H8.put b9 (prC (p, 1))) Z _ _ := alloc_grow hg hb9
    have hln := Heap.le_new (c := prC (p, 1)) (none_of_le hg.le hb9)
    have hle9 : H1.le (Hg.put b9 (prC (p, 1))) := Heap.le_trans hle8 hln
    have g79 := hln _ _ g7
    have g99 : (Hg.put b9 (prC (p, 1))) b9 = some (prC (p, 1)) := Heap.put_same
    have hne79 : b7 ≠ b9 := by rintro rfl; rw [hg.le _ _ g7] at hb9; cases hb9
    generalize H8.put b9 (prC (p, 1)) = H9 at *
    generalize Hg.put b9 (prC (p, 1)) = Hg9 at *
    have hb7H : H1 b7 = none := hb7
    obtain ⟨v', s1, s2⟩ := slcPd hXr (k := j + 1) (by rw [srs_len]; omega)
    have hv'l := ReadsC.len s2
    rw [List.length_drop, srs_len] at hv'l
    have wj : IntKind.i64.wrap ((j : Int) + 1) = ((j + 1 : Nat) : Int) := by rw [wrap_i64 (by omega) (by omega)]; omega
    simp only [letO_some, binF_add, wj, s1, hv'l]
    refine ⟨fun L H' => ∃ (k : Nat) (Z : AV) (Hg : Heap), eqt L [.int .i64 (k : Int)] ∧ k ≤ Y.length - (j + 1) ∧ Grow 2 Hg H' Z ((List.range j).flatMap (faP Y) ++ (List.range k).filterMap (faF Y j)).length (((List.range j).flatMap (faP Y) ++ (List.range k).filterMap (faF Y j)).flatMap prC) ∧
        Hg b7 = some [.int .i64 (Y.length : Int), Z] ∧ Hg b9 = some (prC (p, 1)) ∧ H1.le Hg,
      fun L _ => (Y.length - (j + 1) - iv L 0).toNat, ⟨0, Z, Hg9, rfl, by omega, by simpa using hg9, g79, g99, hle9⟩, ?_⟩
    rintro L H10 ⟨k, Z2, Hg10, rfl, hk2, hg10, g710, g910, hle10⟩
    have hcl := fa_len Y j k
    try simp only [letO_some, cellsOf?_agg, cellsOf?_int, cellsOf?_bool, cellsOf?_imm, cellsOf?_ref, cellsOf?_nils, faddr_iptr, faddr_ptr, List.drop_succ_cons, List.drop_zero, List.take_succ_cons, List.take_zero, load1_iptr, loadN_iptr, List.length_cons, List.length_nil, Nat.le_refl, if_true, List.getElem?_cons_zero, List.getElem?_cons_succ, List.getD_cons_zero, List.getD_cons_succ, extrF_tup, binF_add, binF_sub, binF_mul, binF_eql, binF_neq, binF_lss, binF_leq, binF_gtr, binF_geq, true_and]
    refine condA_t (fun hlt2 => ?_) (fun hge3 => ?_)
    · have k1 : k < Y.length - (j + 1) := by omega
      refine ⟨fun L H' => eqt L [] ∧ ∃ (Z : AV) (Hg : Heap), Grow 2 Hg H' Z ((List.range j).flatMap (faP Y) ++ (List.range (k + 1)).filterMap (faF Y j)).length (((List.range j).flatMap (faP Y) ++ (List.range (k + 1)).filterMap (faF Y j)).flatMap prC) ∧
        Hg b7 = some [.int .i64 (Y.length : Int), Z] ∧ Hg b9 = some (prC (p, 1)) ∧ H1.le Hg, ?_, ?_⟩
      · refine ReadsC.getN (Heap.le_trans hle10 hg10.le) s2 (by omega) (by rw [List.length_drop, srs_len]; omega) ?_
        have hgk : ((srs Y).drop (j + 1))[k]? = some (Y.getD (j + 1 + k) 0, 1) := by
          rw [List.getElem?_drop]; exact srs_get (by omega)
        rw [Int.toNat_natCast, rows_get prC_len hgk]
        rw [fa_snoc, ← List.append_assoc, hjx k]
        have hqy : Y.getD (j + 1 + k) 0 ≤ 100 := by
          rw [List.getD_eq_getElem?_getD, List.getElem?_eq_getElem (by omega)]; exact hY _ (List.getElem_mem _)
        generalize Y.getD (j + 1 + k) 0 = q at *
        have hlen0 : ((List.range j).flatMap (faP Y) ++ (List.range k).filterMap (faF Y j)).length ≤ 100 := by rw [List.length_append]; omega
        generalize (List.range j).flatMap (faP Y) ++ (List.range k).filterMap (faF Y j) = R at *
        refine alloc_store (cs := prC (q, 1)) rfl rfl rfl rfl fun b11 hb11 => ?_
        have h11 : (H10.put b11 (prC (q, 1))) b11 = some (prC (q, 1)) := Heap.put_same
        have hg11 : Grow 2 (Hg10.put b11 (prC (q, 1))) (H10.put b11 (prC (q, 1))) Z2 _ _ := alloc_grow hg10 hb11
        have hln2 := Heap.le_new (c := prC (q, 1)) (none_of_le hg10.le hb11)
        have hle11 : H1.le (Hg10.put b11 (prC (q, 1))) := Heap.le_trans hle10 hln2
        have g711 := hln2 _ _ g710
        have g911 := hln2 _ _ g910
        generalize H10.put b11 (prC (q, 1)) = H11 at *
        generalize Hg10.put b11 (prC (q, 1)) = Hg11 at *
        have l90 : load1 (.ptr b9 0) H11 = some (.int .i64 (p : Int)) := load1_at (hg11.le _ _ g911) rfl
        have l110 : load1 (.ptr b11 0) H11 = some (.int .i64 (q : Int)) := load1_at h11 rfl
        have hgt : decide ((p : Int) > (q : Int)) = decide (q < p) := by rw [decide_eq_decide]; omega
        have lZ : load1 (.ptr b7 1) H11 = some Z2 := load1_at (hg11.le _ _ g711) rfl
        have wk : IntKind.i64.wrap (((j + 1 : Nat) : Int) + (k : Int)) = ((j + 1 + k : Nat) : Int) := by rw [wrap_i64 (by omega) (by omega)]; omega
        simp only [letO_some, fz, l90, l110, binF_gtr, hgt]
        by_cases hcc : q < p
        · rw [decide_eq_true hcc, if_pos hcc]
          simp only [condA_tt, letO_some, f7, lZ, binF_add, wj, wk, b30, l24_1, Option.toList_some]
          refine appendA_growR hg11 (m := 1) (new := prC (j, j + 1 + k)) (by simp [srcOf, prC]) rfl rfl (by omega) (by omega) (by omega) fun v2 H12 hg12 ho12 => ?_
          try simp only [f7, letO_some]
          refine storeA_of (cs := [v2]) (hg12.le _ _ g711) hg12.cells (by simp [hg12.scalar]) rfl (by simp) ?_
          have hspl : splice [.int .i64 (Y.length : Int), Z2] 1 [v2] = [.int .i64 (Y.length : Int), v2] := rfl
          rw [hspl]
          have hg13 := hg12.put g711 (y := [.int .i64 (Y.length : Int), v2])
          refine ⟨rfl, v2, Hg11.put b7 [.int .i64 (Y.length : Int), v2], ?_, Heap.put_same, by rw [Heap.put_ne (Ne.symm hne79)]; exact g911, Heap.le_put hle11 hb7H⟩
          rw [l24_dec, List.length_append]
          exact hg13
        · rw [decide_eq_false hcc, if_neg hcc]
          simp only [condA_ff, Option.toList_none, List.append_nil]
          exact ⟨rfl, Z2, Hg11, hg11, g711, g911, hle11⟩
      · rintro L H11 ⟨rfl, Z3, Hg11, hg11, g711, g911, hle11⟩
        try simp only [letO_some, cellsOf?_agg, cellsOf?_int, cellsOf?_bool, cellsOf?_imm, cellsOf?_ref, cellsOf?_nils, faddr_iptr, faddr_ptr, List.drop_succ_cons, List.drop_zero, List.take_succ_cons, List.take_zero, load1_iptr, loadN_iptr, List.length_cons, List.length_nil, Nat.le_refl, if_true, List.getElem?_cons_zero, List.getElem?_cons_succ, List.getD_cons_zero, List.getD_cons_succ, extrF_tup, binF_add, binF_sub, binF_mul, binF_eql, binF_neq, binF_lss, binF_leq, binF_gtr, binF_geq, true_and]
        rw [wrap_i64 (by omega) (by omega)]
        exact ⟨⟨k + 1, Z3, Hg11, rfl, by omega, hg11, g711, g911, hle11⟩, by simp [iv]; omega⟩
    · have hke : k = Y.length - (j + 1) := by omega
      subst hke
      exact ⟨⟨j + 1, Z2, Hg10, rfl, by omega, by rw [hsn]; exact hg10, g710, hle10⟩, by simp [iv]; omega⟩
  have hje : j = Y.length := by omega
  subst hje
  have hcfl : (List.range Y.length).flatMap (faP Y) = falls Y := rfl
  rw [hcfl] at hg hcpi
  have hZ : RP H8 Z (falls Y) := hg.readsC
  have hZl := hg.len
  have l7 : loadN 2 (.ptr b7 0) H8 = some (.agg [.int .i64 (Y.length : Int), Z]) := loadN_at (cells := [.int .i64 (Y.length : Int), Z]) (hg.le _ _ g7)
  have lZ : load1 (.ptr b7 1) H8 = some Z := load1_at (hg.le _ _ g7) rfl
  have hle9 := Heap.le_trans hle8 hg.le
  have hXr8 := hXr.le hle9
  try simp only [letO_some]
  refine c20 hXr8 (by omega) (by omega) hY ?_
  simp only [letO_some, cellsOf?_agg, cellsOf?_int, cellsOf?_bool, cellsOf?_imm, cellsOf?_ref, cellsOf?_nils, faddr_iptr, faddr_ptr, List.drop_succ_cons, List.drop_zero, List.take_succ_cons, List.take_zero, load1_iptr, loadN_iptr, List.length_cons, List.length_nil, Nat.le_refl, if_true, List.getElem?_cons_zero, List.getElem?_cons_succ, List.getD_cons_zero, List.getD_cons_succ, extrF_tup, binF_add, binF_sub, binF_mul, binF_eql, binF_neq, binF_lss, binF_leq, binF_gtr, binF_geq, true_and, l7]
  refine c10 hF hZ ?_
  try simp only [letO_some, cellsOf?_agg, cellsOf?_int, cellsOf?_bool, cellsOf?_imm, cellsOf?_ref, cellsOf?_nils, faddr_iptr, faddr_ptr, List.drop_succ_cons, List.drop_zero, List.take_succ_cons, List.take_zero, load1_iptr, loadN_iptr, List.length_cons, List.length_nil, Nat.le_refl, if_true, List.getElem?_cons_zero, List.getElem?_cons_succ, List.getD_cons_zero, List.getD_cons_succ, extrF_tup, binF_add, binF_sub, binF_mul, binF_eql, binF_neq, binF_lss, binF_leq, binF_gtr, binF_geq, true_and]
  refine c21 hXr8 (by omega) (by omega) hY fun i' => ?_
  have e0 : ((0 : Int) == 0) = true := rfl
  have hls := (sh_len (falls Y) (List.range (2 ^ Y.length))).1
  have hls' : (shS Y.length (falls Y)).1.length ≤ 7 := hls
  simp only [letO_some, cellsOf?_agg, cellsOf?_int, cellsOf?_bool, cellsOf?_imm, cellsOf?_ref, cellsOf?_nils, faddr_iptr, faddr_ptr, List.drop_succ_cons, List.drop_zero, List.take_succ_cons, List.take_zero, load1_iptr, loadN_iptr, List.length_cons, List.length_nil, Nat.le_refl, if_true, List.getElem?_cons_zero, List.getElem?_cons_succ, List.getD_cons_zero, List.getD_cons_succ, extrF_tup, binF_add, binF_sub, binF_mul, binF_eql, binF_neq, binF_lss, binF_leq, binF_gtr, binF_geq, true_and, e0, gval_bool, Int.reduceBNe, Int.reduceBEq, pickF_true, pickF_false, reduceIte, Bool.true_eq_false, Bool.false_eq_true, if_false, condA_tt, condA_ff, condG_tt, condG_ff, condG_tt', condG_ff', condG_undef, gval_undef]
  refine exJ (c14 (Reads.sl _ _) (Reads.sl _ _) (by rw [up_length]; omega) (by rw [up_length]; omega) ?_)
  have e1 : decide (up (shS Y.length (falls Y)).1 = up (shS Y.length (falls Y)).1) = true := decide_eq_true rfl
  have e2 : (((if falls Y = [] then (13 : Int) else 0) == 13) == (((falls Y).length : Int) == 0)) = true := by
    cases hfy : falls Y with
    | nil => rfl
    | cons r l =>
      have : (((r :: l).length : Int) == 0) = false := by rw [beq_eq_false_iff_ne]; simp; omega
      rw [this, if_neg (by simp)]; rfl
  rw [e1]
  simp only [gval_bool, Int.reduceBNe, Int.reduceBEq, pickF_true, pickF_false, reduceIte, Bool.true_eq_false, Bool.false_eq_true, if_false, condA_tt, condA_ff, condG_tt, condG_ff, condG_tt', condG_ff', condG_undef, gval_undef, letO_some, binF_eql, f7, lZ, hZl, eqb4, e2]
  refine exJ (c22 ?_)
  try simp only [letO_some, cellsOf?_agg, cellsOf?_int, cellsOf?_bool, cellsOf?_imm, cellsOf?_ref, cellsOf?_nils, faddr_iptr, faddr_ptr, List.drop_succ_cons, List.drop_zero, List.take_succ_cons, List.take_zero, load1_iptr, loadN_iptr, List.length_cons, List.length_nil, Nat.le_refl, if_true, List.getElem?_cons_zero, List.getElem?_cons_succ, List.getD_cons_zero, List.getD_cons_succ, extrF_tup, binF_add, binF_sub, binF_mul, binF_eql, binF_neq, binF_lss, binF_leq, binF_gtr, binF_geq, true_and, gval_bool, Int.reduceBNe, Int.reduceBEq, pickF_true, pickF_false, reduceIte, Bool.true_eq_false, Bool.false_eq_true, if_false, condA_tt, condA_ff, condG_tt, condG_ff, condG_tt', condG_ff', condG_undef, gval_undef]
  exact endK_pub (Pub.drop (Heap.le_trans hle1 hle9)) (endK_ret hk)
namespace topFalling
theorem law {b0 : Nat} {g : List Nat} (h : b0 < 256) (h0 : g.length = 8) (h1 : ∀ x ∈ g, x < 256) : ACalls Tryd.prog 6 [.int .u8 (b0 : Int), .agg (g.map fun (x : Nat) => .int .u8 (x : Int))] Heap.none fun r _ => r = .bool true :=
  c6 h h0 h1 rfl
end topFalling
end Go.Proofs.YtmmfelpgcdlgfaaDoor

/- From a walk to a tied row: what the listed variables hold. -/
set_option linter.unusedVariables false
namespace Go.Proofs.YtmmfelpgcdlgfaaDoor
open Go.ChangeShapes Go.WideShapes Go.ChangeAt Go.RowKit Go.Av

theorem ownK : ownKnob Tryd.prog.godebug = none := by kernel_rfl
theorem laidOutK : laidOutB Tryd.prog = true := by kernel_rfl
theorem g64 : Tryd.prog.globalNamed "math/bits.deBruijn64tab" = some 1 := by kernel_rfl
theorem g64t : (Tryd.prog.globals[1]?).map (·.type) = some 168 := by kernel_rfl
theorem u168 : Tryd.prog.underlying 168 = some (.array 64 5) := by kernel_rfl
theorem u5 : Tryd.prog.underlying 5 = some (.int .u8) := by kernel_rfl
theorem k5 : Tryd.prog.cellsOf 5 = 1 := by kernel_rfl
theorem k168 : Tryd.prog.cellsOf 168 = 64 := by kernel_rfl
abbrev laidL : List (String × DataW Unit) := [("math/bits.deBruijn32tab", Rows.laid_math_bits_deBruijn32tab), ("math/bits.deBruijn64tab", Rows.laid_math_bits_deBruijn64tab)]
def vals64 : List Int := [0, 1, 56, 2, 57, 49, 28, 3, 61, 58, 42, 50, 38, 29, 17, 4, 62, 47, 59, 36, 45, 43, 51, 22, 53, 39, 33, 30, 24, 18, 12, 5, 63, 55, 48, 27, 60, 41, 37, 16, 46, 35, 44, 21, 52, 32, 23, 11, 54, 26, 40, 15, 34, 20, 31, 10, 25, 14, 19, 9, 13, 8, 7, 6]
theorem laid64 : (Rows.laid_math_bits_deBruijn64tab : DataW Unit) = .agg (vals64.map fun n => .lit (.int .u8 n)) := by rfl
theorem tz64_eq : tz64 = vals64.map (.int .u8) := by rfl
/-- WHAT THE CONDITION GIVES A WALK. -/
theorem glb_of_laid {W : World} (h : laidMetH Tryd.prog laidL W) : Glb Tryd.prog (E0 W) := by
  rw [MakeChecks.laidMetH_plain _ _ _ (by kernel_rfl)] at h
  obtain ⟨ps, h1, _⟩ := h
  obtain ⟨_, _, _, _, _, _, _, _, _, _, h2, _⟩ := h1
  obtain ⟨g, t, cs, fuel, p, q, e1, e2, e3, e4, _, _⟩ := h2
  obtain rfl : (1 : Nat) = g := Option.some.inj (g64.symm.trans e1)
  obtain rfl : 168 = t := Option.some.inj (g64t.symm.trans e2)
  intro g cells hg
  unfold globs at hg
  rw [g64] at hg
  split at hg
  · rename_i hh
    cases hh
    cases hg
    obtain ⟨xs, m, _, hx, hl, hxl, hel⟩ := DataW.trod_array u168 e4
    rw [k168] at hl
    have hcs : ∀ i, i < 64 → cs[i]? = some (.int .u8 (vals64.getD i 0)) := by
      intro i hi
      have h5 := hel i hi
      rw [k5, Nat.mul_one] at h5
      have hxi : xs[i]? = some xs[i] := by simp [hxl, hi]
      rw [hxi] at h5
      obtain ⟨n, hn, hx5, _⟩ := DataW.trod_int u5 h5
      have hval : n = vals64.getD i 0 := by
        have h6 : (xs.map (·.1))[i]? = some (DataW.lit (.int .u8 n)) := by
          rw [List.getElem?_map, hxi, hx5]; rfl
        have h7 : (xs.map (·.1)) = vals64.map fun n => DataW.lit (.int .u8 n) := by
          have := congrArg Prod.fst hx
          rw [laid64] at this
          injection this with this
          exact this.symm
        rw [h7, List.getElem?_map] at h6
        have h8 : vals64[i]? = some (vals64.getD i 0) := by
          have : i < vals64.length := hi
          rw [List.getD_eq_getElem?_getD, List.getElem?_eq_getElem this]; rfl
        rw [h8] at h6
        simp only [Option.map_some, Option.some.injEq, DataW.lit.injEq, Lit.int.injEq, true_and] at h6
        exact h6.symm
      have h9 : ((cs.toList.drop i).take 1)[0]? = some (.int .u8 n) := by rw [hn]; rfl
      rw [List.getElem?_take_of_lt (by omega), List.getElem?_drop, Nat.add_zero] at h9
      rw [← hval]
      simpa using h9
    -- the block
    have hblk : ∃ T fr, W.heap[1]? = some (.cells cs T fr) := by
      unfold World.var? at e3
      rw [g64] at e3
      simp only [Option.bind_some] at e3
      split at e3
      · rename_i c T fr hh
        cases e3
        exact ⟨T, fr, hh⟩
      · cases e3
    obtain ⟨T, fr, hblk⟩ := hblk
    refine Rep.iptr tz64 1 0 cs T fr (fun i => .int .u8 (vals64.getD i 0)) hblk (fun i hi => ?_) (fun i hi => ?_)
    · rw [Nat.zero_add]; exact hcs i hi
    · have h1 : i < vals64.length := hi
      have : tz64[i] = .int .u8 (vals64.getD i 0) := by
        have e : tz64[i]? = some (.int .u8 (vals64.getD i 0)) := by
          rw [tz64_eq, List.getElem?_map, List.getD_eq_getElem?_getD, List.getElem?_eq_getElem h1]; rfl
        rw [List.getElem?_eq_getElem hi] at e
        exact Option.some.inj e
      exact Eq.mpr (congrArg (fun z => Rep (E0 W) z (Value.int .u8 (vals64.getD i 0))) this) (Rep.int _ _)
  · cases hg
end Go.Proofs.YtmmfelpgcdlgfaaDoor

/- A world that meets the condition; the row's builder. -/
set_option linter.unusedVariables false
namespace Go.Proofs.YtmmfelpgcdlgfaaDoor
open Go.ChangeShapes Go.WideShapes Go.ChangeAt Go.RowKit Go.Av

def vals32 : List Int := [0, 1, 28, 2, 29, 14, 24, 3, 30, 22, 20, 15, 25, 17, 4, 8, 31, 27, 13, 23, 21, 19, 16, 7, 26, 12, 18, 6, 11, 5, 10, 9]
/-- A world that meets the condition: the settled one, the two tables laid. -/
noncomputable def laidWorld (os : Os) (blocks : Array Obj) : World :=
  let w0 := World.holding Tryd.prog os ⟨blocks, #[], []⟩
  { w0 with heap := (w0.heap.modify 0 fun
      | .cells _ t frozen => .cells (vals32.map (Value.int .u8)).toArray t frozen
      | o => o).modify 1 fun
      | .cells _ t frozen => .cells (vals64.map (Value.int .u8)).toArray t frozen
      | o => o }
set_option maxRecDepth 100000 in
theorem laidWorld_met0 (os : Os) (args : Array Value) : laidMetH Tryd.prog laidL ((laidWorld os #[]).forCall (fun _ _ => 0) ⟨#[], args, []⟩).memory :=
  laidMetH_of_parts (laidMet_of_run3 80 (by kernel_rfl) (by kernel_rfl) (by kernel_rfl)) (by kernel_rfl)
end Go.Proofs.YtmmfelpgcdlgfaaDoor

/- MADE BY PROGRAM (rowt.py): the row and the tied card of TopFalling. -/
namespace Go.Proofs.YtmmfelpgcdlgfaaDoor.topFalling
open Go.ChangeShapes Go.WideShapes Go.ChangeAt Go.RowKit Go.Av
set_option linter.unusedVariables false

set_option maxRecDepth 100000 in
theorem lifted (os : Os) (started : os.Started) (H : Type) (enc : TypeId × Value → H) :
    ReturnsInHanded {} Tryd.checked os 6 .any (fun w args => (Rows.topFallingSpec.pre enc Tryd.prog Tryd.f6 [] false w args ∧ laidMetH Tryd.prog laidL w) ∧ sizedMet enc Tryd.prog Tryd.f6 (OpenSpec.ofChange Rows.topFallingSpec) false w args)
      (Rows.topFallingSpec.post enc Tryd.prog Tryd.f6 false true false false) := by
  refine returnsInHanded_of_change_and (C := Tryd.checked) (X := fun w _ => laidMetH Tryd.prog laidL w) (fun _ _ _ hh h => h.of_heap hh) ownK started (by kernel_rfl) Tryd.func6
    (ChangeSpec.witness_at (enc := enc) (C := Tryd.checked) (os := os) (X := fun w _ => laidMetH Tryd.prog laidL w) false (laidWorld os #[]) #[.int .u8 0, .agg #[.int .u8 0, .int .u8 0, .int .u8 0, .int .u8 0, .int .u8 0, .int .u8 0, .int .u8 0, .int .u8 0]] 8 rfl (by kernel_rfl) (by kernel_rfl) (by kernel_rfl) (by kernel_rfl) (by kernel_rfl) (laidWorld_met0 os _)) ?_
  intro W base args ds gs before hval0 hW hcnd _ hL _
  have hval : ∀ (j : Nat) t v, Tryd.f6.params[j]? = some t → args[j]? = some v → Value.okWide Tryd.prog W .any base t v := hval0
  have hW' := hW
  obtain ⟨p, q, hA0, hV, rfl, hfz, hnd⟩ := hW
  have hA : DataW.TrodAll enc Tryd.prog W 0 (fun _ => true) true Tryd.f6.params.toList args.toList ds p := hA0
  have hA1 := hA
  rw [Tryd.params6] at hA hval
  obtain ⟨rfl, rfl⟩ := trodVars_none hV
  clear hA0 hval0
  simp only [List.append_nil] at hW'
  have hlt : ∀ x ∈ p, x.block < W.heap.size := fun x hx => by simpa using hW'.lt x hx
  obtain ⟨v0, v1, d0, d1, p0, p1, rfl, rfl, rfl, h0, h1⟩ := trodAll_two hA
  obtain ⟨b0, rfl, bx0⟩ := rep_u8 Tryd.underlying5 (hval 0 5 v0 rfl rfl)
  obtain ⟨a1, al1, ax1, r1⟩ := rep_row (E := E0 W) (n := 8) (u := 5) (.inr ⟨_, _, Tryd.underlying53⟩) (by kernel_rfl) (by kernel_rfl) Tryd.underlying5 (hval 1 53 v1 rfl rfl)
  refine ((law bx0 al1 ax1).2 (E0 W) W [.int .u8 (b0 : Int), v1] (glb_of_laid hL) (st0 W) (RepL.cons (.int _ _) (RepL.cons r1 (RepL.nil _)))).mono ?_
  rintro e W' ⟨r, v, E', H', rfl, hr, _, hx, rfl⟩
  cases hr
  exact ⟨_, rfl, _, _, _, [], _, [], hW', trodAll_cons_mk (shut_bool Tryd.underlying4 _) trodAll_mk0, hx.trodAll laidOutK (by kernel_rfl) hA1 hlt, rfl, hx.kept _, fun h => by cases h⟩

theorem over : Rows.topFallingRow.holds Tryd.pinned (OpenSpec.ofChange Rows.topFallingSpec) :=
  OpenClaim.holds_of_wide 6 Tryd.f6 rfl rfl rfl rfl rfl rfl rfl ⟨rfl, rfl, rfl, rfl, rfl⟩ rfl rfl rfl rfl rfl (by kernel_rfl) Tryd.func6 (by kernel_rfl)
    (of_decide_eq_true (by kernel_rfl)) (by unfold Func.isWrapper; first | (rw [if_pos (by decide +kernel)]; kernel_rfl) | (rw [if_neg (by decide +kernel)]; exact ⟨rfl, rfl⟩))
    (fun os started H enc _ => lifted os started H enc)

theorem carded : Rows.TopFallingCardSaid :=
  Claim7.holds_tied_plain_at .later [] [.data, .data] true (true, "64ee42def1c4c9e2e1db2cd06d55cd9155fc815a171a87a85e890809892ccc74") true
    over (fun _ h => by cases h) (by kernel_rfl) (fun _ h => by cases h) topFalling_row_tie rfl ⟨rfl, rfl⟩ (by kernel_rfl) rfl
    (fun f fn hf hfn => by
      obtain rfl : f = 6 := Option.some.inj ((show Tryd.prog.funcNamed "headword/headwordtop.TopFalling" = some 6 by kernel_rfl).symm.trans hf) |>.symm
      obtain rfl : fn = Tryd.f6 := (Option.some.inj (Tryd.func6.symm.trans hfn)).symm
      exact ⟨by kernel_rfl, fun j t ht => by
        rw [Tryd.params6] at ht
        have hm := Array.mem_of_getElem? ht
        rcases (show t = 5 ∨ t = 53 by simpa [or_assoc] using hm) with rfl | rfl
        · exact (show Tryd.prog.wantsStandIn 5 = false by kernel_rfl)
        · exact (show Tryd.prog.wantsStandIn 53 = false by kernel_rfl)⟩)
    (by kernel_rfl)
#print axioms carded
end Go.Proofs.YtmmfelpgcdlgfaaDoor.topFalling
