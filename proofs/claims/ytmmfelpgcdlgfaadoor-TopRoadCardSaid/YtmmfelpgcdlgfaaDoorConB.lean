import Derived.Test.YtmmfelpgcdlgfaaDoorConA
/- What the functions that the statements across layers reach compute, and that its examples hold: a contract each, in plain Lean. Conditions: each theorem names its own. -/
namespace Go.Proofs.YtmmfelpgcdlgfaaDoor
open Go.Av
set_option linter.unusedVariables false
set_option linter.unusedSimpArgs false
set_option maxRecDepth 4000

/- Lists of pairs. -/
def prC (p : Nat × Nat) : List AV := [.int .i64 (p.1 : Int), .int .i64 (p.2 : Int)]
theorem prC_len (p : Nat × Nat) : (prC p).length = 2 := rfl
def RP (H : Heap) (v : AV) (R : List (Nat × Nat)) : Prop := ReadsC 2 H v R.length (R.flatMap prC)
theorem RP.le {H H' : Heap} (hl : H.le H') {v : AV} {R : List (Nat × Nat)} (h : RP H v R) : RP H' v R := ReadsC.le hl h
theorem flat_take (R : List (Nat × Nat)) (k : Nat) : (R.flatMap prC).take (k * 2) = (R.take k).flatMap prC := by
  induction R generalizing k with
  | nil => simp
  | cons s S ih =>
    cases k with
    | zero => rfl
    | succ k =>
      rw [List.take_succ_cons, List.flatMap_cons, List.flatMap_cons, ← ih k]
      rw [show (k + 1) * 2 = (prC s).length + k * 2 by rw [prC_len]; omega, List.take_length_add_append]
/-- The first pairs. -/
theorem slcP {H : Heap} {v : AV} {R : List (Nat × Nat)} {k : Nat} (h : RP H v R) (hk : k ≤ R.length) : ∃ v', slc 2 v none (some (.int .i64 (k : Int))) none = some v' ∧ RP H v' (R.take k) := by
  have n1 : ∀ d, natOf none d = some d := fun d => rfl
  have n2 : ∀ d, natOf (some (.int .i64 (k : Int))) d = some k := fun d => by simp [natOf]
  have hlt : (R.take k).length = k := by rw [List.length_take]; omega
  have hft := flat_take R k
  obtain ⟨h0, h⟩ := h
  cases v <;> simp only at h <;> try exact h.elim
  · have : R = [] := List.eq_nil_of_length_eq_zero h
    subst this
    have : k = 0 := by simpa using hk
    subst this
    simp only [slc, n1, n2, Option.bind_some]
    exact ⟨_, rfl, rfl, rfl⟩
  · obtain ⟨rfl, rfl⟩ := h
    simp only [slc, n1, n2, Option.bind_some]
    rw [if_pos ⟨by omega, hk⟩]
    refine ⟨_, rfl, ?_, ?_⟩
    · rw [rows_len prC_len]
    · exact ⟨by omega, by rw [Nat.zero_mul, List.drop_zero, Nat.sub_zero, hft]⟩
  · rename_i s b off n cp
    obtain ⟨rfl, rfl, cs, hb, hc, ht⟩ := h
    simp only [slc, n1, n2, Option.bind_some]
    rw [if_pos ⟨by trivial, by omega, hk, by simp⟩]
    refine ⟨_, rfl, ?_, rfl, by omega, cs, hb, ?_, ?_⟩
    · rw [rows_len prC_len]
    · have : (R.take k).length * 2 ≤ R.length * 2 := by omega
      omega
    · rw [Nat.zero_mul, Nat.add_zero, hlt, ← hft, ← ht, List.take_take, Nat.min_eq_left (by omega)]
theorem eq30 (p q : Nat × Nat) : binF Tryd.prog .eql 30 (.agg (prC p)) (.agg (prC q)) = some (.bool (decide (p = q))) := by
  have h30 : Tryd.prog.underlying 30 = some (.array 2 3) := by kernel_rfl
  have h3 : Tryd.prog.underlying 3 = some (.int .i64) := by kernel_rfl
  have hi : (Tryd.prog.info? 3).map (·.size) = some 1 := by kernel_rfl
  have hg : Tryd.prog.eqGuardType Tryd.prog.depth 30 = false := by kernel_rfl
  obtain ⟨inf, hi1, hi2⟩ := Option.map_eq_some_iff.1 hi
  have : eqF Tryd.prog 30 (.agg (prC p)) (.agg (prC q)) = some (decide (p = q)) := by
    simp only [eqF, h30, h3, hi1]
    rw [if_pos ⟨hi2, rfl, rfl, hg⟩]
    simp only [prC, eqInts, if_true, Option.map_some]
    congr 1
    obtain ⟨a, b⟩ := p
    obtain ⟨c, d⟩ := q
    by_cases h1 : a = c
    · by_cases h2 : b = d
      · subst h1; subst h2; simp
      · have : ((b : Int) == (d : Int)) = false := by rw [beq_eq_false_iff_ne]; omega
        simp [h2, this]
    · have : ((a : Int) == (c : Int)) = false := by rw [beq_eq_false_iff_ne]; omega
      simp [h1, this]
  show (eqF Tryd.prog 30 (.agg (prC p)) (.agg (prC q))).map AV.bool = _
  rw [this]; rfl
/-- slices.Index of pairs -/
theorem c58 {v : AV} {R : List (Nat × Nat)} {p : Nat × Nat} {H : Heap} {K : AV → Heap → Prop} (hv : RP H v R) (hl : R.length < 2 ^ 63) (hk : ∀ i : Int, -9223372036854775808 ≤ i → decide (0 ≤ i) = decide (p ∈ R) → K (.int .i64 i) H) :
    ACalls Tryd.prog 58 [v, .agg (prC p)] H K := by
  apply W58_ok
  unfold W58
  have hlen := ReadsC.len hv
  simp only [letO_some, cellsOf?_agg, cellsOf?_int, cellsOf?_bool, cellsOf?_imm, cellsOf?_ref, cellsOf?_nils, faddr_iptr, faddr_ptr, List.drop_succ_cons, List.drop_zero, List.take_succ_cons, List.take_zero, load1_iptr, loadN_iptr, List.length_cons, List.length_nil, Nat.le_refl, if_true, List.getElem?_cons_zero, List.getElem?_cons_succ, List.getD_cons_zero, List.getD_cons_succ, extrF_tup, binF_add, binF_sub, binF_mul, binF_eql, binF_neq, binF_lss, binF_leq, binF_gtr, binF_geq, true_and, hlen]
  refine ⟨fun L H' => ∃ i : Nat, eqt L [.int .i64 i] ∧ i ≤ R.length ∧ eqt H' H ∧ p ∉ R.take i, fun L _ => (R.length - iv L 0).toNat, ⟨0, rfl, by omega, rfl, by simp⟩, ?_⟩
  rintro L H' ⟨i, rfl, hi, rfl, hnot⟩
  try simp only [letO_some, cellsOf?_agg, cellsOf?_int, cellsOf?_bool, cellsOf?_imm, cellsOf?_ref, cellsOf?_nils, faddr_iptr, faddr_ptr, List.drop_succ_cons, List.drop_zero, List.take_succ_cons, List.take_zero, load1_iptr, loadN_iptr, List.length_cons, List.length_nil, Nat.le_refl, if_true, List.getElem?_cons_zero, List.getElem?_cons_succ, List.getD_cons_zero, List.getD_cons_succ, extrF_tup, binF_add, binF_sub, binF_mul, binF_eql, binF_neq, binF_lss, binF_leq, binF_gtr, binF_geq, true_and]
  refine condA_t (fun hlt => ?_) (fun hge => ?_)
  · have a1 : i < R.length := by omega
    have hld : loadN 2 (.iptr (prC p)) Heap.none = some (.agg (prC p)) := rfl
    try simp only [hld, letO_some, letO_some, cellsOf?_agg, cellsOf?_int, cellsOf?_bool, cellsOf?_imm, cellsOf?_ref, cellsOf?_nils, faddr_iptr, faddr_ptr, List.drop_succ_cons, List.drop_zero, List.take_succ_cons, List.take_zero, load1_iptr, loadN_iptr, List.length_cons, List.length_nil, Nat.le_refl, if_true, List.getElem?_cons_zero, List.getElem?_cons_succ, List.getD_cons_zero, List.getD_cons_succ, extrF_tup, binF_add, binF_sub, binF_mul, binF_eql, binF_neq, binF_lss, binF_leq, binF_gtr, binF_geq, true_and]
    refine hv.getN (Heap.le_refl _) (by omega) (by omega) ?_
    have htk : (prC p).take 2 = prC p := rfl
    rw [Int.toNat_natCast, rows_get prC_len (x := R[i]) (by simp [a1]), htk, eq30]
    simp only [letO_some]
    by_cases he : p = R[i]
    · rw [decide_eq_true he]
      simp only [condA_tt]
      refine endK_ret (hk _ (by omega) ?_)
      rw [decide_eq_true (by omega), decide_eq_true]
      rw [he]; exact List.getElem_mem a1
    · rw [decide_eq_false he]
      simp only [condA_ff]
      rw [wrap_i64 (by omega) (by omega)]
      refine ⟨⟨i + 1, rfl, by omega, rfl, ?_⟩, by simp [iv] <;> omega⟩
      rw [List.take_add_one, List.getElem?_eq_getElem a1, List.mem_append]
      rintro (h | h)
      · exact hnot h
      · simp at h; exact he h
  · have hie : i = R.length := by omega
    subst hie
    rw [List.take_length] at hnot
    refine endK_ret (hk _ (by omega) ?_)
    rw [decide_eq_false hnot]; rfl
/-- slices.Contains of pairs -/
theorem c30 {v : AV} {R : List (Nat × Nat)} {p : Nat × Nat} {H : Heap} {K : AV → Heap → Prop} (hv : RP H v R) (hl : R.length < 2 ^ 63) (hk : K (.bool (decide (p ∈ R))) H) : ACalls Tryd.prog 30 [v, .agg (prC p)] H K := by
  apply W30_ok
  unfold W30
  have hld : loadN 2 (.iptr (prC p)) H = some (.agg (prC p)) := rfl
  simp only [letO_some, cellsOf?_agg, cellsOf?_int, cellsOf?_bool, cellsOf?_imm, cellsOf?_ref, cellsOf?_nils, faddr_iptr, faddr_ptr, List.drop_succ_cons, List.drop_zero, List.take_succ_cons, List.take_zero, load1_iptr, loadN_iptr, List.length_cons, List.length_nil, Nat.le_refl, if_true, List.getElem?_cons_zero, List.getElem?_cons_succ, List.getD_cons_zero, List.getD_cons_succ, extrF_tup, binF_add, binF_sub, binF_mul, binF_eql, binF_neq, binF_lss, binF_leq, binF_gtr, binF_geq, true_and, hld]
  refine c58 hv hl fun i _ hi => ?_
  simp only [letO_some, cellsOf?_agg, cellsOf?_int, cellsOf?_bool, cellsOf?_imm, cellsOf?_ref, cellsOf?_nils, faddr_iptr, faddr_ptr, List.drop_succ_cons, List.drop_zero, List.take_succ_cons, List.take_zero, load1_iptr, loadN_iptr, List.length_cons, List.length_nil, Nat.le_refl, if_true, List.getElem?_cons_zero, List.getElem?_cons_succ, List.getD_cons_zero, List.getD_cons_succ, extrF_tup, binF_add, binF_sub, binF_mul, binF_eql, binF_neq, binF_lss, binF_leq, binF_gtr, binF_geq, true_and, hi]
  exact endK_ret hk
/-- A book that is in order. -/
structure Vd (n : Nat) (R : List (Nat × Nat)) : Prop where
  n1 : 1 ≤ n
  n7 : n ≤ 7
  rng : ∀ r ∈ R, r.1 < n ∧ r.2 < n
  ne : ∀ r ∈ R, r.1 ≠ r.2
  nd : R.Pairwise (· ≠ ·)
  len : R.length ≤ 16
/-- see.Check -/
theorem c59 {v : AV} {n : Nat} {R : List (Nat × Nat)} {H : Heap} {K : AV → Heap → Prop} (h : Vd n R) (hv : RP H v R) (hk : K (.int .i64 0) H) : ACalls Tryd.prog 59 [.agg [.int .i64 (n : Int), v]] H K := by
  apply W59_ok
  unfold W59
  have hlen := ReadsC.len hv
  have hn1 := h.n1
  have hn7 := h.n7
  have hl16 := h.len
  have e1 : decide ((n : Int) < 1) = false := decide_eq_false (by omega)
  have e2 : decide ((7 : Int) < (n : Int)) = false := decide_eq_false (by omega)
  have e3 : decide ((16 : Int) < (R.length : Int)) = false := decide_eq_false (by omega)
  simp only [letO_some, cellsOf?_agg, cellsOf?_int, cellsOf?_bool, cellsOf?_imm, cellsOf?_ref, cellsOf?_nils, faddr_iptr, faddr_ptr, List.drop_succ_cons, List.drop_zero, List.take_succ_cons, List.take_zero, load1_iptr, loadN_iptr, List.length_cons, List.length_nil, Nat.le_refl, if_true, List.getElem?_cons_zero, List.getElem?_cons_succ, List.getD_cons_zero, List.getD_cons_succ, extrF_tup, binF_add, binF_sub, binF_mul, binF_eql, binF_neq, binF_lss, binF_leq, binF_gtr, binF_geq, true_and, e1, e2, gval_bool, Int.reduceBNe, Int.reduceBEq, pickF_true, pickF_false, reduceIte, Bool.true_eq_false, Bool.false_eq_true, if_false, condA_tt, condA_ff, condG_tt, condG_ff, condG_tt', condG_ff', condG_undef, gval_undef, hlen, e3, condA_ff]
  refine ⟨fun L H' => ∃ i : Nat, eqt L [.int .i64 i] ∧ i ≤ R.length ∧ H.le H', fun L _ => (R.length - iv L 0).toNat, ⟨0, rfl, by omega, Heap.le_refl _⟩, ?_⟩
  rintro L H1 ⟨i, rfl, hi, hle⟩
  try simp only [letO_some, cellsOf?_agg, cellsOf?_int, cellsOf?_bool, cellsOf?_imm, cellsOf?_ref, cellsOf?_nils, faddr_iptr, faddr_ptr, List.drop_succ_cons, List.drop_zero, List.take_succ_cons, List.take_zero, load1_iptr, loadN_iptr, List.length_cons, List.length_nil, Nat.le_refl, if_true, List.getElem?_cons_zero, List.getElem?_cons_succ, List.getD_cons_zero, List.getD_cons_succ, extrF_tup, binF_add, binF_sub, binF_mul, binF_eql, binF_neq, binF_lss, binF_leq, binF_gtr, binF_geq, true_and]
  refine condA_t (fun hlt => ?_) (fun hge => ?_)
  · have a1 : i < R.length := by omega
    refine ReadsC.getN hle hv (by omega) (by omega) ?_
    rw [Int.toNat_natCast, rows_get prC_len (x := R[i]) (by simp [a1])]
    have hm := List.getElem_mem a1
    obtain ⟨r1, r2⟩ := h.rng _ hm
    have r3 := h.ne _ hm
    have hnot : R[i] ∉ R.take i := by
      intro hin
      have hnd := h.nd
      rw [← List.take_append_drop i R, List.pairwise_append] at hnd
      exact hnd.2.2 _ hin _ (List.mem_iff_getElem.2 ⟨0, by simp; omega, by simp⟩) rfl
    generalize hp : R[i] = p at *
    refine alloc_store (cs := prC p) rfl rfl rfl rfl fun b4 hb4 => ?_
    have hle2 := Heap.le_trans hle (Heap.le_new (c := prC p) hb4)
    have h4 : (H1.put b4 (prC p)) b4 = some (prC p) := Heap.put_same
    generalize H1.put b4 (prC p) = H2 at *
    have x0 : idxArr 2 1 (.ptr b4 0) (.int .i64 0) = some (.ptr b4 0) := rfl
    have x1 : idxArr 2 1 (.ptr b4 0) (.int .i64 1) = some (.ptr b4 1) := rfl
    have l0 : load1 (.ptr b4 0) H2 = some (.int .i64 (p.1 : Int)) := load1_at h4 rfl
    have l1 : load1 (.ptr b4 1) H2 = some (.int .i64 (p.2 : Int)) := load1_at h4 rfl
    have lN : loadN 2 (.ptr b4 0) H2 = some (.agg (prC p)) := by simp [loadN, cellsAt?, h4, prC]
    have hmin : min2F (.int .i64 (p.1 : Int)) (.int .i64 (p.2 : Int)) = some (.int .i64 (if (p.2 : Int) < (p.1 : Int) then (p.2 : Int) else (p.1 : Int))) := rfl
    have hmax : max2F (.int .i64 (p.1 : Int)) (.int .i64 (p.2 : Int)) = some (.int .i64 (if (p.2 : Int) > (p.1 : Int) then (p.2 : Int) else (p.1 : Int))) := rfl
    have e4 : decide ((if (p.2 : Int) < (p.1 : Int) then (p.2 : Int) else (p.1 : Int)) < 0) = false := decide_eq_false (by split <;> omega)
    have e5 : decide ((n : Int) ≤ (if (p.2 : Int) > (p.1 : Int) then (p.2 : Int) else (p.1 : Int))) = false := decide_eq_false (by split <;> omega)
    have e6 : ((p.1 : Int) == (p.2 : Int)) = false := by rw [beq_eq_false_iff_ne]; omega
    obtain ⟨v', hs1, hs2⟩ := slcP (hv.le hle2) (k := i) (by omega)
    simp only [letO_some, cellsOf?_agg, cellsOf?_int, cellsOf?_bool, cellsOf?_imm, cellsOf?_ref, cellsOf?_nils, faddr_iptr, faddr_ptr, List.drop_succ_cons, List.drop_zero, List.take_succ_cons, List.take_zero, load1_iptr, loadN_iptr, List.length_cons, List.length_nil, Nat.le_refl, if_true, List.getElem?_cons_zero, List.getElem?_cons_succ, List.getD_cons_zero, List.getD_cons_succ, extrF_tup, binF_add, binF_sub, binF_mul, binF_eql, binF_neq, binF_lss, binF_leq, binF_gtr, binF_geq, true_and, x0, x1, l0, l1, hmin, e4, gval_bool, Int.reduceBNe, Int.reduceBEq, pickF_true, pickF_false, reduceIte, Bool.true_eq_false, Bool.false_eq_true, if_false, condA_tt, condA_ff, condG_tt, condG_ff, condG_tt', condG_ff', condG_undef, gval_undef, hmax, e5, e6, condA_ff, hs1, lN]
    refine c30 hs2 (by rw [List.length_take]; omega) ?_
    rw [decide_eq_false hnot]
    simp only [letO_some, cellsOf?_agg, cellsOf?_int, cellsOf?_bool, cellsOf?_imm, cellsOf?_ref, cellsOf?_nils, faddr_iptr, faddr_ptr, List.drop_succ_cons, List.drop_zero, List.take_succ_cons, List.take_zero, load1_iptr, loadN_iptr, List.length_cons, List.length_nil, Nat.le_refl, if_true, List.getElem?_cons_zero, List.getElem?_cons_succ, List.getD_cons_zero, List.getD_cons_succ, extrF_tup, binF_add, binF_sub, binF_mul, binF_eql, binF_neq, binF_lss, binF_leq, binF_gtr, binF_geq, true_and, condA_ff]
    rw [wrap_i64 (by omega) (by omega)]
    exact ⟨⟨i + 1, rfl, by omega, hle2⟩, by simp [iv] <;> omega⟩
  · exact endK_pub (Pub.drop hle) (endK_ret hk)
end Go.Proofs.YtmmfelpgcdlgfaaDoor

namespace Go.Proofs.YtmmfelpgcdlgfaaDoor
open Go.Av
set_option linter.unusedVariables false
set_option linter.unusedSimpArgs false
set_option maxRecDepth 4000

theorem snoc_ind {α : Type} {P : List α → Prop} (h0 : P []) (h1 : ∀ l a, P l → P (l ++ [a])) (l : List α) : P l := by
  rw [← List.reverse_reverse l]
  induction l.reverse with
  | nil => exact h0
  | cons a r ih => rw [List.reverse_cons]; exact h1 _ _ ih
/-- The words that a word sees, a bit each. -/
def sw (R : List (Nat × Nat)) (x : Nat) : Nat := (R.filter fun p => p.1 == x).foldl (fun s p => s ||| 2 ^ p.2) 0
theorem sw_snoc (R : List (Nat × Nat)) (p : Nat × Nat) (x : Nat) : sw (R ++ [p]) x = if p.1 = x then sw R x ||| 2 ^ p.2 else sw R x := by
  unfold sw
  rw [List.filter_append, List.foldl_append]
  by_cases h : p.1 = x
  · rw [if_pos h]; simp [h]
  · rw [if_neg h]; simp [h]
theorem sw_bit (R : List (Nat × Nat)) (x y : Nat) : (sw R x).testBit y = decide ((x, y) ∈ R) := by
  induction R using snoc_ind with
  | h0 => simp [sw]
  | h1 R p ih =>
    rw [sw_snoc]
    obtain ⟨a, b⟩ := p
    split
    · rename_i h
      simp only at h
      subst h
      rw [Nat.testBit_or, ih, Nat.testBit_two_pow]
      by_cases hb : b = y
      · subst hb; simp
      · have : (a, y) ∈ R ++ [(a, b)] ↔ (a, y) ∈ R := by simp [Ne.symm hb]
        simp [this, hb]
    · rename_i h
      simp only at h
      rw [ih]
      have : (x, y) ∈ R ++ [(a, b)] ↔ (x, y) ∈ R := by simp [Ne.symm h]
      simp [this]
theorem sw_lt {R : List (Nat × Nat)} (h : ∀ r ∈ R, r.2 < 7) (x : Nat) : sw R x < 128 := by
  induction R using snoc_ind with
  | h0 => simp [sw]
  | h1 R p ih =>
    rw [sw_snoc]
    have h1 := ih fun r hr => h r (List.mem_append_left _ hr)
    split
    · have h2 : p.2 < 7 := h p (by simp)
      have : 2 ^ p.2 < 2 ^ 7 := Nat.pow_lt_pow_right (by omega) h2
      exact Nat.or_lt_two_pow (n := 7) h1 this
    · exact h1
def webC (n : Nat) (R : List (Nat × Nat)) : List AV := .int .i64 (n : Int) :: (List.range 7).map fun x => .int .u64 (sw R x : Nat)
theorem webC_len (n : Nat) (R : List (Nat × Nat)) : (webC n R).length = 8 := by simp [webC]
theorem webC_get (n : Nat) (R : List (Nat × Nat)) {x : Nat} (h : x < 7) : (webC n R)[1 + x]? = some (.int .u64 (sw R x : Nat)) := by
  rw [Nat.add_comm, webC, List.getElem?_cons_succ]
  simp [h]
theorem webC_set (n : Nat) (R : List (Nat × Nat)) (p : Nat × Nat) (h : p.1 < 7) : splice (webC n R) (1 + p.1) [.int .u64 ((sw R p.1 ||| 2 ^ p.2 : Nat) : Int)] = webC n (R ++ [p]) := by
  have h8 := webC_len n R
  have e : splice (webC n R) (1 + p.1) [.int .u64 ((sw R p.1 ||| 2 ^ p.2 : Nat) : Int)] = (webC n R).set (1 + p.1) (.int .u64 ((sw R p.1 ||| 2 ^ p.2 : Nat) : Int)) := by
    rw [List.set_eq_take_append_cons_drop, if_pos (by omega)]
    simp [splice]
  rw [e, Nat.add_comm, webC, webC, List.set_cons_succ]
  congr 1
  apply List.ext_getElem?
  intro i
  rw [List.getElem?_set]
  by_cases hi : i < 7
  · by_cases hx : p.1 = i
    · subst hx
      simp [hi, sw_snoc]
    · simp [hi, hx, sw_snoc]
  · have : ¬ p.1 = i := by omega
    simp [this, hi]
theorem webC_all (n : Nat) (R : List (Nat × Nat)) : (webC n R).all isScalar = true := by
  simp [webC, List.range_succ, isScalar]
theorem b79 (n : Int) : buildF Tryd.prog 79 [(0, .int .i64 n)] = some (.agg (.int .i64 n :: List.replicate 7 (.int .u64 0))) := by
  rw [buildF_of (show buildPlan Tryd.prog 79 = some (.int .i64 0 :: List.replicate 7 (.int .u64 0), [(0, 1), (1, 7)]) by kernel_rfl)]
  simp [fillA, splice]
theorem alloc_ {z : List AV} {k : AV → Heap → Prop} {H : Heap} (hk : ∀ b, H b = none → k (.ptr b 0) (H.put b z)) : allocA z k H := fun b hb => hk b hb
/-- see.woven of a book in order -/
theorem c31 {v : AV} {n : Nat} {R : List (Nat × Nat)} {H : Heap} {K : AV → Heap → Prop} (h : Vd n R) (hv : RP H v R) (hk : K (.tup [.agg (webC n R), .int .i64 0]) H) : ACalls Tryd.prog 31 [.agg [.int .i64 (n : Int), v]] H K := by
  apply W31_ok
  unfold W31
  have hlen := ReadsC.len hv
  have hl16 := h.len
  have hn7 := h.n7
  have e0 : ((0 : Int) != 0) = false := rfl
  try simp only [letO_some, cellsOf?_agg, cellsOf?_int, cellsOf?_bool, cellsOf?_imm, cellsOf?_ref, cellsOf?_nils, faddr_iptr, faddr_ptr, List.drop_succ_cons, List.drop_zero, List.take_succ_cons, List.take_zero, load1_iptr, loadN_iptr, List.length_cons, List.length_nil, Nat.le_refl, if_true, List.getElem?_cons_zero, List.getElem?_cons_succ, List.getD_cons_zero, List.getD_cons_succ, extrF_tup, binF_add, binF_sub, binF_mul, binF_eql, binF_neq, binF_lss, binF_leq, binF_gtr, binF_geq, true_and]
  refine alloc_ fun b2 hb2 => ?_
  have hle2 := Heap.le_new (c := [.int .i64 0, .int .u64 0, .int .u64 0, .int .u64 0, .int .u64 0, .int .u64 0, .int .u64 0, .int .u64 0]) hb2
  have h2 : (H.put b2 [.int .i64 0, .int .u64 0, .int .u64 0, .int .u64 0, .int .u64 0, .int .u64 0, .int .u64 0, .int .u64 0]) b2 = some [.int .i64 0, .int .u64 0, .int .u64 0, .int .u64 0, .int .u64 0, .int .u64 0, .int .u64 0, .int .u64 0] := Heap.put_same
  generalize H.put b2 [.int .i64 0, .int .u64 0, .int .u64 0, .int .u64 0, .int .u64 0, .int .u64 0, .int .u64 0, .int .u64 0] = H2 at *
  simp only [letO_some, cellsOf?_agg, cellsOf?_int, cellsOf?_bool, cellsOf?_imm, cellsOf?_ref, cellsOf?_nils, faddr_iptr, faddr_ptr, List.drop_succ_cons, List.drop_zero, List.take_succ_cons, List.take_zero, load1_iptr, loadN_iptr, List.length_cons, List.length_nil, Nat.le_refl, if_true, List.getElem?_cons_zero, List.getElem?_cons_succ, List.getD_cons_zero, List.getD_cons_succ, extrF_tup, binF_add, binF_sub, binF_mul, binF_eql, binF_neq, binF_lss, binF_leq, binF_gtr, binF_geq, true_and, b79]
  refine alloc_store (cs := webC n []) rfl (webC_all n []) rfl rfl fun b4 hb4 => ?_
  have hle4 := Heap.le_new (c := webC n []) hb4
  have h4 : (H2.put b4 (webC n [])) b4 = some (webC n []) := Heap.put_same
  have h24 := hle4 _ _ h2
  have hne : b2 ≠ b4 := by rintro rfl; rw [h2] at hb4; cases hb4
  have hb4H := none_of_le hle2 hb4
  generalize H2.put b4 (webC n []) = H4 at *
  have hleH := Heap.le_trans hle2 hle4
  try simp only [letO_some, cellsOf?_agg, cellsOf?_int, cellsOf?_bool, cellsOf?_imm, cellsOf?_ref, cellsOf?_nils, faddr_iptr, faddr_ptr, List.drop_succ_cons, List.drop_zero, List.take_succ_cons, List.take_zero, load1_iptr, loadN_iptr, List.length_cons, List.length_nil, Nat.le_refl, if_true, List.getElem?_cons_zero, List.getElem?_cons_succ, List.getD_cons_zero, List.getD_cons_succ, extrF_tup, binF_add, binF_sub, binF_mul, binF_eql, binF_neq, binF_lss, binF_leq, binF_gtr, binF_geq, true_and]
  refine c59 h (hv.le hleH) ?_
  simp only [letO_some, cellsOf?_agg, cellsOf?_int, cellsOf?_bool, cellsOf?_imm, cellsOf?_ref, cellsOf?_nils, faddr_iptr, faddr_ptr, List.drop_succ_cons, List.drop_zero, List.take_succ_cons, List.take_zero, load1_iptr, loadN_iptr, List.length_cons, List.length_nil, Nat.le_refl, if_true, List.getElem?_cons_zero, List.getElem?_cons_succ, List.getD_cons_zero, List.getD_cons_succ, extrF_tup, binF_add, binF_sub, binF_mul, binF_eql, binF_neq, binF_lss, binF_leq, binF_gtr, binF_geq, true_and, e0, condA_ff, hlen]
  refine ⟨fun L H' => ∃ i : Nat, eqt L [.int .i64 i] ∧ i ≤ R.length ∧ H.le H' ∧ H' b4 = some (webC n (R.take i)) ∧ H' b2 = some [.int .i64 0, .int .u64 0, .int .u64 0, .int .u64 0, .int .u64 0, .int .u64 0, .int .u64 0, .int .u64 0], fun L _ => (R.length - iv L 0).toNat, ⟨0, rfl, by omega, hleH, h4, h24⟩, ?_⟩
  rintro L H1 ⟨i, rfl, hi, hle, h4', h2'⟩
  try simp only [letO_some, cellsOf?_agg, cellsOf?_int, cellsOf?_bool, cellsOf?_imm, cellsOf?_ref, cellsOf?_nils, faddr_iptr, faddr_ptr, List.drop_succ_cons, List.drop_zero, List.take_succ_cons, List.take_zero, load1_iptr, loadN_iptr, List.length_cons, List.length_nil, Nat.le_refl, if_true, List.getElem?_cons_zero, List.getElem?_cons_succ, List.getD_cons_zero, List.getD_cons_succ, extrF_tup, binF_add, binF_sub, binF_mul, binF_eql, binF_neq, binF_lss, binF_leq, binF_gtr, binF_geq, true_and]
  refine condA_t (fun hlt => ?_) (fun hge => ?_)
  · have a1 : i < R.length := by omega
    refine ReadsC.getN hle hv (by omega) (by omega) ?_
    rw [Int.toNat_natCast, rows_get prC_len (x := R[i]) (by simp [a1])]
    have hm := List.getElem_mem a1
    obtain ⟨r1, r2⟩ := h.rng _ hm
    have htk : R.take (i + 1) = R.take i ++ [R[i]] := by rw [List.take_add_one, List.getElem?_eq_getElem a1]; rfl
    have hsw := sw_lt (R := R.take i) (fun r hr => by have := (h.rng r (List.mem_of_mem_take hr)).2; omega) R[i].1
    generalize hp : R[i] = p at *
    refine alloc_store (cs := prC p) rfl rfl rfl rfl fun b7 hb7 => ?_
    have hle7 := Heap.le_trans hle (Heap.le_new (c := prC p) hb7)
    have h7 : (H1.put b7 (prC p)) b7 = some (prC p) := Heap.put_same
    have hx4 := (Heap.le_new (c := prC p) hb7) _ _ h4'
    have hx2 := (Heap.le_new (c := prC p) hb7) _ _ h2'
    generalize H1.put b7 (prC p) = H7 at *
    have x0 : idxArr 2 1 (.ptr b7 0) (.int .i64 0) = some (.ptr b7 0) := rfl
    have x1 : idxArr 2 1 (.ptr b7 0) (.int .i64 1) = some (.ptr b7 1) := rfl
    have l0 : load1 (.ptr b7 0) H7 = some (.int .i64 (p.1 : Int)) := load1_at h7 rfl
    have l1 : load1 (.ptr b7 1) H7 = some (.int .i64 (p.2 : Int)) := load1_at h7 rfl
    have x4 : idxArr 7 1 (.ptr b4 (0 + 1)) (.int .i64 (p.1 : Int)) = some (.ptr b4 (1 + p.1)) := by
      simp only [idxArr]
      rw [if_pos (by omega)]
      simp
    have l4 : load1 (.ptr b4 (1 + p.1)) H7 = some (.int .u64 (sw (R.take i) p.1 : Nat)) := load1_at hx4 (webC_get _ _ (by omega))
    have hp2 : 2 ^ p.2 < 2 ^ 7 := Nat.pow_lt_pow_right (by omega) (by omega)
    have p63 : (2 : Nat) ^ 63 = 9223372036854775808 := by decide
    try simp only [letO_some, cellsOf?_agg, cellsOf?_int, cellsOf?_bool, cellsOf?_imm, cellsOf?_ref, cellsOf?_nils, faddr_iptr, faddr_ptr, List.drop_succ_cons, List.drop_zero, List.take_succ_cons, List.take_zero, load1_iptr, loadN_iptr, List.length_cons, List.length_nil, Nat.le_refl, if_true, List.getElem?_cons_zero, List.getElem?_cons_succ, List.getD_cons_zero, List.getD_cons_succ, extrF_tup, binF_add, binF_sub, binF_mul, binF_eql, binF_neq, binF_lss, binF_leq, binF_gtr, binF_geq, true_and]
    simp only [x0, x1, letO_some, l0, l1, x4, l4, u64_shl (k := p.2) (by omega), u64_or (a := sw (R.take i) p.1) (b := 2 ^ p.2) (by omega) (by omega)]
    refine storeA_of (cs := [.int .u64 ((sw (R.take i) p.1 ||| 2 ^ p.2 : Nat) : Int)]) hx4 rfl rfl rfl (by rw [webC_len]; simp; omega) ?_
    try simp only [letO_some, cellsOf?_agg, cellsOf?_int, cellsOf?_bool, cellsOf?_imm, cellsOf?_ref, cellsOf?_nils, faddr_iptr, faddr_ptr, List.drop_succ_cons, List.drop_zero, List.take_succ_cons, List.take_zero, load1_iptr, loadN_iptr, List.length_cons, List.length_nil, Nat.le_refl, if_true, List.getElem?_cons_zero, List.getElem?_cons_succ, List.getD_cons_zero, List.getD_cons_succ, extrF_tup, binF_add, binF_sub, binF_mul, binF_eql, binF_neq, binF_lss, binF_leq, binF_gtr, binF_geq, true_and]
    rw [wrap_i64 (by omega) (by omega), webC_set _ _ _ (by omega)]
    refine ⟨⟨i + 1, rfl, by omega, Heap.le_put hle7 hb4H, ?_, ?_⟩, by simp [iv] <;> omega⟩
    · rw [Heap.put_same, htk]
    · rw [Heap.put_ne hne]; exact hx2
  · have hie : i = R.length := by omega
    subst hie
    rw [List.take_length] at h4'
    have l4 : loadN 8 (.ptr b4 0) H1 = some (.agg (webC n R)) := by
      have := webC_len n R
      simp [loadN, cellsAt?, h4', this]
      rw [List.take_of_length_le (by omega)]
    simp only [l4, letO_some]
    refine storeA_of (cs := webC n R) h2' rfl (webC_all n R) (webC_len n R) (by rw [webC_len]; simp) ?_
    have e : splice [.int .i64 0, .int .u64 0, .int .u64 0, .int .u64 0, .int .u64 0, .int .u64 0, .int .u64 0, .int .u64 0] 0 (webC n R) = webC n R := by
      simp [splice, webC_len]
    have l2 : loadN 8 (.ptr b2 0) (H1.put b2 (webC n R)) = some (.agg (webC n R)) := by
      have := webC_len n R
      simp [loadN, cellsAt?, Heap.put_same, this]
      rw [List.take_of_length_le (by omega)]
    rw [e]
    simp only [l2, letO_some]
    exact endK_pub (Pub.drop (Heap.le_put hle hb2)) (endK_ret hk)
/-- What speaks against a choice. -/
def clashAt (R : List (Nat × Nat)) (s x : Nat) : Bool := s.testBit x && (sw R x &&& s != 0)
def openAt (R : List (Nat × Nat)) (s x : Nat) : Bool := !s.testBit x && (sw R x &&& s == 0)
def judE (n : Nat) (R : List (Nat × Nat)) (s : Nat) : Int := if (List.range n).any (clashAt R s) then 13 else if (List.range n).any (openAt R s) then 21 else 0
/-- see.judged -/
theorem c32 {n : Nat} {R : List (Nat × Nat)} {s : Nat} {H : Heap} {K : AV → Heap → Prop} (h : Vd n R) (hs : s < 128) (hk : K (.int .i64 (judE n R s)) H) : ACalls Tryd.prog 32 [.agg (webC n R), .int .u64 (s : Int)] H K := by
  apply W32_ok
  unfold W32
  have hn7 := h.n7
  have hs7 : slcArr 7 1 (.iptr ((List.range 7).map fun x => .int .u64 (sw R x : Nat))) none (some (.int .i64 (n : Int))) none = some (.imm n (n == 7) ((List.range n).map fun x => .int .u64 (sw R x : Nat))) := by
    have n1 : ∀ d, natOf none d = some d := fun d => rfl
    have n2 : ∀ d, natOf (some (.int .i64 (n : Int))) d = some n := fun d => by simp [natOf]
    simp only [slcArr, n1, n2, Option.bind_some]
    rw [if_pos ⟨by omega, hn7⟩]
    simp only [Nat.sub_zero, Nat.zero_mul, List.drop_zero, Nat.mul_one, ← List.map_take, List.take_range, Nat.min_eq_left hn7]
  have hlen : lenA (.imm n (n == 7) ((List.range n).map fun x => .int .u64 (sw R x : Nat))) = some (.int .i64 n) := rfl
  have hc : cellsOf? (.agg (webC n R)) = some (webC n R) := rfl
  have f0 : faddr 0 (.iptr (webC n R)) = some (.iptr (webC n R)) := rfl
  have f1 : faddr 1 (.iptr (webC n R)) = some (.iptr ((List.range 7).map fun x => .int .u64 (sw R x : Nat))) := rfl
  have g0 : load1 (.iptr (webC n R)) H = some (.int .i64 n) := rfl
  simp only [letO_some, hc, f0, f1, g0, hs7, hlen, true_and]
  refine ⟨fun L H' => ∃ i : Nat, eqt L [.bool ((List.range i).any (openAt R s)), .int .i64 i] ∧ i ≤ n ∧ eqt H' H ∧ (List.range i).any (clashAt R s) = false, fun L _ => (n - iv L 1).toNat, ⟨0, rfl, by omega, rfl, rfl⟩, ?_⟩
  rintro L H' ⟨i, rfl, hi, rfl, hnc⟩
  try simp only [letO_some, cellsOf?_agg, cellsOf?_int, cellsOf?_bool, cellsOf?_imm, cellsOf?_ref, cellsOf?_nils, faddr_iptr, faddr_ptr, List.drop_succ_cons, List.drop_zero, List.take_succ_cons, List.take_zero, load1_iptr, loadN_iptr, List.length_cons, List.length_nil, Nat.le_refl, if_true, List.getElem?_cons_zero, List.getElem?_cons_succ, List.getD_cons_zero, List.getD_cons_succ, extrF_tup, binF_add, binF_sub, binF_mul, binF_eql, binF_neq, binF_lss, binF_leq, binF_gtr, binF_geq, true_and]
  refine condA_t (fun hlt => ?_) (fun hge => ?_)
  · have a1 : i < n := by omega
    have ho : (List.range (i + 1)).any (openAt R s) = ((List.range i).any (openAt R s) || openAt R s i) := by rw [List.range_succ, List.any_append]; simp
    have hcl : (List.range (i + 1)).any (clashAt R s) = clashAt R s i := by rw [List.range_succ, List.any_append, hnc]; simp
    have hsw := sw_lt (R := R) (fun r hr => by have := (h.rng r hr).2; omega) i
    have p64 : (2 : Nat) ^ 64 = 18446744073709551616 := by decide
    have hand : ∀ t, binF Tryd.prog .and t (.int .u64 ((sw R i : Nat) : Int)) (.int .u64 (s : Int)) = some (.int .u64 ((sw R i &&& s : Nat) : Int)) := fun t => u64_and (by omega) (by omega)
    have hdiv : s / 2 ^ i < 2 ^ 64 := by have := Nat.div_le_self s (2 ^ i); omega
    have hone : ∀ t, binF Tryd.prog .and t (.int .u64 ((s / 2 ^ i : Nat) : Int)) (.int .u64 1) = some (.int .u64 ((s / 2 ^ i &&& 1 : Nat) : Int)) := fun t => u64_and (t := t) (b := 1) hdiv (by decide)
    have hb1 : (((sw R i &&& s : Nat) : Int) != 0) = (sw R i &&& s != 0) := by
      rw [Bool.eq_iff_iff, bne_iff_ne, bne_iff_ne]; omega
    have hb2 : (((sw R i &&& s : Nat) : Int) == 0) = (sw R i &&& s == 0) := by
      rw [Bool.eq_iff_iff, beq_iff_eq, beq_iff_eq]; omega
    have hall : clashAt R s i = true → (List.range n).any (clashAt R s) = true := fun hx => List.any_eq_true.2 ⟨i, List.mem_range.2 a1, hx⟩
    refine ⟨fun L7 H8 => eqt L7 [.bool ((List.range (i + 1)).any (openAt R s))] ∧ eqt H8 H' ∧ clashAt R s i = false, ?_, ?_⟩
    · refine ReadsC.get (v := .imm n (n == 7) ((List.range n).map fun x => .int .u64 (sw R x : Nat))) (Heap.le_refl H') (n := n) ⟨by simp, rfl, rfl⟩ (x := .int .u64 ((sw R i : Nat) : Int)) (by omega) (by omega) (by rw [Int.toNat_natCast]; simp [a1]) ?_
      simp only [letO_some, u64_shr (show i < 64 by omega), hone, binF_eql, u64_bit]
      cases hb : s.testBit i
      · have hc0 : clashAt R s i = false := by simp [clashAt, hb]
        have ho1 : openAt R s i = (sw R i &&& s == 0) := by simp [openAt, hb]
        have hun : unF .not (.bool false) = some (.bool true) := rfl
        simp only [gval_bool, Int.reduceBNe, Int.reduceBEq, pickF_true, pickF_false, reduceIte, Bool.true_eq_false, Bool.false_eq_true, if_false, condA_tt, condA_ff, condG_tt, condG_ff, condG_tt', condG_ff', condG_undef, gval_undef, letO_some, hun, hand, binF_eql, hb2]
        cases h0 : (sw R i &&& s == 0)
        · rw [h0] at ho1
          simp only [condA_ff]
          exact ⟨by rw [ho, ho1, Bool.or_false]; rfl, rfl, hc0⟩
        · rw [h0] at ho1
          simp only [condA_tt, letO_some]
          exact ⟨by rw [ho, ho1, Bool.or_true]; rfl, rfl, hc0⟩
      · have ho1 : openAt R s i = false := by simp [openAt, hb]
        have hc1 : clashAt R s i = (sw R i &&& s != 0) := by simp [clashAt, hb]
        have hun : unF .not (.bool true) = some (.bool false) := rfl
        simp only [gval_bool, Int.reduceBNe, Int.reduceBEq, pickF_true, pickF_false, reduceIte, Bool.true_eq_false, Bool.false_eq_true, if_false, condA_tt, condA_ff, condG_tt, condG_ff, condG_tt', condG_ff', condG_undef, gval_undef, letO_some, hand, binF_neq, hb1]
        cases h0 : (sw R i &&& s != 0)
        · rw [h0] at hc1
          simp only [condA_ff, hun, letO_some, gval_bool, Int.reduceBNe, Int.reduceBEq, pickF_true, pickF_false, reduceIte, Bool.true_eq_false, Bool.false_eq_true, if_false, condA_tt, condA_ff, condG_tt, condG_ff, condG_tt', condG_ff', condG_undef, gval_undef]
          exact ⟨by rw [ho, ho1, Bool.or_false]; rfl, rfl, hc1⟩
        · rw [h0] at hc1
          simp only [condA_tt, letO_some]
          have : judE n R s = 13 := by rw [judE, if_pos (hall hc1)]
          rw [this] at hk
          exact endK_ret hk
    · rintro L7 H8 ⟨rfl, rfl, hcf⟩
      simp only [letO_some, cellsOf?_agg, cellsOf?_int, cellsOf?_bool, cellsOf?_imm, cellsOf?_ref, cellsOf?_nils, faddr_iptr, faddr_ptr, List.drop_succ_cons, List.drop_zero, List.take_succ_cons, List.take_zero, load1_iptr, loadN_iptr, List.length_cons, List.length_nil, Nat.le_refl, if_true, List.getElem?_cons_zero, List.getElem?_cons_succ, List.getD_cons_zero, List.getD_cons_succ, extrF_tup, binF_add, binF_sub, binF_mul, binF_eql, binF_neq, binF_lss, binF_leq, binF_gtr, binF_geq, true_and]
      rw [wrap_i64 (by omega) (by omega)]
      exact ⟨⟨i + 1, rfl, by omega, rfl, by rw [hcl]; exact hcf⟩, by simp [iv] <;> omega⟩
  · have hie : i = n := by omega
    subst hie
    unfold judE at hk
    rw [if_neg (by rw [hnc]; simp)] at hk
    cases hop : (List.range i).any (openAt R s)
    · rw [hop, if_neg (by simp)] at hk
      simp only [condA_ff]
      exact endK_ret hk
    · rw [hop, if_pos rfl] at hk
      simp only [condA_tt]
      exact endK_ret hk
end Go.Proofs.YtmmfelpgcdlgfaaDoor

namespace Go.Proofs.YtmmfelpgcdlgfaaDoor
open Go.Av
set_option linter.unusedVariables false
set_option linter.unusedSimpArgs false
set_option maxRecDepth 8000

/- Lists are compared. -/
def cmpL : List Int → List Int → Int
  | [], [] => 0
  | [], _ :: _ => -1
  | _ :: _, [] => 1
  | a :: l, b :: m => if a < b then -1 else if b < a then 1 else cmpL l m
/-- cmp.Compare -/
theorem c62 {a b : Int} {H : Heap} {K : AV → Heap → Prop} (hk : K (.int .i64 (if a < b then -1 else if b < a then 1 else 0)) H) : ACalls Tryd.prog 62 [.int .i64 a, .int .i64 b] H K := by
  have c93 : ∀ (x : Int) (K : AV → Heap → Prop), K (.bool false) H → ACalls Tryd.prog 93 [.int .i64 x] H K := by
    intro x K h
    apply W93_ok
    unfold W93
    have e : (x != x) = false := by simp
    simp only [letO_some, cellsOf?_agg, cellsOf?_int, cellsOf?_bool, cellsOf?_imm, cellsOf?_ref, cellsOf?_nils, faddr_iptr, faddr_ptr, List.drop_succ_cons, List.drop_zero, List.take_succ_cons, List.take_zero, load1_iptr, loadN_iptr, List.length_cons, List.length_nil, Nat.le_refl, if_true, List.getElem?_cons_zero, List.getElem?_cons_succ, List.getD_cons_zero, List.getD_cons_succ, extrF_tup, binF_add, binF_sub, binF_mul, binF_eql, binF_neq, binF_lss, binF_leq, binF_gtr, binF_geq, true_and, e]
    exact endK_ret h
  apply W62_ok
  unfold W62
  try simp only [letO_some, cellsOf?_agg, cellsOf?_int, cellsOf?_bool, cellsOf?_imm, cellsOf?_ref, cellsOf?_nils, faddr_iptr, faddr_ptr, List.drop_succ_cons, List.drop_zero, List.take_succ_cons, List.take_zero, load1_iptr, loadN_iptr, List.length_cons, List.length_nil, Nat.le_refl, if_true, List.getElem?_cons_zero, List.getElem?_cons_succ, List.getD_cons_zero, List.getD_cons_succ, extrF_tup, binF_add, binF_sub, binF_mul, binF_eql, binF_neq, binF_lss, binF_leq, binF_gtr, binF_geq, true_and]
  refine c93 _ _ ?_
  try simp only [letO_some, cellsOf?_agg, cellsOf?_int, cellsOf?_bool, cellsOf?_imm, cellsOf?_ref, cellsOf?_nils, faddr_iptr, faddr_ptr, List.drop_succ_cons, List.drop_zero, List.take_succ_cons, List.take_zero, load1_iptr, loadN_iptr, List.length_cons, List.length_nil, Nat.le_refl, if_true, List.getElem?_cons_zero, List.getElem?_cons_succ, List.getD_cons_zero, List.getD_cons_succ, extrF_tup, binF_add, binF_sub, binF_mul, binF_eql, binF_neq, binF_lss, binF_leq, binF_gtr, binF_geq, true_and]
  refine c93 _ _ ?_
  simp only [letO_some, cellsOf?_agg, cellsOf?_int, cellsOf?_bool, cellsOf?_imm, cellsOf?_ref, cellsOf?_nils, faddr_iptr, faddr_ptr, List.drop_succ_cons, List.drop_zero, List.take_succ_cons, List.take_zero, load1_iptr, loadN_iptr, List.length_cons, List.length_nil, Nat.le_refl, if_true, List.getElem?_cons_zero, List.getElem?_cons_succ, List.getD_cons_zero, List.getD_cons_succ, extrF_tup, binF_add, binF_sub, binF_mul, binF_eql, binF_neq, binF_lss, binF_leq, binF_gtr, binF_geq, true_and, condA_ff]
  refine condA_t (fun h => ?_) (fun h => ?_)
  · rw [if_pos h] at hk; exact endK_ret hk
  · rw [if_neg h] at hk
    refine condA_t (fun h => ?_) (fun h => ?_)
    · rw [if_pos (by omega)] at hk; exact endK_ret hk
    · rw [if_neg (by omega)] at hk; exact endK_ret hk
/-- slices.Compare -/
theorem c35 {va vb : AV} {a b : List Int} {H : Heap} {K : AV → Heap → Prop} (ha : Reads H va a) (hb : Reads H vb b) (hla : a.length < 2 ^ 62) (hlb : b.length < 2 ^ 62) (hk : K (.int .i64 (cmpL a b)) H) : ACalls Tryd.prog 35 [va, vb] H K := by
  apply W35_ok
  unfold W35
  have hla' := ha.len
  have hlb' := hb.len
  simp only [letO_some, cellsOf?_agg, cellsOf?_int, cellsOf?_bool, cellsOf?_imm, cellsOf?_ref, cellsOf?_nils, faddr_iptr, faddr_ptr, List.drop_succ_cons, List.drop_zero, List.take_succ_cons, List.take_zero, load1_iptr, loadN_iptr, List.length_cons, List.length_nil, Nat.le_refl, if_true, List.getElem?_cons_zero, List.getElem?_cons_succ, List.getD_cons_zero, List.getD_cons_succ, extrF_tup, binF_add, binF_sub, binF_mul, binF_eql, binF_neq, binF_lss, binF_leq, binF_gtr, binF_geq, true_and, hla', hlb']
  refine ⟨fun L H' => ∃ i : Nat, eqt L [.int .i64 i] ∧ i ≤ a.length ∧ i ≤ b.length ∧ eqt H' H ∧ cmpL (a.drop i) (b.drop i) = cmpL a b, fun L _ => (a.length - iv L 0).toNat, ⟨0, rfl, by omega, by omega, rfl, rfl⟩, ?_⟩
  rintro L H' ⟨i, rfl, hi, hib, rfl, hd⟩
  try simp only [letO_some, cellsOf?_agg, cellsOf?_int, cellsOf?_bool, cellsOf?_imm, cellsOf?_ref, cellsOf?_nils, faddr_iptr, faddr_ptr, List.drop_succ_cons, List.drop_zero, List.take_succ_cons, List.take_zero, load1_iptr, loadN_iptr, List.length_cons, List.length_nil, Nat.le_refl, if_true, List.getElem?_cons_zero, List.getElem?_cons_succ, List.getD_cons_zero, List.getD_cons_succ, extrF_tup, binF_add, binF_sub, binF_mul, binF_eql, binF_neq, binF_lss, binF_leq, binF_gtr, binF_geq, true_and]
  refine condA_t (fun hlt => ?_) (fun hge => ?_)
  · have a1 : i < a.length := by omega
    refine Reads.get (Heap.le_refl _) ha (by omega) (by omega) ?_
    try simp only [letO_some, cellsOf?_agg, cellsOf?_int, cellsOf?_bool, cellsOf?_imm, cellsOf?_ref, cellsOf?_nils, faddr_iptr, faddr_ptr, List.drop_succ_cons, List.drop_zero, List.take_succ_cons, List.take_zero, load1_iptr, loadN_iptr, List.length_cons, List.length_nil, Nat.le_refl, if_true, List.getElem?_cons_zero, List.getElem?_cons_succ, List.getD_cons_zero, List.getD_cons_succ, extrF_tup, binF_add, binF_sub, binF_mul, binF_eql, binF_neq, binF_lss, binF_leq, binF_gtr, binF_geq, true_and]
    refine condA_t (fun hg => ?_) (fun hg => ?_)
    · have : i = b.length := by omega
      subst this
      rw [List.drop_length, List.drop_eq_getElem_cons a1] at hd
      have : cmpL a b = 1 := by rw [← hd]; rfl
      rw [this] at hk
      exact endK_ret hk
    · have b1 : i < b.length := by omega
      refine Reads.get (Heap.le_refl _) hb (by omega) (by omega) ?_
      have e1 : a.getD (i : Int).toNat 0 = a[i] := by rw [Int.toNat_natCast, List.getD_eq_getElem?_getD, List.getElem?_eq_getElem a1]; rfl
      have e2 : b.getD (i : Int).toNat 0 = b[i] := by rw [Int.toNat_natCast, List.getD_eq_getElem?_getD, List.getElem?_eq_getElem b1]; rfl
      rw [List.drop_eq_getElem_cons a1, List.drop_eq_getElem_cons b1, cmpL] at hd
      try simp only [letO_some, cellsOf?_agg, cellsOf?_int, cellsOf?_bool, cellsOf?_imm, cellsOf?_ref, cellsOf?_nils, faddr_iptr, faddr_ptr, List.drop_succ_cons, List.drop_zero, List.take_succ_cons, List.take_zero, load1_iptr, loadN_iptr, List.length_cons, List.length_nil, Nat.le_refl, if_true, List.getElem?_cons_zero, List.getElem?_cons_succ, List.getD_cons_zero, List.getD_cons_succ, extrF_tup, binF_add, binF_sub, binF_mul, binF_eql, binF_neq, binF_lss, binF_leq, binF_gtr, binF_geq, true_and]
      rw [e1, e2]
      refine c62 ?_
      by_cases h1 : a[i] < b[i]
      · rw [if_pos h1] at hd ⊢
        have : ((-1 : Int) != 0) = true := rfl
        simp only [letO_some, cellsOf?_agg, cellsOf?_int, cellsOf?_bool, cellsOf?_imm, cellsOf?_ref, cellsOf?_nils, faddr_iptr, faddr_ptr, List.drop_succ_cons, List.drop_zero, List.take_succ_cons, List.take_zero, load1_iptr, loadN_iptr, List.length_cons, List.length_nil, Nat.le_refl, if_true, List.getElem?_cons_zero, List.getElem?_cons_succ, List.getD_cons_zero, List.getD_cons_succ, extrF_tup, binF_add, binF_sub, binF_mul, binF_eql, binF_neq, binF_lss, binF_leq, binF_gtr, binF_geq, true_and, this, condA_tt]
        rw [← hd] at hk
        exact endK_ret hk
      · rw [if_neg h1] at hd ⊢
        by_cases h2 : b[i] < a[i]
        · rw [if_pos h2] at hd ⊢
          have : ((1 : Int) != 0) = true := rfl
          simp only [letO_some, cellsOf?_agg, cellsOf?_int, cellsOf?_bool, cellsOf?_imm, cellsOf?_ref, cellsOf?_nils, faddr_iptr, faddr_ptr, List.drop_succ_cons, List.drop_zero, List.take_succ_cons, List.take_zero, load1_iptr, loadN_iptr, List.length_cons, List.length_nil, Nat.le_refl, if_true, List.getElem?_cons_zero, List.getElem?_cons_succ, List.getD_cons_zero, List.getD_cons_succ, extrF_tup, binF_add, binF_sub, binF_mul, binF_eql, binF_neq, binF_lss, binF_leq, binF_gtr, binF_geq, true_and, this, condA_tt]
          rw [← hd] at hk
          exact endK_ret hk
        · rw [if_neg h2] at hd ⊢
          have : ((0 : Int) != 0) = false := rfl
          simp only [letO_some, cellsOf?_agg, cellsOf?_int, cellsOf?_bool, cellsOf?_imm, cellsOf?_ref, cellsOf?_nils, faddr_iptr, faddr_ptr, List.drop_succ_cons, List.drop_zero, List.take_succ_cons, List.take_zero, load1_iptr, loadN_iptr, List.length_cons, List.length_nil, Nat.le_refl, if_true, List.getElem?_cons_zero, List.getElem?_cons_succ, List.getD_cons_zero, List.getD_cons_succ, extrF_tup, binF_add, binF_sub, binF_mul, binF_eql, binF_neq, binF_lss, binF_leq, binF_gtr, binF_geq, true_and, this, condA_ff]
          rw [wrap_i64 (by omega) (by omega)]
          exact ⟨⟨i + 1, rfl, by omega, by omega, rfl, hd⟩, by simp [iv] <;> omega⟩
  · have hie : i = a.length := by omega
    subst hie
    rw [List.drop_length] at hd
    refine condA_t (fun hg => ?_) (fun hg => ?_)
    · have b1 : a.length < b.length := by omega
      rw [List.drop_eq_getElem_cons b1] at hd
      have : cmpL a b = -1 := by rw [← hd]; rfl
      rw [this] at hk
      exact endK_ret hk
    · rw [List.drop_of_length_le (by omega)] at hd
      have : cmpL a b = 0 := by rw [← hd]; rfl
      rw [this] at hk
      exact endK_ret hk
abbrev len8 : Array UInt8 := #[0, 1, 2, 2, 3, 3, 3, 3, 4, 4, 4, 4, 4, 4, 4, 4, 5, 5, 5, 5, 5, 5, 5, 5, 5, 5, 5, 5, 5, 5, 5, 5, 6, 6, 6, 6, 6, 6, 6, 6, 6, 6, 6, 6, 6, 6, 6, 6, 6, 6, 6, 6, 6, 6, 6, 6, 6, 6, 6, 6, 6, 6, 6, 6, 7, 7, 7, 7, 7, 7, 7, 7, 7, 7, 7, 7, 7, 7, 7, 7, 7, 7, 7, 7, 7, 7, 7, 7, 7, 7, 7, 7, 7, 7, 7, 7, 7, 7, 7, 7, 7, 7, 7, 7, 7, 7, 7, 7, 7, 7, 7, 7, 7, 7, 7, 7, 7, 7, 7, 7, 7, 7, 7, 7, 7, 7, 7, 7, 8, 8, 8, 8, 8, 8, 8, 8, 8, 8, 8, 8, 8, 8, 8, 8, 8, 8, 8, 8, 8, 8, 8, 8, 8, 8, 8, 8, 8, 8, 8, 8, 8, 8, 8, 8, 8, 8, 8, 8, 8, 8, 8, 8, 8, 8, 8, 8, 8, 8, 8, 8, 8, 8, 8, 8, 8, 8, 8, 8, 8, 8, 8, 8, 8, 8, 8, 8, 8, 8, 8, 8, 8, 8, 8, 8, 8, 8, 8, 8, 8, 8, 8, 8, 8, 8, 8, 8, 8, 8, 8, 8, 8, 8, 8, 8, 8, 8, 8, 8, 8, 8, 8, 8, 8, 8, 8, 8, 8, 8, 8, 8, 8, 8, 8, 8, 8, 8, 8, 8, 8, 8, 8, 8, 8, 8, 8, 8]
/-- bits.Len of a small number -/
theorem c61 {n : Nat} {H : Heap} {K : AV → Heap → Prop} (hn : n ≤ 12) (hk : ∀ r, K (.int .i64 r) H) : ACalls Tryd.prog 61 [.int .u64 (n : Int)] H K := by
  apply W61_ok
  unfold W61
  simp only [letO_some, cellsOf?_agg, cellsOf?_int, cellsOf?_bool, cellsOf?_imm, cellsOf?_ref, cellsOf?_nils, faddr_iptr, faddr_ptr, List.drop_succ_cons, List.drop_zero, List.take_succ_cons, List.take_zero, load1_iptr, loadN_iptr, List.length_cons, List.length_nil, Nat.le_refl, if_true, List.getElem?_cons_zero, List.getElem?_cons_succ, List.getD_cons_zero, List.getD_cons_succ, extrF_tup, binF_add, binF_sub, binF_mul, binF_eql, binF_neq, binF_lss, binF_leq, binF_gtr, binF_geq, true_and, condA_ff]
  apply W92_ok
  unfold W92
  have e1 : decide ((n : Int) ≥ 4294967296) = false := decide_eq_false (by omega)
  have e1' : decide ((4294967296 : Int) ≤ (n : Int)) = false := decide_eq_false (by omega)
  have e2 : decide ((65536 : Int) ≤ (n : Int)) = false := decide_eq_false (by omega)
  have e3 : decide ((256 : Int) ≤ (n : Int)) = false := decide_eq_false (by omega)
  have e2' : decide ((n : Int) ≥ 65536) = false := decide_eq_false (by omega)
  have e3' : decide ((n : Int) ≥ 256) = false := decide_eq_false (by omega)
  try simp only [letO_some, cellsOf?_agg, cellsOf?_int, cellsOf?_bool, cellsOf?_imm, cellsOf?_ref, cellsOf?_nils, faddr_iptr, faddr_ptr, List.drop_succ_cons, List.drop_zero, List.take_succ_cons, List.take_zero, load1_iptr, loadN_iptr, List.length_cons, List.length_nil, Nat.le_refl, if_true, List.getElem?_cons_zero, List.getElem?_cons_succ, List.getD_cons_zero, List.getD_cons_succ, extrF_tup, binF_add, binF_sub, binF_mul, binF_eql, binF_neq, binF_lss, binF_leq, binF_gtr, binF_geq, true_and]
  refine ⟨fun L H' => eqt L [.int .u64 n, .int .i64 0] ∧ eqt H' H, ?_, ?_⟩
  · simp only [letO_some, cellsOf?_agg, cellsOf?_int, cellsOf?_bool, cellsOf?_imm, cellsOf?_ref, cellsOf?_nils, faddr_iptr, faddr_ptr, List.drop_succ_cons, List.drop_zero, List.take_succ_cons, List.take_zero, load1_iptr, loadN_iptr, List.length_cons, List.length_nil, Nat.le_refl, if_true, List.getElem?_cons_zero, List.getElem?_cons_succ, List.getD_cons_zero, List.getD_cons_succ, extrF_tup, binF_add, binF_sub, binF_mul, binF_eql, binF_neq, binF_lss, binF_leq, binF_gtr, binF_geq, true_and, e1, e1', condA_ff]; exact ⟨rfl, rfl⟩
  rintro L H' ⟨rfl, rfl⟩
  try simp only [letO_some, cellsOf?_agg, cellsOf?_int, cellsOf?_bool, cellsOf?_imm, cellsOf?_ref, cellsOf?_nils, faddr_iptr, faddr_ptr, List.drop_succ_cons, List.drop_zero, List.take_succ_cons, List.take_zero, load1_iptr, loadN_iptr, List.length_cons, List.length_nil, Nat.le_refl, if_true, List.getElem?_cons_zero, List.getElem?_cons_succ, List.getD_cons_zero, List.getD_cons_succ, extrF_tup, binF_add, binF_sub, binF_mul, binF_eql, binF_neq, binF_lss, binF_leq, binF_gtr, binF_geq, true_and]
  refine ⟨fun L H'' => eqt L [.int .u64 n, .int .i64 0] ∧ eqt H'' H', ?_, ?_⟩
  · simp only [letO_some, cellsOf?_agg, cellsOf?_int, cellsOf?_bool, cellsOf?_imm, cellsOf?_ref, cellsOf?_nils, faddr_iptr, faddr_ptr, List.drop_succ_cons, List.drop_zero, List.take_succ_cons, List.take_zero, load1_iptr, loadN_iptr, List.length_cons, List.length_nil, Nat.le_refl, if_true, List.getElem?_cons_zero, List.getElem?_cons_succ, List.getD_cons_zero, List.getD_cons_succ, extrF_tup, binF_add, binF_sub, binF_mul, binF_eql, binF_neq, binF_lss, binF_leq, binF_gtr, binF_geq, true_and, e2, e2', condA_ff]; exact ⟨rfl, rfl⟩
  rintro L H'' ⟨rfl, rfl⟩
  try simp only [letO_some, cellsOf?_agg, cellsOf?_int, cellsOf?_bool, cellsOf?_imm, cellsOf?_ref, cellsOf?_nils, faddr_iptr, faddr_ptr, List.drop_succ_cons, List.drop_zero, List.take_succ_cons, List.take_zero, load1_iptr, loadN_iptr, List.length_cons, List.length_nil, Nat.le_refl, if_true, List.getElem?_cons_zero, List.getElem?_cons_succ, List.getD_cons_zero, List.getD_cons_succ, extrF_tup, binF_add, binF_sub, binF_mul, binF_eql, binF_neq, binF_lss, binF_leq, binF_gtr, binF_geq, true_and]
  refine ⟨fun L H3 => eqt L [.int .u64 n, .int .i64 0] ∧ eqt H3 H'', ?_, ?_⟩
  · simp only [letO_some, cellsOf?_agg, cellsOf?_int, cellsOf?_bool, cellsOf?_imm, cellsOf?_ref, cellsOf?_nils, faddr_iptr, faddr_ptr, List.drop_succ_cons, List.drop_zero, List.take_succ_cons, List.take_zero, load1_iptr, loadN_iptr, List.length_cons, List.length_nil, Nat.le_refl, if_true, List.getElem?_cons_zero, List.getElem?_cons_succ, List.getD_cons_zero, List.getD_cons_succ, extrF_tup, binF_add, binF_sub, binF_mul, binF_eql, binF_neq, binF_lss, binF_leq, binF_gtr, binF_geq, true_and, e3, e3', condA_ff]; exact ⟨rfl, rfl⟩
  rintro L H3 ⟨rfl, rfl⟩
  have hu : convF Tryd.prog 141 5 (.int .u64 (n : Int)) = some (.int .u8 (n : Int)) := by
    have h1 : (Tryd.prog.underlying 141).isSome = true := by kernel_rfl
    have h2 : Tryd.prog.underlying 5 = some (.int .u8) := by kernel_rfl
    obtain ⟨d, h1⟩ := Option.isSome_iff_exists.1 h1
    simp only [convF, h1, h2]
    have : IntKind.u8.wrap (n : Int) = n := by
      have e1 : (2 : Int) ^ 8 = 256 := by decide
      simp only [IntKind.wrap, IntKind.signed, IntKind.bits, Bool.false_and, e1, Bool.false_eq_true, if_false]
      omega
    rw [this]
  try simp only [letO_some, cellsOf?_agg, cellsOf?_int, cellsOf?_bool, cellsOf?_imm, cellsOf?_ref, cellsOf?_nils, faddr_iptr, faddr_ptr, List.drop_succ_cons, List.drop_zero, List.take_succ_cons, List.take_zero, load1_iptr, loadN_iptr, List.length_cons, List.length_nil, Nat.le_refl, if_true, List.getElem?_cons_zero, List.getElem?_cons_succ, List.getD_cons_zero, List.getD_cons_succ, extrF_tup, binF_add, binF_sub, binF_mul, binF_eql, binF_neq, binF_lss, binF_leq, binF_gtr, binF_geq, true_and, hu]
  have hstr : Tryd.prog.underlying 9 = some .string := by kernel_rfl
  have hix : ∀ (s : ByteArray) (h : n < s.size), indexF Tryd.prog 9 (.str s) (.int .u8 (n : Int)) = some (.int .u8 (s[n]'h).toNat) := by
    intro s h
    simp only [indexF, hstr]
    rw [if_pos (by omega), Int.toNat_natCast]
    simp [h]
  have h256 : ∀ m : Fin 13, m.val < (ByteArray.mk len8).size := by decide +kernel
  rw [hix _ (h256 ⟨n, by omega⟩)]
  have hc := conv53 (n := ((((ByteArray.mk len8)[n]'(h256 ⟨n, by omega⟩)).toNat : Nat) : Int)) ⟨by omega, by have := UInt8.toNat_lt ((ByteArray.mk len8)[n]'(h256 ⟨n, by omega⟩)); omega⟩
  simp only [letO_some, cellsOf?_agg, cellsOf?_int, cellsOf?_bool, cellsOf?_imm, cellsOf?_ref, cellsOf?_nils, faddr_iptr, faddr_ptr, List.drop_succ_cons, List.drop_zero, List.take_succ_cons, List.take_zero, load1_iptr, loadN_iptr, List.length_cons, List.length_nil, Nat.le_refl, if_true, List.getElem?_cons_zero, List.getElem?_cons_succ, List.getD_cons_zero, List.getD_cons_succ, extrF_tup, binF_add, binF_sub, binF_mul, binF_eql, binF_neq, binF_lss, binF_leq, binF_gtr, binF_geq, true_and, hc]
  exact endK_ret (endK_ret (hk _))
end Go.Proofs.YtmmfelpgcdlgfaaDoor

namespace Go.Proofs.YtmmfelpgcdlgfaaDoor
open Go.Av
set_option linter.unusedVariables false
set_option linter.unusedSimpArgs false
set_option maxRecDepth 8000

theorem splice_set {cs : List AV} {i : Nat} {x : AV} (h : i < cs.length) : splice cs i [x] = cs.set i x := by
  rw [List.set_eq_take_append_cons_drop, if_pos h]
  simp [splice]
theorem growC_at {H0 H : Heap} {v : AV} {n : Nat} {cs : List AV} {i : Nat} (h : Grow 1 H0 H v n cs) (hr : isOwn v) (hi : i < n) :
    ∃ b, H0 b = none ∧ idx 1 v (.int .i64 (i : Int)) = some (.ptr b i) ∧ (∀ x, cs[i]? = some x → load1 (.ptr b i) H = some x) ∧
      ∀ (x : AV) (K : Heap → Prop), cellsOf? x = some [x] → isScalar x = true → (∀ H', Grow 1 H0 H' v n (cs.set i x) → K H') → storeA 1 (.ptr b i) x K H := by
  obtain ⟨b, hb, rfl, rfl⟩ := h.own hr
  have hl : cs.length = n := by simpa using h.1
  refine ⟨b, hb, ?_, ?_, ?_⟩
  · rw [idx_ref hi]; simp
  · intro x hx
    exact load1_at Heap.put_same hx
  · intro x K h1 h2 hK
    refine storeA_of (cs := [x]) Heap.put_same h1 (by simp [h2]) rfl (by simp; omega) ?_
    rw [splice_set (by omega), Heap.put_put]
    exact hK _ (Grow.ref hb (by simp [hl]))
def kl (s : Nat) : AV := sl (up (lsN s))
def tl (Ks : List Nat) : AV := .imm Ks.length false (Ks.map kl)
theorem perm_swap {α : Type} {l : List α} {j : Nat} {x y : α} (hj : 0 < j) (hx : l[j - 1]? = some x) (hy : l[j]? = some y) : ((l.set j x).set (j - 1) y).Perm l := by
  obtain ⟨k, rfl⟩ : ∃ k, j = k + 1 := ⟨j - 1, by omega⟩
  simp only [Nat.add_sub_cancel] at hx ⊢
  induction l generalizing k with
  | nil => simp at hx
  | cons a l ih =>
    cases k with
    | zero =>
      cases l with
      | nil => simp at hy
      | cons b l =>
        simp at hx hy; subst hx; subst hy
        simp
        exact List.Perm.swap _ _ _
    | succ k =>
      simp at hx hy
      simp only [List.set_cons_succ]
      refine (ih k ?_ ?_ ?_).cons _ <;> first | assumption | omega
/-- insertionSort -/
theorem c83 {H0 H : Heap} {X : AV} {Ks : List Nat} {K : AV → Heap → Prop} (hg : Grow 1 H0 H X Ks.length (Ks.map kl)) (ho : isOwn X ∨ Ks = []) (hn : Ks.length ≤ 12)
    (hk : ∀ (Ks' : List Nat) (H' : Heap), Ks'.Perm Ks → Grow 1 H0 H' X Ks.length (Ks'.map kl) → K (.tup []) H') : ACalls Tryd.prog 83 [X, .int .i64 0, .int .i64 (Ks.length : Int), .fn 35 []] H K := by
  apply W83_ok
  unfold W83
  have ew : IntKind.i64.wrap ((0 : Int) + 1) = ((1 : Nat) : Int) := by decide
  simp only [letO_some, cellsOf?_agg, cellsOf?_int, cellsOf?_bool, cellsOf?_imm, cellsOf?_ref, cellsOf?_nils, faddr_iptr, faddr_ptr, List.drop_succ_cons, List.drop_zero, List.take_succ_cons, List.take_zero, load1_iptr, loadN_iptr, List.length_cons, List.length_nil, Nat.le_refl, if_true, List.getElem?_cons_zero, List.getElem?_cons_succ, List.getD_cons_zero, List.getD_cons_succ, extrF_tup, binF_add, binF_sub, binF_mul, binF_eql, binF_neq, binF_lss, binF_leq, binF_gtr, binF_geq, true_and, ew]
  refine ⟨fun L H' => ∃ (i : Nat) (Ks' : List Nat), eqt L [.int .i64 i] ∧ 1 ≤ i ∧ Ks'.Perm Ks ∧ Grow 1 H0 H' X Ks.length (Ks'.map kl), fun L _ => (Ks.length - iv L 0).toNat, ⟨1, Ks, rfl, by omega, List.Perm.refl _, hg⟩, ?_⟩
  rintro L H1 ⟨i, Ks1, rfl, hi, hp1, hg1⟩
  try simp only [letO_some, cellsOf?_agg, cellsOf?_int, cellsOf?_bool, cellsOf?_imm, cellsOf?_ref, cellsOf?_nils, faddr_iptr, faddr_ptr, List.drop_succ_cons, List.drop_zero, List.take_succ_cons, List.take_zero, load1_iptr, loadN_iptr, List.length_cons, List.length_nil, Nat.le_refl, if_true, List.getElem?_cons_zero, List.getElem?_cons_succ, List.getD_cons_zero, List.getD_cons_succ, extrF_tup, binF_add, binF_sub, binF_mul, binF_eql, binF_neq, binF_lss, binF_leq, binF_gtr, binF_geq, true_and]
  refine condA_t (fun hlt => ?_) (fun hge => ?_)
  · have hin : i < Ks.length := by omega
    have hown : isOwn X := by rcases ho with h | h; exact h; rw [h] at hin; simp at hin
    refine ⟨fun L H' => ∃ (j : Nat) (Ks' : List Nat), eqt L [.int .i64 j] ∧ j ≤ i ∧ Ks'.Perm Ks ∧ Grow 1 H0 H' X Ks.length (Ks'.map kl), fun L _ => (iv L 0).toNat, ⟨i, Ks1, rfl, by omega, hp1, hg1⟩, ?_⟩
    rintro L H2 ⟨j, Ks2, rfl, hj, hp2, hg2⟩
    have hl2 : Ks2.length = Ks.length := hp2.length_eq
    try simp only [letO_some, cellsOf?_agg, cellsOf?_int, cellsOf?_bool, cellsOf?_imm, cellsOf?_ref, cellsOf?_nils, faddr_iptr, faddr_ptr, List.drop_succ_cons, List.drop_zero, List.take_succ_cons, List.take_zero, load1_iptr, loadN_iptr, List.length_cons, List.length_nil, Nat.le_refl, if_true, List.getElem?_cons_zero, List.getElem?_cons_succ, List.getD_cons_zero, List.getD_cons_succ, extrF_tup, binF_add, binF_sub, binF_mul, binF_eql, binF_neq, binF_lss, binF_leq, binF_gtr, binF_geq, true_and]
    by_cases hj0 : j = 0
    · subst hj0
      have e : decide (((0 : Nat) : Int) > 0) = false := by decide
      have e' : decide (0 < ((0 : Nat) : Int)) = false := by decide
      simp only [e, e', gval_bool, Int.reduceBNe, Int.reduceBEq, pickF_true, pickF_false, reduceIte, Bool.true_eq_false, Bool.false_eq_true, if_false, condA_tt, condA_ff, condG_tt, condG_ff, condG_tt', condG_ff', condG_undef, gval_undef]
      refine exU ?_
      simp only [gval_bool, Int.reduceBNe, Int.reduceBEq, pickF_true, pickF_false, reduceIte, Bool.true_eq_false, Bool.false_eq_true, if_false, condA_tt, condA_ff, condG_tt, condG_ff, condG_tt', condG_ff', condG_undef, gval_undef, letO_some]
      rw [wrap_i64 (by omega) (by omega)]
      exact ⟨⟨i + 1, Ks2, rfl, by omega, hp2, hg2⟩, by simp [iv]; omega⟩
    · have e : decide ((j : Int) > 0) = true := decide_eq_true (by omega)
      have e' : decide (0 < (j : Int)) = true := decide_eq_true (by omega)
      have hjn : j < Ks2.length := by omega
      obtain ⟨b1, hb1, x1, l1, s1⟩ := growC_at hg2 hown (show j < Ks.length by omega)
      obtain ⟨b0, hb0, x0, l0, s0⟩ := growC_at hg2 hown (show j - 1 < Ks.length by omega)
      have ej : (((j - 1 : Nat)) : Int) = (j : Int) - 1 := by omega
      have ew2 : IntKind.i64.wrap ((j : Int) - 1) = ((j - 1 : Nat) : Int) := by rw [wrap_i64 (by omega) (by omega)]; omega
      have g1 : Ks2[j]? = some Ks2[j] := List.getElem?_eq_getElem _
      have g0 : Ks2[j - 1]? = some (Ks2[j - 1]'(by omega)) := List.getElem?_eq_getElem _
      have l1' := l1 (kl Ks2[j]) (by rw [List.getElem?_map, g1]; rfl)
      have l0' := l0 (kl (Ks2[j - 1]'(by omega))) (by rw [List.getElem?_map, g0]; rfl)
      generalize Ks2[j] = A at *
      generalize Ks2[j - 1]'(by omega) = B at *
      simp only [e, e', gval_bool, Int.reduceBNe, Int.reduceBEq, pickF_true, pickF_false, reduceIte, Bool.true_eq_false, Bool.false_eq_true, if_false, condA_tt, condA_ff, condG_tt, condG_ff, condG_tt', condG_ff', condG_undef, gval_undef, letO_some, binF_sub, ew2, x1, x0, l1', l0', callA, List.append_nil]
      refine exJ ?_
      have hle : ∀ s, (up (lsN s)).length < 2 ^ 62 := fun s => by have := ls_len s; simp; omega
      refine c35 (Reads.sl _ _) (Reads.sl _ _) (hle _) (hle _) ?_
      try simp only [letO_some, cellsOf?_agg, cellsOf?_int, cellsOf?_bool, cellsOf?_imm, cellsOf?_ref, cellsOf?_nils, faddr_iptr, faddr_ptr, List.drop_succ_cons, List.drop_zero, List.take_succ_cons, List.take_zero, load1_iptr, loadN_iptr, List.length_cons, List.length_nil, Nat.le_refl, if_true, List.getElem?_cons_zero, List.getElem?_cons_succ, List.getD_cons_zero, List.getD_cons_succ, extrF_tup, binF_add, binF_sub, binF_mul, binF_eql, binF_neq, binF_lss, binF_leq, binF_gtr, binF_geq, true_and, gval_bool, Int.reduceBNe, Int.reduceBEq, pickF_true, pickF_false, reduceIte, Bool.true_eq_false, Bool.false_eq_true, if_false, condA_tt, condA_ff, condG_tt, condG_ff, condG_tt', condG_ff', condG_undef, gval_undef]
      refine condA_t (fun hc => ?_) (fun hc => ?_)
      · have hk1 : cellsOf? (kl B) = some [kl B] := rfl
        have hk2 : cellsOf? (kl A) = some [kl A] := rfl
        simp only [x1, x0, l0', l1', letO_some]
        refine s1 _ _ hk1 rfl fun H3 hg3 => ?_
        obtain ⟨b2, hb2, x2, l2, s2⟩ := growC_at hg3 hown (show j - 1 < Ks.length by omega)
        have : AV.ptr b2 (j - 1) = .ptr b0 (j - 1) := by
          have := x2.symm.trans x0
          exact Option.some.inj this
        rw [← this]
        refine s2 _ _ hk2 rfl fun H4 hg4 => ?_
        refine ⟨⟨j - 1, (Ks2.set j B).set (j - 1) A, rfl, by omega, (perm_swap (by omega) g0 g1).trans hp2, ?_⟩, by simp [iv]; omega⟩
        rw [List.map_set, List.map_set]; exact hg4
      · rw [wrap_i64 (by omega) (by omega)]
        exact ⟨⟨i + 1, Ks2, rfl, by omega, hp2, hg2⟩, by simp [iv]; omega⟩
  · exact endK_ret (hk _ _ hp1 hg1)
/-- slices.SortFunc of lists, at most 12 -/
theorem c34 {H0 H : Heap} {X : AV} {Ks : List Nat} {K : AV → Heap → Prop} (hg : Grow 1 H0 H X Ks.length (Ks.map kl)) (ho : isOwn X ∨ Ks = []) (hn : Ks.length ≤ 12)
    (hk : ∀ (Ks' : List Nat) (H' : Heap), Ks'.Perm Ks → Grow 1 H0 H' X Ks.length (Ks'.map kl) → K (.tup []) H') : ACalls Tryd.prog 34 [X, .fn 35 []] H K := by
  apply W34_ok
  unfold W34
  have hlen := hg.len
  have hcv : convF Tryd.prog 3 76 (.int .i64 (Ks.length : Int)) = some (.int .u64 (Ks.length : Int)) := by
    have h1 : (Tryd.prog.underlying 3).isSome = true := by kernel_rfl
    have h2 : Tryd.prog.underlying 76 = some (.int .u64) := by kernel_rfl
    obtain ⟨d, h1⟩ := Option.isSome_iff_exists.1 h1
    simp only [convF, h1, h2]
    rw [wrap_u64 (by omega) (by omega)]
  simp only [letO_some, cellsOf?_agg, cellsOf?_int, cellsOf?_bool, cellsOf?_imm, cellsOf?_ref, cellsOf?_nils, faddr_iptr, faddr_ptr, List.drop_succ_cons, List.drop_zero, List.take_succ_cons, List.take_zero, load1_iptr, loadN_iptr, List.length_cons, List.length_nil, Nat.le_refl, if_true, List.getElem?_cons_zero, List.getElem?_cons_succ, List.getD_cons_zero, List.getD_cons_succ, extrF_tup, binF_add, binF_sub, binF_mul, binF_eql, binF_neq, binF_lss, binF_leq, binF_gtr, binF_geq, true_and, hlen, hcv]
  refine c61 hn fun r => ?_
  try simp only [letO_some, cellsOf?_agg, cellsOf?_int, cellsOf?_bool, cellsOf?_imm, cellsOf?_ref, cellsOf?_nils, faddr_iptr, faddr_ptr, List.drop_succ_cons, List.drop_zero, List.take_succ_cons, List.take_zero, load1_iptr, loadN_iptr, List.length_cons, List.length_nil, Nat.le_refl, if_true, List.getElem?_cons_zero, List.getElem?_cons_succ, List.getD_cons_zero, List.getD_cons_succ, extrF_tup, binF_add, binF_sub, binF_mul, binF_eql, binF_neq, binF_lss, binF_leq, binF_gtr, binF_geq, true_and]
  apply W60_ok
  unfold W60
  try simp only [letO_some, cellsOf?_agg, cellsOf?_int, cellsOf?_bool, cellsOf?_imm, cellsOf?_ref, cellsOf?_nils, faddr_iptr, faddr_ptr, List.drop_succ_cons, List.drop_zero, List.take_succ_cons, List.take_zero, load1_iptr, loadN_iptr, List.length_cons, List.length_nil, Nat.le_refl, if_true, List.getElem?_cons_zero, List.getElem?_cons_succ, List.getD_cons_zero, List.getD_cons_succ, extrF_tup, binF_add, binF_sub, binF_mul, binF_eql, binF_neq, binF_lss, binF_leq, binF_gtr, binF_geq, true_and]
  refine ⟨fun L H' => eqt L [.int .i64 r, .int .i64 0, .bool true, .bool true, .int .i64 (Ks.length : Int)] ∧ eqt H' H, fun _ _ => 0, ⟨rfl, rfl⟩, ?_⟩
  rintro L H' ⟨rfl, rfl⟩
  have ew : IntKind.i64.wrap ((Ks.length : Int) - 0) = (Ks.length : Int) := by rw [wrap_i64 (by omega) (by omega)]; omega
  have e12 : decide ((Ks.length : Int) ≤ 12) = true := decide_eq_true (by omega)
  simp only [letO_some, cellsOf?_agg, cellsOf?_int, cellsOf?_bool, cellsOf?_imm, cellsOf?_ref, cellsOf?_nils, faddr_iptr, faddr_ptr, List.drop_succ_cons, List.drop_zero, List.take_succ_cons, List.take_zero, load1_iptr, loadN_iptr, List.length_cons, List.length_nil, Nat.le_refl, if_true, List.getElem?_cons_zero, List.getElem?_cons_succ, List.getD_cons_zero, List.getD_cons_succ, extrF_tup, binF_add, binF_sub, binF_mul, binF_eql, binF_neq, binF_lss, binF_leq, binF_gtr, binF_geq, true_and, ew, e12, condA_tt]
  refine c83 hg ho hn fun Ks' H2 hp hg2 => endK_ret ?_
  try simp only [letO_some, cellsOf?_agg, cellsOf?_int, cellsOf?_bool, cellsOf?_imm, cellsOf?_ref, cellsOf?_nils, faddr_iptr, faddr_ptr, List.drop_succ_cons, List.drop_zero, List.take_succ_cons, List.take_zero, load1_iptr, loadN_iptr, List.length_cons, List.length_nil, Nat.le_refl, if_true, List.getElem?_cons_zero, List.getElem?_cons_succ, List.getD_cons_zero, List.getD_cons_succ, extrF_tup, binF_add, binF_sub, binF_mul, binF_eql, binF_neq, binF_lss, binF_leq, binF_gtr, binF_geq, true_and]
  exact endK_ret (hk _ _ hp hg2)
/-- The choices. -/
def kern (n : Nat) (R : List (Nat × Nat)) : List Nat := (List.range (2 ^ n)).filter fun s => judE n R s == 0
theorem l31 {x : AV} (hx : cellsOf? x = some [x]) : literalF Tryd.prog 31 1 [(0, x)] = some [x] := by
  rw [literalF_of (show literalPlan Tryd.prog 31 = some ([.nils], 1) by kernel_rfl) (by decide) (by simp)]
  simp [fillA, hx, splice, rowOf]
/-- see.All -/
theorem c9 {v : AV} {n : Nat} {R : List (Nat × Nat)} {H : Heap} {K : AV → Heap → Prop} (h : Vd n R) (hv : RP H v R) (h12 : (kern n R).length ≤ 12) (hk : ∀ Ks : List Nat, Ks.Perm (kern n R) → K (.tup [tl Ks, .int .i64 0]) H) :
    ACalls Tryd.prog 9 [.agg [.int .i64 (n : Int), v]] H K := by
  apply W9_ok
  unfold W9
  have e0 : ((0 : Int) != 0) = false := rfl
  have hn7 := h.n7
  have h2n : 2 ^ n ≤ 2 ^ 7 := Nat.pow_le_pow_right (by omega) hn7
  try simp only [letO_some, cellsOf?_agg, cellsOf?_int, cellsOf?_bool, cellsOf?_imm, cellsOf?_ref, cellsOf?_nils, faddr_iptr, faddr_ptr, List.drop_succ_cons, List.drop_zero, List.take_succ_cons, List.take_zero, load1_iptr, loadN_iptr, List.length_cons, List.length_nil, Nat.le_refl, if_true, List.getElem?_cons_zero, List.getElem?_cons_succ, List.getD_cons_zero, List.getD_cons_succ, extrF_tup, binF_add, binF_sub, binF_mul, binF_eql, binF_neq, binF_lss, binF_leq, binF_gtr, binF_geq, true_and]
  refine c31 h hv ?_
  simp only [letO_some, cellsOf?_agg, cellsOf?_int, cellsOf?_bool, cellsOf?_imm, cellsOf?_ref, cellsOf?_nils, faddr_iptr, faddr_ptr, List.drop_succ_cons, List.drop_zero, List.take_succ_cons, List.take_zero, load1_iptr, loadN_iptr, List.length_cons, List.length_nil, Nat.le_refl, if_true, List.getElem?_cons_zero, List.getElem?_cons_succ, List.getD_cons_zero, List.getD_cons_succ, extrF_tup, binF_add, binF_sub, binF_mul, binF_eql, binF_neq, binF_lss, binF_leq, binF_gtr, binF_geq, true_and]
  refine alloc_store (cs := webC n R) rfl (webC_all n R) (webC_len n R) rfl fun b4 hb4 => ?_
  have hle4 := Heap.le_new (c := webC n R) hb4
  have h4 : (H.put b4 (webC n R)) b4 = some (webC n R) := Heap.put_same
  generalize H.put b4 (webC n R) = H4 at *
  have l0 : load1 (.ptr b4 0) H4 = some (.int .i64 (n : Int)) := load1_at h4 rfl
  simp only [letO_some, cellsOf?_agg, cellsOf?_int, cellsOf?_bool, cellsOf?_imm, cellsOf?_ref, cellsOf?_nils, faddr_iptr, faddr_ptr, List.drop_succ_cons, List.drop_zero, List.take_succ_cons, List.take_zero, load1_iptr, loadN_iptr, List.length_cons, List.length_nil, Nat.le_refl, if_true, List.getElem?_cons_zero, List.getElem?_cons_succ, List.getD_cons_zero, List.getD_cons_succ, extrF_tup, binF_add, binF_sub, binF_mul, binF_eql, binF_neq, binF_lss, binF_leq, binF_gtr, binF_geq, true_and, e0, condA_ff, l0, u64_shl (show n < 8 by omega)]
  refine ⟨fun L H' => ∃ (s : Nat) (X : AV), eqt L [X, .int .u64 (s : Int)] ∧ s ≤ 2 ^ n ∧ Grow 1 H4 H' X ((List.range s).filter fun s => judE n R s == 0).length (((List.range s).filter fun s => judE n R s == 0).map kl) ∧ (isOwn X ∨ ((List.range s).filter fun s => judE n R s == 0) = []),
    fun L _ => (2 ^ n - iv L 1).toNat, ⟨0, .nils, rfl, Nat.zero_le _, Grow.nils 1 H4, .inr rfl⟩, ?_⟩
  rintro L H1 ⟨s, X, rfl, hs, hg, ho⟩
  have p2 : ((2 ^ n : Nat) : Int) = (2 : Int) ^ n := by simp
  try simp only [letO_some, cellsOf?_agg, cellsOf?_int, cellsOf?_bool, cellsOf?_imm, cellsOf?_ref, cellsOf?_nils, faddr_iptr, faddr_ptr, List.drop_succ_cons, List.drop_zero, List.take_succ_cons, List.take_zero, load1_iptr, loadN_iptr, List.length_cons, List.length_nil, Nat.le_refl, if_true, List.getElem?_cons_zero, List.getElem?_cons_succ, List.getD_cons_zero, List.getD_cons_succ, extrF_tup, binF_add, binF_sub, binF_mul, binF_eql, binF_neq, binF_lss, binF_leq, binF_gtr, binF_geq, true_and]
  refine condA_t (fun hlt => ?_) (fun hge => ?_)
  · have hs2 : s < 2 ^ n := by omega
    have hr : List.range (s + 1) = List.range s ++ [s] := List.range_succ
    have hlen : ((List.range s).filter fun s => judE n R s == 0).length ≤ 128 := by
      have := List.length_filter_le (fun s => judE n R s == 0) (List.range s)
      rw [List.length_range] at this; omega
    have hw : loadN 8 (.ptr b4 0) H1 = some (.agg (webC n R)) := by
      have := webC_len n R
      simp [loadN, cellsAt?, hg.le _ _ h4, this]
      rw [List.take_of_length_le (by omega)]
    simp only [hw, letO_some]
    refine ⟨fun L H' => ∃ X', eqt L [X'] ∧ Grow 1 H4 H' X' ((List.range (s + 1)).filter fun s => judE n R s == 0).length (((List.range (s + 1)).filter fun s => judE n R s == 0).map kl) ∧ (isOwn X' ∨ ((List.range (s + 1)).filter fun s => judE n R s == 0) = []), ?_, ?_⟩
    · refine c32 h (by omega) ?_
      simp only [letO_some, cellsOf?_agg, cellsOf?_int, cellsOf?_bool, cellsOf?_imm, cellsOf?_ref, cellsOf?_nils, faddr_iptr, faddr_ptr, List.drop_succ_cons, List.drop_zero, List.take_succ_cons, List.take_zero, load1_iptr, loadN_iptr, List.length_cons, List.length_nil, Nat.le_refl, if_true, List.getElem?_cons_zero, List.getElem?_cons_succ, List.getD_cons_zero, List.getD_cons_succ, extrF_tup, binF_add, binF_sub, binF_mul, binF_eql, binF_neq, binF_lss, binF_leq, binF_gtr, binF_geq, true_and]
      rw [hr, List.filter_append]
      cases hj : judE n R s == 0
      · have hf : ([s].filter fun s => judE n R s == 0) = [] := by simp only [List.filter, hj]
        rw [hf, List.append_nil]
        simp only [condA_ff]
        exact ⟨X, rfl, hg, ho⟩
      · have hf : ([s].filter fun s => judE n R s == 0) = [s] := by simp only [List.filter, hj]
        rw [hf]
        simp only [condA_tt]
        refine c33 (by omega) ?_
        have hsc : cellsOf? (sl (up (lsN s))) = some [sl (up (lsN s))] := rfl
        simp only [l31 hsc, letO_some]
        refine appendA_growR hg (m := 1) (new := [kl s]) (by simp [srcOf, kl]) rfl rfl (by omega) (by omega) (by omega) fun v' H7 hg7 ho7 => ?_
        try simp only [letO_some]
        refine ⟨v', rfl, ?_, .inl ho7⟩
        rw [List.length_append, List.map_append]
        exact hg7
    · rintro L H2 ⟨X', rfl, hg2, ho2⟩
      simp only [letO_some, cellsOf?_agg, cellsOf?_int, cellsOf?_bool, cellsOf?_imm, cellsOf?_ref, cellsOf?_nils, faddr_iptr, faddr_ptr, List.drop_succ_cons, List.drop_zero, List.take_succ_cons, List.take_zero, load1_iptr, loadN_iptr, List.length_cons, List.length_nil, Nat.le_refl, if_true, List.getElem?_cons_zero, List.getElem?_cons_succ, List.getD_cons_zero, List.getD_cons_succ, extrF_tup, binF_add, binF_sub, binF_mul, binF_eql, binF_neq, binF_lss, binF_leq, binF_gtr, binF_geq, true_and]
      rw [wrap_u64 (by omega) (by omega)]
      refine ⟨⟨s + 1, X', rfl, by omega, hg2, ho2⟩, by simp [iv]; omega⟩
  · have hse : s = 2 ^ n := by omega
    subst hse
    refine c34 hg ho h12 fun Ks H2 hp hg2 => ?_
    try simp only [letO_some, cellsOf?_agg, cellsOf?_int, cellsOf?_bool, cellsOf?_imm, cellsOf?_ref, cellsOf?_nils, faddr_iptr, faddr_ptr, List.drop_succ_cons, List.drop_zero, List.take_succ_cons, List.take_zero, load1_iptr, loadN_iptr, List.length_cons, List.length_nil, Nat.le_refl, if_true, List.getElem?_cons_zero, List.getElem?_cons_succ, List.getD_cons_zero, List.getD_cons_succ, extrF_tup, binF_add, binF_sub, binF_mul, binF_eql, binF_neq, binF_lss, binF_leq, binF_gtr, binF_geq, true_and]
    obtain ⟨H3, hle3, hg3⟩ := hg2.shrink hle4
    refine endK_pub (Pub.drop hle3) (hg3.end2 ?_)
    have := hk Ks hp
    rw [tl, hp.length_eq] at this
    exact this
end Go.Proofs.YtmmfelpgcdlgfaaDoor

namespace Go.Proofs.YtmmfelpgcdlgfaaDoor
open Go.Av
set_option linter.unusedVariables false
set_option linter.unusedSimpArgs false
set_option maxRecDepth 8000

theorem c24 {v : AV} {H : Heap} {K : AV → Heap → Prop} (hk : K v H) : ACalls Tryd.prog 24 [v] H K := by
  apply W24_ok
  unfold W24
  try simp only [letO_some, cellsOf?_agg, cellsOf?_int, cellsOf?_bool, cellsOf?_imm, cellsOf?_ref, cellsOf?_nils, faddr_iptr, faddr_ptr, List.drop_succ_cons, List.drop_zero, List.take_succ_cons, List.take_zero, load1_iptr, loadN_iptr, List.length_cons, List.length_nil, Nat.le_refl, if_true, List.getElem?_cons_zero, List.getElem?_cons_succ, List.getD_cons_zero, List.getD_cons_succ, extrF_tup, binF_add, binF_sub, binF_mul, binF_eql, binF_neq, binF_lss, binF_leq, binF_gtr, binF_geq, true_and]
  exact endK_ret hk
/-- same -/
theorem c14 {va vb : AV} {a b : List Int} {H : Heap} {K : AV → Heap → Prop} (ha : Reads H va a) (hb : Reads H vb b) (hla : a.length < 2 ^ 62) (hlb : b.length < 2 ^ 62) (hk : K (.bool (decide (a = b))) H) : ACalls Tryd.prog 14 [va, vb] H K := by
  apply W14_ok
  unfold W14
  have hla' := ha.len
  have hlb' := hb.len
  simp only [letO_some, cellsOf?_agg, cellsOf?_int, cellsOf?_bool, cellsOf?_imm, cellsOf?_ref, cellsOf?_nils, faddr_iptr, faddr_ptr, List.drop_succ_cons, List.drop_zero, List.take_succ_cons, List.take_zero, load1_iptr, loadN_iptr, List.length_cons, List.length_nil, Nat.le_refl, if_true, List.getElem?_cons_zero, List.getElem?_cons_succ, List.getD_cons_zero, List.getD_cons_succ, extrF_tup, binF_add, binF_sub, binF_mul, binF_eql, binF_neq, binF_lss, binF_leq, binF_gtr, binF_geq, true_and, hla', hlb']
  by_cases hl : a.length = b.length
  · have e : ((a.length : Int) != (b.length : Int)) = false := by rw [hl]; simp
    simp only [e, condA_ff]
    refine ⟨fun L H' => ∃ i : Nat, eqt L [.int .i64 i] ∧ i ≤ a.length ∧ eqt H' H ∧ a.take i = b.take i, fun L _ => (a.length - iv L 0).toNat, ⟨0, rfl, by omega, rfl, rfl⟩, ?_⟩
    rintro L H' ⟨i, rfl, hi, rfl, hd⟩
    try simp only [letO_some, cellsOf?_agg, cellsOf?_int, cellsOf?_bool, cellsOf?_imm, cellsOf?_ref, cellsOf?_nils, faddr_iptr, faddr_ptr, List.drop_succ_cons, List.drop_zero, List.take_succ_cons, List.take_zero, load1_iptr, loadN_iptr, List.length_cons, List.length_nil, Nat.le_refl, if_true, List.getElem?_cons_zero, List.getElem?_cons_succ, List.getD_cons_zero, List.getD_cons_succ, extrF_tup, binF_add, binF_sub, binF_mul, binF_eql, binF_neq, binF_lss, binF_leq, binF_gtr, binF_geq, true_and]
    refine condA_t (fun hlt => ?_) (fun hge => ?_)
    · have a1 : i < a.length := by omega
      have b1 : i < b.length := by omega
      refine Reads.get (Heap.le_refl _) ha (by omega) (by omega) ?_
      refine Reads.get (Heap.le_refl _) hb (by omega) (by omega) ?_
      have e1 : a.getD (i : Int).toNat 0 = a[i] := by rw [Int.toNat_natCast, List.getD_eq_getElem?_getD, List.getElem?_eq_getElem a1]; rfl
      have e2 : b.getD (i : Int).toNat 0 = b[i] := by rw [Int.toNat_natCast, List.getD_eq_getElem?_getD, List.getElem?_eq_getElem b1]; rfl
      simp only [letO_some, cellsOf?_agg, cellsOf?_int, cellsOf?_bool, cellsOf?_imm, cellsOf?_ref, cellsOf?_nils, faddr_iptr, faddr_ptr, List.drop_succ_cons, List.drop_zero, List.take_succ_cons, List.take_zero, load1_iptr, loadN_iptr, List.length_cons, List.length_nil, Nat.le_refl, if_true, List.getElem?_cons_zero, List.getElem?_cons_succ, List.getD_cons_zero, List.getD_cons_succ, extrF_tup, binF_add, binF_sub, binF_mul, binF_eql, binF_neq, binF_lss, binF_leq, binF_gtr, binF_geq, true_and, e1, e2]
      by_cases he : a[i] = b[i]
      · have : (a[i] != b[i]) = false := by rw [he]; simp
        simp only [this, condA_ff]
        rw [wrap_i64 (by omega) (by omega)]
        refine ⟨⟨i + 1, rfl, by omega, rfl, ?_⟩, by simp [iv] <;> omega⟩
        rw [List.take_add_one, List.take_add_one, List.getElem?_eq_getElem a1, List.getElem?_eq_getElem b1, hd, he]
      · have : (a[i] != b[i]) = true := by rw [bne_iff_ne]; exact he
        simp only [this, condA_tt]
        rw [decide_eq_false (by rintro rfl; exact he rfl)] at hk
        exact endK_ret hk
    · have hie : i = a.length := by omega
      subst hie
      rw [List.take_length, hl, List.take_length] at hd
      rw [decide_eq_true hd] at hk
      exact endK_ret hk
  · have e : ((a.length : Int) != (b.length : Int)) = true := by rw [bne_iff_ne]; omega
    simp only [e, condA_tt]
    rw [decide_eq_false (by rintro rfl; exact hl rfl)] at hk
    exact endK_ret hk
/-- see.First of a book with one choice -/
theorem c66 {v : AV} {n s : Nat} {R : List (Nat × Nat)} {H : Heap} {K : AV → Heap → Prop} (h : Vd n R) (hv : RP H v R) (h1 : kern n R = [s]) (hk : K (.tup [kl s, .int .i64 0]) H) :
    ACalls Tryd.prog 66 [.agg [.int .i64 (n : Int), v]] H K := by
  apply W66_ok
  unfold W66
  have e0 : ((0 : Int) != 0) = false := rfl
  try simp only [letO_some, cellsOf?_agg, cellsOf?_int, cellsOf?_bool, cellsOf?_imm, cellsOf?_ref, cellsOf?_nils, faddr_iptr, faddr_ptr, List.drop_succ_cons, List.drop_zero, List.take_succ_cons, List.take_zero, load1_iptr, loadN_iptr, List.length_cons, List.length_nil, Nat.le_refl, if_true, List.getElem?_cons_zero, List.getElem?_cons_succ, List.getD_cons_zero, List.getD_cons_succ, extrF_tup, binF_add, binF_sub, binF_mul, binF_eql, binF_neq, binF_lss, binF_leq, binF_gtr, binF_geq, true_and]
  refine c9 h hv (by rw [h1]; simp) fun Ks hp => ?_
  rw [h1] at hp
  have hks : Ks = [s] := List.perm_singleton.1 hp
  subst hks
  have hl : lenA (tl [s]) = some (.int .i64 1) := rfl
  have hi : idx 1 (tl [s]) (.int .i64 0) = some (.iptr [kl s]) := rfl
  have e1 : ((1 : Int) == 0) = false := rfl
  simp only [letO_some, cellsOf?_agg, cellsOf?_int, cellsOf?_bool, cellsOf?_imm, cellsOf?_ref, cellsOf?_nils, faddr_iptr, faddr_ptr, List.drop_succ_cons, List.drop_zero, List.take_succ_cons, List.take_zero, load1_iptr, loadN_iptr, List.length_cons, List.length_nil, Nat.le_refl, if_true, List.getElem?_cons_zero, List.getElem?_cons_succ, List.getD_cons_zero, List.getD_cons_succ, extrF_tup, binF_add, binF_sub, binF_mul, binF_eql, binF_neq, binF_lss, binF_leq, binF_gtr, binF_geq, true_and, e0, condA_ff, hl, e1, hi]
  exact endK_ret hk
theorem b30 (a b : Nat) : buildF Tryd.prog 30 [(0, .int .i64 (a : Int)), (1, .int .i64 (b : Int))] = some (.agg (prC (a, b))) := by
  rw [arrayF_of (show arrayPlan Tryd.prog 30 = some ([.int .i64 0, .int .i64 0], 1) by kernel_rfl)]
  simp [fillA, splice, prC]
theorem l24_1 (p : Nat × Nat) : literalF Tryd.prog 24 1 [(0, .agg (prC p))] = some (prC p) := by
  rw [literalF_of (show literalPlan Tryd.prog 24 = some ([.int .i64 0, .int .i64 0], 2) by kernel_rfl) (by decide) (by simp)]
  simp [fillA, splice, rowOf, prC]
theorem l24_2 (p q : Nat × Nat) : literalF Tryd.prog 24 2 [(0, .agg (prC p)), (1, .agg (prC q))] = some (prC p ++ prC q) := by
  rw [literalF_of (show literalPlan Tryd.prog 24 = some ([.int .i64 0, .int .i64 0], 2) by kernel_rfl) (by decide) (by simp)]
  simp [fillA, splice, rowOf, prC, List.range_succ]
theorem l24_3 (p q r : Nat × Nat) : literalF Tryd.prog 24 3 [(0, .agg (prC p)), (1, .agg (prC q)), (2, .agg (prC r))] = some (prC p ++ prC q ++ prC r) := by
  rw [literalF_of (show literalPlan Tryd.prog 24 = some ([.int .i64 0, .int .i64 0], 2) by kernel_rfl) (by decide) (by simp)]
  simp [fillA, splice, rowOf, prC, List.range_succ]
theorem b29 {x y : AV} (hx : cellsOf? x = some [x]) (hy : cellsOf? y = some [y]) : buildF Tryd.prog 29 [(0, x), (1, y)] = some (.agg [x, y]) := by
  rw [buildF_of (show buildPlan Tryd.prog 29 = some ([.int .i64 0, .nils], [(0, 1), (1, 1)]) by kernel_rfl)]
  simp [fillA, hx, hy, splice]
theorem l35_2 (a b : Int) : literalF Tryd.prog 35 2 [(0, .int .i64 a), (1, .int .i64 b)] = some (ints [a, b]) := by
  rw [literalF_of (show literalPlan Tryd.prog 35 = some ([.int .i64 0], 1) by kernel_rfl) (by decide) (by simp)]
  simp [fillA, splice, rowOf, ints, List.range_succ]
/-- seesWork -/
theorem c40 {H : Heap} {K : AV → Heap → Prop} (hk : K (.bool true) H) : ACalls Tryd.prog 40 [] H K := by
  apply W40_ok
  unfold W40
  have b1 := b30 0 1
  have b2 := b30 1 2
  simp only [Int.natCast_zero, Int.natCast_one, Int.cast_ofNat_Int] at b1 b2
  have b3 := b29 (x := .int .i64 3) (y := .imm 2 true (prC (0, 1) ++ prC (1, 2))) rfl rfl
  simp only [letO_some, b1, b2, l24_2, b3]
  have hvd : Vd 3 [(0, 1), (1, 2)] := ⟨by omega, by omega, by decide, by decide, by decide, by decide⟩
  refine c66 (n := 3) (R := [(0, 1), (1, 2)]) (s := 5) hvd (ReadsC.imm rfl) (by decide +kernel) ?_
  have e0 : ((0 : Int) == 0) = true := rfl
  simp only [letO_some, cellsOf?_agg, cellsOf?_int, cellsOf?_bool, cellsOf?_imm, cellsOf?_ref, cellsOf?_nils, faddr_iptr, faddr_ptr, List.drop_succ_cons, List.drop_zero, List.take_succ_cons, List.take_zero, load1_iptr, loadN_iptr, List.length_cons, List.length_nil, Nat.le_refl, if_true, List.getElem?_cons_zero, List.getElem?_cons_succ, List.getD_cons_zero, List.getD_cons_succ, extrF_tup, binF_add, binF_sub, binF_mul, binF_eql, binF_neq, binF_lss, binF_leq, binF_gtr, binF_geq, true_and, e0, gval_bool, Int.reduceBNe, Int.reduceBEq, pickF_true, pickF_false, reduceIte, Bool.true_eq_false, Bool.false_eq_true, if_false, condA_tt, condA_ff, condG_tt, condG_ff, condG_tt', condG_ff', condG_undef, gval_undef, l35_2, Option.map_some]
  refine exJ (c24 ?_)
  try simp only [letO_some, cellsOf?_agg, cellsOf?_int, cellsOf?_bool, cellsOf?_imm, cellsOf?_ref, cellsOf?_nils, faddr_iptr, faddr_ptr, List.drop_succ_cons, List.drop_zero, List.take_succ_cons, List.take_zero, load1_iptr, loadN_iptr, List.length_cons, List.length_nil, Nat.le_refl, if_true, List.getElem?_cons_zero, List.getElem?_cons_succ, List.getD_cons_zero, List.getD_cons_succ, extrF_tup, binF_add, binF_sub, binF_mul, binF_eql, binF_neq, binF_lss, binF_leq, binF_gtr, binF_geq, true_and, gval_bool, Int.reduceBNe, Int.reduceBEq, pickF_true, pickF_false, reduceIte, Bool.true_eq_false, Bool.false_eq_true, if_false, condA_tt, condA_ff, condG_tt, condG_ff, condG_tt', condG_ff', condG_undef, gval_undef]
  refine exJ (c14 (a := up (lsN 5)) (b := [0, 2]) (Reads.sl _ _) ⟨rfl, rfl⟩ (by decide) (by decide) ?_)
  have e2 : decide (up (lsN 5) = [0, 2]) = true := by decide +kernel
  simp only [letO_some, cellsOf?_agg, cellsOf?_int, cellsOf?_bool, cellsOf?_imm, cellsOf?_ref, cellsOf?_nils, faddr_iptr, faddr_ptr, List.drop_succ_cons, List.drop_zero, List.take_succ_cons, List.take_zero, load1_iptr, loadN_iptr, List.length_cons, List.length_nil, Nat.le_refl, if_true, List.getElem?_cons_zero, List.getElem?_cons_succ, List.getD_cons_zero, List.getD_cons_succ, extrF_tup, binF_add, binF_sub, binF_mul, binF_eql, binF_neq, binF_lss, binF_leq, binF_gtr, binF_geq, true_and, e2, gval_bool, Int.reduceBNe, Int.reduceBEq, pickF_true, pickF_false, reduceIte, Bool.true_eq_false, Bool.false_eq_true, if_false, condA_tt, condA_ff, condG_tt, condG_ff, condG_tt', condG_ff', condG_undef, gval_undef]
  refine exJ (c67 ?_)
  try simp only [letO_some, cellsOf?_agg, cellsOf?_int, cellsOf?_bool, cellsOf?_imm, cellsOf?_ref, cellsOf?_nils, faddr_iptr, faddr_ptr, List.drop_succ_cons, List.drop_zero, List.take_succ_cons, List.take_zero, load1_iptr, loadN_iptr, List.length_cons, List.length_nil, Nat.le_refl, if_true, List.getElem?_cons_zero, List.getElem?_cons_succ, List.getD_cons_zero, List.getD_cons_succ, extrF_tup, binF_add, binF_sub, binF_mul, binF_eql, binF_neq, binF_lss, binF_leq, binF_gtr, binF_geq, true_and, gval_bool, Int.reduceBNe, Int.reduceBEq, pickF_true, pickF_false, reduceIte, Bool.true_eq_false, Bool.false_eq_true, if_false, condA_tt, condA_ff, condG_tt, condG_ff, condG_tt', condG_ff', condG_undef, gval_undef]
  exact endK_ret hk
end Go.Proofs.YtmmfelpgcdlgfaaDoor

namespace Go.Proofs.YtmmfelpgcdlgfaaDoor
open Go.Av
set_option linter.unusedVariables false
set_option linter.unusedSimpArgs false
set_option maxRecDepth 8000

/-- fact.list -/
theorem c63 {s : Nat} {H : Heap} {K : AV → Heap → Prop} (h : s < 128) (hk : K (sl (up (lsN s))) H) : ACalls Tryd.prog 63 [.int .u64 (s : Int)] H K := by
  apply W63_ok
  unfold W63
  try simp only [letO_some, cellsOf?_agg, cellsOf?_int, cellsOf?_bool, cellsOf?_imm, cellsOf?_ref, cellsOf?_nils, faddr_iptr, faddr_ptr, List.drop_succ_cons, List.drop_zero, List.take_succ_cons, List.take_zero, load1_iptr, loadN_iptr, List.length_cons, List.length_nil, Nat.le_refl, if_true, List.getElem?_cons_zero, List.getElem?_cons_succ, List.getD_cons_zero, List.getD_cons_succ, extrF_tup, binF_add, binF_sub, binF_mul, binF_eql, binF_neq, binF_lss, binF_leq, binF_gtr, binF_geq, true_and]
  refine ⟨fun L H' => ∃ (s' : Nat) (done : List Nat) (X : AV), eqt L [X, .int .u64 (s' : Int)] ∧ s' < 128 ∧ Grow 1 H H' X done.length (ints (up done)) ∧ done ++ lsN s' = lsN s, fun L _ => (iv L 1).toNat, ⟨s, [], .nils, rfl, h, Grow.nils 1 H, rfl⟩, ?_⟩
  rintro L H' ⟨s', done, X, rfl, hs', hg, hd⟩
  try simp only [letO_some, cellsOf?_agg, cellsOf?_int, cellsOf?_bool, cellsOf?_imm, cellsOf?_ref, cellsOf?_nils, faddr_iptr, faddr_ptr, List.drop_succ_cons, List.drop_zero, List.take_succ_cons, List.take_zero, load1_iptr, loadN_iptr, List.length_cons, List.length_nil, Nat.le_refl, if_true, List.getElem?_cons_zero, List.getElem?_cons_succ, List.getD_cons_zero, List.getD_cons_succ, extrF_tup, binF_add, binF_sub, binF_mul, binF_eql, binF_neq, binF_lss, binF_leq, binF_gtr, binF_geq, true_and]
  by_cases h0 : s' = 0
  · subst h0
    have e : (((0 : Nat) : Int) != 0) = false := rfl
    simp only [e, condA_ff]
    have hl0 : lsN 0 = [] := by decide
    rw [hl0, List.append_nil] at hd
    subst hd
    refine hg.end1 ?_
    simpa [sl] using hk
  · have e : ((s' : Int) != 0) = true := by rw [bne_iff_ne]; omega
    simp only [e, condA_tt]
    obtain ⟨l1, l2⟩ := ls_step ⟨s', hs'⟩ h0
    simp only at l1 l2
    have hdl : done.length ≤ 7 := by
      have := ls_len s
      rw [← hd, List.length_append] at this; omega
    refine c48 hs' h0 ?_
    simp only [l35 cellsOf?_int, letO_some]
    refine appendA_one hg (by omega) fun v' H7 hg7 => ?_
    have hsub : IntKind.u64.wrap ((s' : Int) - 1) = ((s' - 1 : Nat) : Int) := by rw [wrap_u64 (by omega) (by omega)]; omega
    have p64 : (2 : Nat) ^ 64 = 18446744073709551616 := by decide
    simp only [letO_some, binF_sub, hsub, u64_and (a := s') (b := s' - 1) (by omega) (by omega)]
    refine ⟨⟨s' &&& (s' - 1), done ++ [tzN s'], v', rfl, by omega, ?_, ?_⟩, by simp [iv]; omega⟩
    · have : up (done ++ [tzN s']) = up done ++ [((tzN s' : Nat) : Int)] := by simp [up]
      rw [this]; simpa using hg7
    · rw [← hd, l1]; simp
/-- Articles that contradict each other. -/
structure Fd (n : Nat) (R : List (Nat × Nat)) : Prop where
  n1 : 1 ≤ n
  n7 : n ≤ 7
  rng : ∀ r ∈ R, r.1 < r.2 ∧ r.2 < n
  nd : R.Pairwise (· ≠ ·)
  len : R.length ≤ 10
/-- fact.Check -/
theorem c36 {v : AV} {n : Nat} {R : List (Nat × Nat)} {H : Heap} {K : AV → Heap → Prop} (h : Fd n R) (hv : RP H v R) (hk : K (.int .i64 0) H) : ACalls Tryd.prog 36 [.agg [.int .i64 (n : Int), v]] H K := by
  apply W36_ok
  unfold W36
  have hlen := ReadsC.len hv
  have hn1 := h.n1
  have hn7 := h.n7
  have hl16 := h.len
  have e1 : decide ((n : Int) < 1) = false := decide_eq_false (by omega)
  have e2 : decide ((7 : Int) < (n : Int)) = false := decide_eq_false (by omega)
  have e3 : decide ((10 : Int) < (R.length : Int)) = false := decide_eq_false (by omega)
  simp only [letO_some, cellsOf?_agg, cellsOf?_int, cellsOf?_bool, cellsOf?_imm, cellsOf?_ref, cellsOf?_nils, faddr_iptr, faddr_ptr, List.drop_succ_cons, List.drop_zero, List.take_succ_cons, List.take_zero, load1_iptr, loadN_iptr, List.length_cons, List.length_nil, Nat.le_refl, if_true, List.getElem?_cons_zero, List.getElem?_cons_succ, List.getD_cons_zero, List.getD_cons_succ, extrF_tup, binF_add, binF_sub, binF_mul, binF_eql, binF_neq, binF_lss, binF_leq, binF_gtr, binF_geq, true_and, e1, e2, gval_bool, Int.reduceBNe, Int.reduceBEq, pickF_true, pickF_false, reduceIte, Bool.true_eq_false, Bool.false_eq_true, if_false, condA_tt, condA_ff, condG_tt, condG_ff, condG_tt', condG_ff', condG_undef, gval_undef, hlen, e3, condA_ff]
  refine ⟨fun L H' => ∃ i : Nat, eqt L [.int .i64 i] ∧ i ≤ R.length ∧ H.le H', fun L _ => (R.length - iv L 0).toNat, ⟨0, rfl, by omega, Heap.le_refl _⟩, ?_⟩
  rintro L H1 ⟨i, rfl, hi, hle⟩
  try simp only [letO_some, cellsOf?_agg, cellsOf?_int, cellsOf?_bool, cellsOf?_imm, cellsOf?_ref, cellsOf?_nils, faddr_iptr, faddr_ptr, List.drop_succ_cons, List.drop_zero, List.take_succ_cons, List.take_zero, load1_iptr, loadN_iptr, List.length_cons, List.length_nil, Nat.le_refl, if_true, List.getElem?_cons_zero, List.getElem?_cons_succ, List.getD_cons_zero, List.getD_cons_succ, extrF_tup, binF_add, binF_sub, binF_mul, binF_eql, binF_neq, binF_lss, binF_leq, binF_gtr, binF_geq, true_and]
  refine condA_t (fun hlt => ?_) (fun hge => ?_)
  · have a1 : i < R.length := by omega
    refine ReadsC.getN hle hv (by omega) (by omega) ?_
    rw [Int.toNat_natCast, rows_get prC_len (x := R[i]) (by simp [a1])]
    have hm := List.getElem_mem a1
    obtain ⟨r1, r2⟩ := h.rng _ hm
    have hnot : R[i] ∉ R.take i := by
      intro hin
      have hnd := h.nd
      rw [← List.take_append_drop i R, List.pairwise_append] at hnd
      exact hnd.2.2 _ hin _ (List.mem_iff_getElem.2 ⟨0, by simp; omega, by simp⟩) rfl
    generalize hp : R[i] = p at *
    refine alloc_store (cs := prC p) rfl rfl rfl rfl fun b4 hb4 => ?_
    have hle2 := Heap.le_trans hle (Heap.le_new (c := prC p) hb4)
    have h4 : (H1.put b4 (prC p)) b4 = some (prC p) := Heap.put_same
    generalize H1.put b4 (prC p) = H2 at *
    have x0 : idxArr 2 1 (.ptr b4 0) (.int .i64 0) = some (.ptr b4 0) := rfl
    have x1 : idxArr 2 1 (.ptr b4 0) (.int .i64 1) = some (.ptr b4 1) := rfl
    have l0 : load1 (.ptr b4 0) H2 = some (.int .i64 (p.1 : Int)) := load1_at h4 rfl
    have l1 : load1 (.ptr b4 1) H2 = some (.int .i64 (p.2 : Int)) := load1_at h4 rfl
    have lN : loadN 2 (.ptr b4 0) H2 = some (.agg (prC p)) := by simp [loadN, cellsAt?, h4, prC]
    have hmin : min2F (.int .i64 (p.1 : Int)) (.int .i64 (p.2 : Int)) = some (.int .i64 (if (p.2 : Int) < (p.1 : Int) then (p.2 : Int) else (p.1 : Int))) := rfl
    have hmax : max2F (.int .i64 (p.1 : Int)) (.int .i64 (p.2 : Int)) = some (.int .i64 (if (p.2 : Int) > (p.1 : Int) then (p.2 : Int) else (p.1 : Int))) := rfl
    have e4 : decide ((if (p.2 : Int) < (p.1 : Int) then (p.2 : Int) else (p.1 : Int)) < 0) = false := decide_eq_false (by split <;> omega)
    have e5 : decide ((n : Int) ≤ (if (p.2 : Int) > (p.1 : Int) then (p.2 : Int) else (p.1 : Int))) = false := decide_eq_false (by split <;> omega)
    have e6 : decide ((p.2 : Int) ≤ (p.1 : Int)) = false := decide_eq_false (by omega)
    obtain ⟨v', hs1, hs2⟩ := slcP (hv.le hle2) (k := i) (by omega)
    simp only [letO_some, cellsOf?_agg, cellsOf?_int, cellsOf?_bool, cellsOf?_imm, cellsOf?_ref, cellsOf?_nils, faddr_iptr, faddr_ptr, List.drop_succ_cons, List.drop_zero, List.take_succ_cons, List.take_zero, load1_iptr, loadN_iptr, List.length_cons, List.length_nil, Nat.le_refl, if_true, List.getElem?_cons_zero, List.getElem?_cons_succ, List.getD_cons_zero, List.getD_cons_succ, extrF_tup, binF_add, binF_sub, binF_mul, binF_eql, binF_neq, binF_lss, binF_leq, binF_gtr, binF_geq, true_and, x0, x1, l0, l1, hmin, e4, gval_bool, Int.reduceBNe, Int.reduceBEq, pickF_true, pickF_false, reduceIte, Bool.true_eq_false, Bool.false_eq_true, if_false, condA_tt, condA_ff, condG_tt, condG_ff, condG_tt', condG_ff', condG_undef, gval_undef, hmax, e5, e6, condA_ff, hs1, lN]
    refine c30 hs2 (by rw [List.length_take]; omega) ?_
    rw [decide_eq_false hnot]
    simp only [letO_some, cellsOf?_agg, cellsOf?_int, cellsOf?_bool, cellsOf?_imm, cellsOf?_ref, cellsOf?_nils, faddr_iptr, faddr_ptr, List.drop_succ_cons, List.drop_zero, List.take_succ_cons, List.take_zero, load1_iptr, loadN_iptr, List.length_cons, List.length_nil, Nat.le_refl, if_true, List.getElem?_cons_zero, List.getElem?_cons_succ, List.getD_cons_zero, List.getD_cons_succ, extrF_tup, binF_add, binF_sub, binF_mul, binF_eql, binF_neq, binF_lss, binF_leq, binF_gtr, binF_geq, true_and, condA_ff]
    rw [wrap_i64 (by omega) (by omega)]
    exact ⟨⟨i + 1, rfl, by omega, hle2⟩, by simp [iv] <;> omega⟩
  · exact endK_pub (Pub.drop hle) (endK_ret hk)
/-- A pair has an article of a set. -/
def hasP (s : Nat) (p : Nat × Nat) : Bool := s.testBit p.1 || s.testBit p.2
def expl (R : List (Nat × Nat)) (s : Nat) : Bool := R.all fun p => s.testBit p.1 || s.testBit p.2
theorem expl_eq (R : List (Nat × Nat)) (s : Nat) : expl R s = R.all (hasP s) := rfl
theorem u64_bit0 (s k : Nat) : (((s / 2 ^ k &&& 1 : Nat) : Int) == 0) = !s.testBit k := by
  have h1 : s / 2 ^ k &&& 1 = s / 2 ^ k % 2 := Nat.and_one_is_mod _
  rw [h1]
  have h2 : s.testBit k = decide (s / 2 ^ k % 2 = 1) := Nat.testBit_eq_decide_div_mod_eq
  rw [h2, Bool.eq_iff_iff, beq_iff_eq, Bool.not_eq_true', decide_eq_false_iff_not]
  omega
/-- The test of a pair -/
theorem c65 {p : Nat × Nat} {s : Nat} {H : Heap} {K : AV → Heap → Prop} (hs : s < 128) (hp : p.1 < 64 ∧ p.2 < 64) (hk : K (.bool (!hasP s p)) H) : ACalls Tryd.prog 65 [.agg (prC p), .iptr [.int .u64 (s : Int)]] H K := by
  apply W65_ok
  unfold W65
  have hc : cellsOf? (.agg (prC p)) = some (prC p) := rfl
  have x0 : idxArr 2 1 (.iptr (prC p)) (.int .i64 0) = some (.iptr (prC p)) := rfl
  have x1 : idxArr 2 1 (.iptr (prC p)) (.int .i64 1) = some (.iptr [.int .i64 (p.2 : Int)]) := rfl
  have l0 : load1 (.iptr (prC p)) H = some (.int .i64 (p.1 : Int)) := rfl
  have l1 : load1 (.iptr [.int .i64 (p.2 : Int)]) H = some (.int .i64 (p.2 : Int)) := rfl
  have ls : load1 (.iptr [.int .u64 (s : Int)]) H = some (.int .u64 (s : Int)) := rfl
  have p64 : (2 : Nat) ^ 64 = 18446744073709551616 := by decide
  have hone : ∀ t k, binF Tryd.prog .and t (.int .u64 ((s / 2 ^ k : Nat) : Int)) (.int .u64 1) = some (.int .u64 ((s / 2 ^ k &&& 1 : Nat) : Int)) := fun t k => u64_and (t := t) (b := 1) (by have := Nat.div_le_self s (2 ^ k); omega) (by decide)
  simp only [letO_some, hc, x0, x1, l0, ls, u64_shr hp.1, hone, binF_eql, u64_bit0]
  unfold hasP at hk
  cases h1 : s.testBit p.1
  · have e : (!false) = true := rfl
    simp only [e, gval_bool, Int.reduceBNe, Int.reduceBEq, pickF_true, pickF_false, reduceIte, Bool.true_eq_false, Bool.false_eq_true, if_false, condA_tt, condA_ff, condG_tt, condG_ff, condG_tt', condG_ff', condG_undef, gval_undef, letO_some, x1, l1, u64_shr hp.2, hone, binF_eql, u64_bit0]
    rw [h1, Bool.false_or] at hk
    exact endK_ret hk
  · have e : (!true) = false := rfl
    simp only [e, gval_bool, Int.reduceBNe, Int.reduceBEq, pickF_true, pickF_false, reduceIte, Bool.true_eq_false, Bool.false_eq_true, if_false, condA_tt, condA_ff, condG_tt, condG_ff, condG_tt', condG_ff', condG_undef, gval_undef, letO_some]
    rw [h1, Bool.true_or] at hk
    exact endK_ret hk
/-- slices.IndexFunc of pairs -/
theorem c94 {v : AV} {R : List (Nat × Nat)} {s : Nat} {H : Heap} {K : AV → Heap → Prop} (hv : RP H v R) (hl : R.length < 2 ^ 62) (hs : s < 128) (hp : ∀ p ∈ R, p.1 < 64 ∧ p.2 < 64)
    (hk : ∀ i : Int, -9223372036854775808 ≤ i → decide (0 ≤ i) = !expl R s → K (.int .i64 i) H) : ACalls Tryd.prog 94 [v, .fn 65 [.iptr [.int .u64 (s : Int)]]] H K := by
  apply W94_ok
  unfold W94
  have hlen := ReadsC.len hv
  simp only [letO_some, cellsOf?_agg, cellsOf?_int, cellsOf?_bool, cellsOf?_imm, cellsOf?_ref, cellsOf?_nils, faddr_iptr, faddr_ptr, List.drop_succ_cons, List.drop_zero, List.take_succ_cons, List.take_zero, load1_iptr, loadN_iptr, List.length_cons, List.length_nil, Nat.le_refl, if_true, List.getElem?_cons_zero, List.getElem?_cons_succ, List.getD_cons_zero, List.getD_cons_succ, extrF_tup, binF_add, binF_sub, binF_mul, binF_eql, binF_neq, binF_lss, binF_leq, binF_gtr, binF_geq, true_and, hlen]
  refine ⟨fun L H' => ∃ i : Nat, eqt L [.int .i64 i] ∧ i ≤ R.length ∧ eqt H' H ∧ expl (R.take i) s = true, fun L _ => (R.length - iv L 0).toNat, ⟨0, rfl, by omega, rfl, rfl⟩, ?_⟩
  rintro L H' ⟨i, rfl, hi, rfl, hex⟩
  try simp only [letO_some, cellsOf?_agg, cellsOf?_int, cellsOf?_bool, cellsOf?_imm, cellsOf?_ref, cellsOf?_nils, faddr_iptr, faddr_ptr, List.drop_succ_cons, List.drop_zero, List.take_succ_cons, List.take_zero, load1_iptr, loadN_iptr, List.length_cons, List.length_nil, Nat.le_refl, if_true, List.getElem?_cons_zero, List.getElem?_cons_succ, List.getD_cons_zero, List.getD_cons_succ, extrF_tup, binF_add, binF_sub, binF_mul, binF_eql, binF_neq, binF_lss, binF_leq, binF_gtr, binF_geq, true_and]
  refine condA_t (fun hlt => ?_) (fun hge => ?_)
  · have a1 : i < R.length := by omega
    refine hv.getN (Heap.le_refl _) (by omega) (by omega) ?_
    have htk : (prC R[i]).take 2 = prC R[i] := rfl
    rw [Int.toNat_natCast, rows_get prC_len (x := R[i]) (by simp [a1])]
    try simp only [callA, letO_some, cellsOf?_agg, cellsOf?_int, cellsOf?_bool, cellsOf?_imm, cellsOf?_ref, cellsOf?_nils, faddr_iptr, faddr_ptr, List.drop_succ_cons, List.drop_zero, List.take_succ_cons, List.take_zero, load1_iptr, loadN_iptr, List.length_cons, List.length_nil, Nat.le_refl, if_true, List.getElem?_cons_zero, List.getElem?_cons_succ, List.getD_cons_zero, List.getD_cons_succ, extrF_tup, binF_add, binF_sub, binF_mul, binF_eql, binF_neq, binF_lss, binF_leq, binF_gtr, binF_geq, true_and]
    refine c65 hs (hp _ (List.getElem_mem a1)) ?_
    cases he : hasP s R[i]
    · simp only [Bool.not_false, condA_tt, letO_some, cellsOf?_agg, cellsOf?_int, cellsOf?_bool, cellsOf?_imm, cellsOf?_ref, cellsOf?_nils, faddr_iptr, faddr_ptr, List.drop_succ_cons, List.drop_zero, List.take_succ_cons, List.take_zero, load1_iptr, loadN_iptr, List.length_cons, List.length_nil, Nat.le_refl, if_true, List.getElem?_cons_zero, List.getElem?_cons_succ, List.getD_cons_zero, List.getD_cons_succ, extrF_tup, binF_add, binF_sub, binF_mul, binF_eql, binF_neq, binF_lss, binF_leq, binF_gtr, binF_geq, true_and]
      refine endK_ret (hk _ (by omega) ?_)
      rw [decide_eq_true (by omega)]
      have : expl R s = false := by
        rw [expl_eq, List.all_eq_false]
        exact ⟨_, List.getElem_mem a1, by simp [he]⟩
      rw [this]; rfl
    · simp only [Bool.not_true, condA_ff, letO_some, cellsOf?_agg, cellsOf?_int, cellsOf?_bool, cellsOf?_imm, cellsOf?_ref, cellsOf?_nils, faddr_iptr, faddr_ptr, List.drop_succ_cons, List.drop_zero, List.take_succ_cons, List.take_zero, load1_iptr, loadN_iptr, List.length_cons, List.length_nil, Nat.le_refl, if_true, List.getElem?_cons_zero, List.getElem?_cons_succ, List.getD_cons_zero, List.getD_cons_succ, extrF_tup, binF_add, binF_sub, binF_mul, binF_eql, binF_neq, binF_lss, binF_leq, binF_gtr, binF_geq, true_and]
      rw [wrap_i64 (by omega) (by omega)]
      refine ⟨⟨i + 1, rfl, by omega, rfl, ?_⟩, by simp [iv] <;> omega⟩
      rw [expl_eq] at hex ⊢
      rw [List.take_add_one, List.getElem?_eq_getElem a1, List.all_append, hex]
      simp [he]
  · have hie : i = R.length := by omega
    subst hie
    rw [List.take_length] at hex
    refine endK_ret (hk _ (by omega) ?_)
    rw [hex]; rfl
/-- explained -/
theorem c39 {v : AV} {n : Nat} {R : List (Nat × Nat)} {s : Nat} {H : Heap} {K : AV → Heap → Prop} (h : Fd n R) (hv : RP H v R) (hs : s < 128) (hk : K (.bool (expl R s)) H) : ACalls Tryd.prog 39 [.agg [.int .i64 (n : Int), v], .int .u64 (s : Int)] H K := by
  apply W39_ok
  unfold W39
  have hn7 := h.n7
  have hl := h.len
  try simp only [letO_some, cellsOf?_agg, cellsOf?_int, cellsOf?_bool, cellsOf?_imm, cellsOf?_ref, cellsOf?_nils, faddr_iptr, faddr_ptr, List.drop_succ_cons, List.drop_zero, List.take_succ_cons, List.take_zero, load1_iptr, loadN_iptr, List.length_cons, List.length_nil, Nat.le_refl, if_true, List.getElem?_cons_zero, List.getElem?_cons_succ, List.getD_cons_zero, List.getD_cons_succ, extrF_tup, binF_add, binF_sub, binF_mul, binF_eql, binF_neq, binF_lss, binF_leq, binF_gtr, binF_geq, true_and]
  apply W64_ok
  unfold W64
  try simp only [letO_some, cellsOf?_agg, cellsOf?_int, cellsOf?_bool, cellsOf?_imm, cellsOf?_ref, cellsOf?_nils, faddr_iptr, faddr_ptr, List.drop_succ_cons, List.drop_zero, List.take_succ_cons, List.take_zero, load1_iptr, loadN_iptr, List.length_cons, List.length_nil, Nat.le_refl, if_true, List.getElem?_cons_zero, List.getElem?_cons_succ, List.getD_cons_zero, List.getD_cons_succ, extrF_tup, binF_add, binF_sub, binF_mul, binF_eql, binF_neq, binF_lss, binF_leq, binF_gtr, binF_geq, true_and]
  refine c94 hv (by omega) hs (fun p hp => by have := h.rng p hp; omega) fun i hi1 hi2 => ?_
  have e : decide (i ≥ 0) = !expl R s := hi2
  try simp only [letO_some, cellsOf?_agg, cellsOf?_int, cellsOf?_bool, cellsOf?_imm, cellsOf?_ref, cellsOf?_nils, faddr_iptr, faddr_ptr, List.drop_succ_cons, List.drop_zero, List.take_succ_cons, List.take_zero, load1_iptr, loadN_iptr, List.length_cons, List.length_nil, Nat.le_refl, if_true, List.getElem?_cons_zero, List.getElem?_cons_succ, List.getD_cons_zero, List.getD_cons_succ, extrF_tup, binF_add, binF_sub, binF_mul, binF_eql, binF_neq, binF_lss, binF_leq, binF_gtr, binF_geq, true_and, hi2, e, not_v, Bool.not_not]
  refine endK_ret ?_
  try simp only [letO_some, cellsOf?_agg, cellsOf?_int, cellsOf?_bool, cellsOf?_imm, cellsOf?_ref, cellsOf?_nils, faddr_iptr, faddr_ptr, List.drop_succ_cons, List.drop_zero, List.take_succ_cons, List.take_zero, load1_iptr, loadN_iptr, List.length_cons, List.length_nil, Nat.le_refl, if_true, List.getElem?_cons_zero, List.getElem?_cons_succ, List.getD_cons_zero, List.getD_cons_succ, extrF_tup, binF_add, binF_sub, binF_mul, binF_eql, binF_neq, binF_lss, binF_leq, binF_gtr, binF_geq, true_and, hi2, e, not_v, Bool.not_not]
  exact endK_ret hk
end Go.Proofs.YtmmfelpgcdlgfaaDoor

namespace Go.Proofs.YtmmfelpgcdlgfaaDoor
open Go.Av
set_option linter.unusedVariables false
set_option linter.unusedSimpArgs false
set_option maxRecDepth 8000

theorem up_getD (l : List Nat) (i : Nat) : (up l).getD i 0 = ((l.getD i 0 : Nat) : Int) := by
  simp only [up, List.getD_eq_getElem?_getD, List.getElem?_map]
  cases l[i]? <;> rfl
/-- One set more in the search for the shortest lists. -/
def shF (R : List (Nat × Nat)) : List Nat × Nat → Nat → List Nat × Nat
  | (best, many), a => if expl R a = false ∨ (0 < many ∧ best.length < (lsN a).length) then (best, many)
    else if many = 0 ∨ (lsN a).length < best.length then (lsN a, 1)
    else (if cmpL (up (lsN a)) (up best) < 0 then lsN a else best, many + 1)
def shS (n : Nat) (R : List (Nat × Nat)) : List Nat × Nat := (List.range (2 ^ n)).foldl (shF R) ([], 0)
theorem shF_len {R : List (Nat × Nat)} {st : List Nat × Nat} {a : Nat} (h : st.1.length ≤ 7) : (shF R st a).1.length ≤ 7 := by
  obtain ⟨best, many⟩ := st
  have := ls_len a
  rw [shF]
  split
  · exact h
  · split
    · exact this
    · simp only; split <;> simp_all
theorem sh_len (R : List (Nat × Nat)) (L : List Nat) : (L.foldl (shF R) ([], 0)).1.length ≤ 7 ∧ (L.foldl (shF R) ([], 0)).2 ≤ L.length := by
  induction L using snoc_ind with
  | h0 => simp
  | h1 L a ih =>
    rw [List.foldl_append]
    simp only [List.foldl_cons, List.foldl_nil, List.length_append, List.length_cons, List.length_nil]
    refine ⟨shF_len ih.1, ?_⟩
    generalize L.foldl (shF R) ([], 0) = st at *
    obtain ⟨best, many⟩ := st
    simp only at ih
    rw [shF]
    split
    · simp only; omega
    · split <;> simp only <;> omega
theorem sh_pos {R : List (Nat × Nat)} {a : Nat} (he : expl R a = true) : ∀ {L : List Nat}, a ∈ L → (L.foldl (shF R) ([], 0)).2 ≠ 0 := by
  intro L
  induction L using snoc_ind with
  | h0 => simp
  | h1 L b ih =>
    intro hm
    rw [List.foldl_append]
    simp only [List.foldl_cons, List.foldl_nil]
    generalize L.foldl (shF R) ([], 0) = st at *
    obtain ⟨best, many⟩ := st
    rw [shF]
    split
    · rename_i h
      rcases List.mem_append.1 hm with hm | hm
      · exact ih hm
      · simp at hm; subst hm
        rcases h with h | h
        · rw [he] at h; cases h
        · simp only; omega
    · split <;> simp
theorem full_expl {n : Nat} {R : List (Nat × Nat)} (h : Fd n R) : expl R (2 ^ n - 1) = true := by
  rw [expl, List.all_eq_true]
  intro p hp
  obtain ⟨r1, r2⟩ := h.rng p hp
  have : (2 ^ n - 1).testBit p.2 = true := by rw [Nat.testBit_two_pow_sub_one]; exact decide_eq_true r2
  rw [this, Bool.or_true]
/-- shortest -/
theorem c37 {v : AV} {n : Nat} {R : List (Nat × Nat)} {H : Heap} {K : AV → Heap → Prop} (h : Fd n R) (hv : RP H v R) (hk : K (.tup [sl (up (shS n R).1), .int .i64 ((shS n R).2 : Nat)]) H) : ACalls Tryd.prog 37 [.agg [.int .i64 (n : Int), v]] H K := by
  apply W37_ok
  unfold W37
  have hn7 := h.n7
  have hc := ReadsC.cells hv
  have h2n : 2 ^ n ≤ 2 ^ 7 := Nat.pow_le_pow_right (by omega) hn7
  have hn : AV.nils = sl (up []) ∨ True := .inr trivial
  simp only [letO_some, cellsOf?_agg, cellsOf?_int, cellsOf?_bool, cellsOf?_imm, cellsOf?_ref, cellsOf?_nils, faddr_iptr, faddr_ptr, List.drop_succ_cons, List.drop_zero, List.take_succ_cons, List.take_zero, load1_iptr, loadN_iptr, List.length_cons, List.length_nil, Nat.le_refl, if_true, List.getElem?_cons_zero, List.getElem?_cons_succ, List.getD_cons_zero, List.getD_cons_succ, extrF_tup, binF_add, binF_sub, binF_mul, binF_eql, binF_neq, binF_lss, binF_leq, binF_gtr, binF_geq, true_and, u64_shl (show n < 8 by omega)]
  refine ⟨fun L H' => ∃ (s : Nat) (X : AV), eqt L [X, .int .i64 ((((List.range s).foldl (shF R) ([], 0)).2 : Nat) : Int), .int .u64 (s : Int)] ∧ s ≤ 2 ^ n ∧ eqt H' H ∧ Reads H X (up ((List.range s).foldl (shF R) ([], 0)).1) ∧ (((List.range s).foldl (shF R) ([], 0)).2 ≠ 0 → X = sl (up ((List.range s).foldl (shF R) ([], 0)).1)),
    fun L _ => (2 ^ n - iv L 2).toNat, ⟨0, .nils, rfl, Nat.zero_le _, rfl, rfl, fun h => absurd rfl h⟩, ?_⟩
  rintro L H1 ⟨s, X, rfl, hs, rfl, hX, hX2⟩
  obtain ⟨q1, q2⟩ := sh_len R (List.range s)
  rw [List.length_range] at q2
  have p2 : ((2 ^ n : Nat) : Int) = (2 : Int) ^ n := by simp
  try simp only [letO_some, cellsOf?_agg, cellsOf?_int, cellsOf?_bool, cellsOf?_imm, cellsOf?_ref, cellsOf?_nils, faddr_iptr, faddr_ptr, List.drop_succ_cons, List.drop_zero, List.take_succ_cons, List.take_zero, load1_iptr, loadN_iptr, List.length_cons, List.length_nil, Nat.le_refl, if_true, List.getElem?_cons_zero, List.getElem?_cons_succ, List.getD_cons_zero, List.getD_cons_succ, extrF_tup, binF_add, binF_sub, binF_mul, binF_eql, binF_neq, binF_lss, binF_leq, binF_gtr, binF_geq, true_and]
  refine condA_t (fun hlt => ?_) (fun hge => ?_)
  · have hs2 : s < 2 ^ n := by omega
    have hr : (List.range (s + 1)).foldl (shF R) ([], 0) = shF R ((List.range s).foldl (shF R) ([], 0)) s := by rw [List.range_succ, List.foldl_append]; rfl
    refine ⟨fun L H' => ∃ (X' : AV), eqt L [X', .int .i64 ((((List.range (s + 1)).foldl (shF R) ([], 0)).2 : Nat) : Int)] ∧ eqt H' H1 ∧ Reads H1 X' (up ((List.range (s + 1)).foldl (shF R) ([], 0)).1) ∧ (((List.range (s + 1)).foldl (shF R) ([], 0)).2 ≠ 0 → X' = sl (up ((List.range (s + 1)).foldl (shF R) ([], 0)).1)), ?_, ?_⟩
    · rw [hr]
      generalize (List.range s).foldl (shF R) ([], 0) = st at *
      obtain ⟨best, many⟩ := st
      simp only at hX hX2 q1 q2
      refine c63 (by omega) ?_
      have hld : loadN 2 (.iptr [.int .i64 (n : Int), v]) H1 = some (.agg [.int .i64 (n : Int), v]) := rfl
      simp only [hld, letO_some]
      refine c39 h hv (by omega) ?_
      have hlX := hX.len
      have hll : lenA (sl (up (lsN s))) = some (.int .i64 ((lsN s).length : Int)) := by simp [sl, lenA]
      have hlb : (up best).length = best.length := by simp
      rw [hlb] at hlX
      have hls := ls_len s
      rw [shF]
      cases hE : expl R s
      · simp only [not_v, Bool.not_false, letO_some, gval_bool, Int.reduceBNe, Int.reduceBEq, pickF_true, pickF_false, reduceIte, Bool.true_eq_false, Bool.false_eq_true, if_false, condA_tt, condA_ff, condG_tt, condG_ff, condG_tt', condG_ff', condG_undef, gval_undef]
        rw [if_pos (.inl trivial)]
        exact ⟨X, rfl, rfl, hX, hX2⟩
      · simp only [not_v, Bool.not_true, letO_some, gval_bool, Int.reduceBNe, Int.reduceBEq, pickF_true, pickF_false, reduceIte, Bool.true_eq_false, Bool.false_eq_true, if_false, condA_tt, condA_ff, condG_tt, condG_ff, condG_tt', condG_ff', condG_undef, gval_undef, binF_gtr, binF_eql, binF_lss]
        by_cases hm : many = 0
        · subst hm
          have e1 : decide (((0 : Nat) : Int) > 0) = false := by decide
          have e1' : decide ((0 : Int) < ((0 : Nat) : Int)) = false := by decide
          have e2 : (((0 : Nat) : Int) == 0) = true := rfl
          simp only [e1, e1', e2, gval_bool, Int.reduceBNe, Int.reduceBEq, pickF_true, pickF_false, reduceIte, Bool.true_eq_false, Bool.false_eq_true, if_false, condA_tt, condA_ff, condG_tt, condG_ff, condG_tt', condG_ff', condG_undef, gval_undef, letO_some, condA_ff, condA_tt]
          rw [if_neg (by simp), if_pos (.inl trivial)]
          exact ⟨_, rfl, rfl, Reads.sl _ _, fun _ => rfl⟩
        · have e1 : decide ((many : Int) > 0) = true := decide_eq_true (by omega)
          have e1' : decide ((0 : Int) < (many : Int)) = true := decide_eq_true (by omega)
          have e2 : ((many : Int) == 0) = false := by rw [beq_eq_false_iff_ne]; omega
          simp only [e1, e1', e2, gval_bool, Int.reduceBNe, Int.reduceBEq, pickF_true, pickF_false, reduceIte, Bool.true_eq_false, Bool.false_eq_true, if_false, condA_tt, condA_ff, condG_tt, condG_ff, condG_tt', condG_ff', condG_undef, gval_undef, letO_some, hlX, hll, binF_gtr, binF_lss]
          by_cases h1 : best.length < (lsN s).length
          · have e3 : decide (((lsN s).length : Int) > (best.length : Int)) = true := decide_eq_true (by omega)
            have e3' : decide ((best.length : Int) < ((lsN s).length : Int)) = true := decide_eq_true (by omega)
            simp only [e3, e3', condA_tt]
            rw [if_pos (.inr ⟨by omega, h1⟩)]
            exact ⟨X, rfl, rfl, hX, hX2⟩
          · have e3 : decide (((lsN s).length : Int) > (best.length : Int)) = false := decide_eq_false (by omega)
            have e3' : decide ((best.length : Int) < ((lsN s).length : Int)) = false := decide_eq_false (by omega)
            simp only [e3, e3', condA_ff]
            rw [if_neg (by simp; omega)]
            by_cases h2 : (lsN s).length < best.length
            · have e4 : decide (((lsN s).length : Int) < (best.length : Int)) = true := decide_eq_true (by omega)
              simp only [e4, condA_tt]
              rw [if_pos (.inr h2)]
              exact ⟨_, rfl, rfl, Reads.sl _ _, fun _ => rfl⟩
            · have e4 : decide (((lsN s).length : Int) < (best.length : Int)) = false := decide_eq_false (by omega)
              simp only [e4, condA_ff, binF_add, letO_some]
              rw [if_neg (by omega), wrap_i64 (by omega) (by omega)]
              refine c35 (Reads.sl _ _) hX (by simp; omega) (by simp; omega) ?_
              try simp only [letO_some, cellsOf?_agg, cellsOf?_int, cellsOf?_bool, cellsOf?_imm, cellsOf?_ref, cellsOf?_nils, faddr_iptr, faddr_ptr, List.drop_succ_cons, List.drop_zero, List.take_succ_cons, List.take_zero, load1_iptr, loadN_iptr, List.length_cons, List.length_nil, Nat.le_refl, if_true, List.getElem?_cons_zero, List.getElem?_cons_succ, List.getD_cons_zero, List.getD_cons_succ, extrF_tup, binF_add, binF_sub, binF_mul, binF_eql, binF_neq, binF_lss, binF_leq, binF_gtr, binF_geq, true_and]
              have ec : ((many : Int) + 1) = ((many + 1 : Nat) : Int) := by omega
              refine condA_t (fun hc => ?_) (fun hc => ?_)
              · rw [if_pos hc]
                exact ⟨_, rfl, rfl, Reads.sl _ _, fun _ => rfl⟩
              · rw [if_neg hc]
                exact ⟨X, rfl, rfl, hX, fun _ => hX2 hm⟩
    · rintro L H2 ⟨X', rfl, rfl, hX', hX2'⟩
      simp only [letO_some, cellsOf?_agg, cellsOf?_int, cellsOf?_bool, cellsOf?_imm, cellsOf?_ref, cellsOf?_nils, faddr_iptr, faddr_ptr, List.drop_succ_cons, List.drop_zero, List.take_succ_cons, List.take_zero, load1_iptr, loadN_iptr, List.length_cons, List.length_nil, Nat.le_refl, if_true, List.getElem?_cons_zero, List.getElem?_cons_succ, List.getD_cons_zero, List.getD_cons_succ, extrF_tup, binF_add, binF_sub, binF_mul, binF_eql, binF_neq, binF_lss, binF_leq, binF_gtr, binF_geq, true_and]
      rw [wrap_u64 (by omega) (by omega)]
      exact ⟨⟨s + 1, X', rfl, by omega, rfl, hX', hX2'⟩, by simp [iv]; omega⟩
  · have hse : s = 2 ^ n := by omega
    subst hse
    have hd : (List.range (2 ^ n)).foldl (shF R) ([], 0) = shS n R := rfl
    rw [hd] at hX hX2 ⊢
    have p1 : 1 ≤ 2 ^ n := Nat.one_le_two_pow
    have hpos : (shS n R).2 ≠ 0 := sh_pos (full_expl h) (List.mem_range.2 (by omega))
    rw [hX2 hpos]
    exact endK_ret hk
/-- fact.First -/
theorem c10 {v : AV} {n : Nat} {R : List (Nat × Nat)} {H : Heap} {K : AV → Heap → Prop} (h : Fd n R) (hv : RP H v R) (hk : K (.tup [sl (up (shS n R).1), .int .i64 0]) H) : ACalls Tryd.prog 10 [.agg [.int .i64 (n : Int), v]] H K := by
  apply W10_ok
  unfold W10
  have hc := ReadsC.cells hv
  have e0 : ((0 : Int) != 0) = false := rfl
  have hld : ∀ H', loadN 2 (.iptr [.int .i64 (n : Int), v]) H' = some (.agg [.int .i64 (n : Int), v]) := fun _ => rfl
  simp only [letO_some, cellsOf?_agg, cellsOf?_int, cellsOf?_bool, cellsOf?_imm, cellsOf?_ref, cellsOf?_nils, faddr_iptr, faddr_ptr, List.drop_succ_cons, List.drop_zero, List.take_succ_cons, List.take_zero, load1_iptr, loadN_iptr, List.length_cons, List.length_nil, Nat.le_refl, if_true, List.getElem?_cons_zero, List.getElem?_cons_succ, List.getD_cons_zero, List.getD_cons_succ, extrF_tup, binF_add, binF_sub, binF_mul, binF_eql, binF_neq, binF_lss, binF_leq, binF_gtr, binF_geq, true_and, hld]
  refine c36 h hv ?_
  simp only [letO_some, cellsOf?_agg, cellsOf?_int, cellsOf?_bool, cellsOf?_imm, cellsOf?_ref, cellsOf?_nils, faddr_iptr, faddr_ptr, List.drop_succ_cons, List.drop_zero, List.take_succ_cons, List.take_zero, load1_iptr, loadN_iptr, List.length_cons, List.length_nil, Nat.le_refl, if_true, List.getElem?_cons_zero, List.getElem?_cons_succ, List.getD_cons_zero, List.getD_cons_succ, extrF_tup, binF_add, binF_sub, binF_mul, binF_eql, binF_neq, binF_lss, binF_leq, binF_gtr, binF_geq, true_and, e0, condA_ff, hld]
  refine c37 h hv ?_
  simp only [letO_some, cellsOf?_agg, cellsOf?_int, cellsOf?_bool, cellsOf?_imm, cellsOf?_ref, cellsOf?_nils, faddr_iptr, faddr_ptr, List.drop_succ_cons, List.drop_zero, List.take_succ_cons, List.take_zero, load1_iptr, loadN_iptr, List.length_cons, List.length_nil, Nat.le_refl, if_true, List.getElem?_cons_zero, List.getElem?_cons_succ, List.getD_cons_zero, List.getD_cons_succ, extrF_tup, binF_add, binF_sub, binF_mul, binF_eql, binF_neq, binF_lss, binF_leq, binF_gtr, binF_geq, true_and]
  exact endK_ret hk
/-- fact.Count -/
theorem c11 {v : AV} {n : Nat} {R : List (Nat × Nat)} {H : Heap} {K : AV → Heap → Prop} (h : Fd n R) (hv : RP H v R) (hk : K (.tup [.int .i64 ((shS n R).2 : Nat), .int .i64 0]) H) : ACalls Tryd.prog 11 [.agg [.int .i64 (n : Int), v]] H K := by
  apply W11_ok
  unfold W11
  have hc := ReadsC.cells hv
  have e0 : ((0 : Int) != 0) = false := rfl
  have hld : ∀ H', loadN 2 (.iptr [.int .i64 (n : Int), v]) H' = some (.agg [.int .i64 (n : Int), v]) := fun _ => rfl
  simp only [letO_some, cellsOf?_agg, cellsOf?_int, cellsOf?_bool, cellsOf?_imm, cellsOf?_ref, cellsOf?_nils, faddr_iptr, faddr_ptr, List.drop_succ_cons, List.drop_zero, List.take_succ_cons, List.take_zero, load1_iptr, loadN_iptr, List.length_cons, List.length_nil, Nat.le_refl, if_true, List.getElem?_cons_zero, List.getElem?_cons_succ, List.getD_cons_zero, List.getD_cons_succ, extrF_tup, binF_add, binF_sub, binF_mul, binF_eql, binF_neq, binF_lss, binF_leq, binF_gtr, binF_geq, true_and, hld]
  refine c36 h hv ?_
  simp only [letO_some, cellsOf?_agg, cellsOf?_int, cellsOf?_bool, cellsOf?_imm, cellsOf?_ref, cellsOf?_nils, faddr_iptr, faddr_ptr, List.drop_succ_cons, List.drop_zero, List.take_succ_cons, List.take_zero, load1_iptr, loadN_iptr, List.length_cons, List.length_nil, Nat.le_refl, if_true, List.getElem?_cons_zero, List.getElem?_cons_succ, List.getD_cons_zero, List.getD_cons_succ, extrF_tup, binF_add, binF_sub, binF_mul, binF_eql, binF_neq, binF_lss, binF_leq, binF_gtr, binF_geq, true_and, e0, condA_ff, hld]
  refine c37 h hv ?_
  simp only [letO_some, cellsOf?_agg, cellsOf?_int, cellsOf?_bool, cellsOf?_imm, cellsOf?_ref, cellsOf?_nils, faddr_iptr, faddr_ptr, List.drop_succ_cons, List.drop_zero, List.take_succ_cons, List.take_zero, load1_iptr, loadN_iptr, List.length_cons, List.length_nil, Nat.le_refl, if_true, List.getElem?_cons_zero, List.getElem?_cons_succ, List.getD_cons_zero, List.getD_cons_succ, extrF_tup, binF_add, binF_sub, binF_mul, binF_eql, binF_neq, binF_lss, binF_leq, binF_gtr, binF_geq, true_and]
  exact endK_ret hk
/-- slices.Index -/
theorem c38 {v : AV} {l : List Int} {x : Int} {H : Heap} {K : AV → Heap → Prop} (hv : Reads H v l) (hl : l.length < 2 ^ 62) (hk : ∀ i : Int, (0 ≤ i → x ∈ l ∧ i.toNat < l.length ∧ l.getD i.toNat 0 = x ∧ x ∉ l.take i.toNat) → (i < 0 → i = -1 ∧ x ∉ l) → K (.int .i64 i) H) : ACalls Tryd.prog 38 [v, .int .i64 x] H K := by
  apply W38_ok
  unfold W38
  have hlen := hv.len
  simp only [letO_some, cellsOf?_agg, cellsOf?_int, cellsOf?_bool, cellsOf?_imm, cellsOf?_ref, cellsOf?_nils, faddr_iptr, faddr_ptr, List.drop_succ_cons, List.drop_zero, List.take_succ_cons, List.take_zero, load1_iptr, loadN_iptr, List.length_cons, List.length_nil, Nat.le_refl, if_true, List.getElem?_cons_zero, List.getElem?_cons_succ, List.getD_cons_zero, List.getD_cons_succ, extrF_tup, binF_add, binF_sub, binF_mul, binF_eql, binF_neq, binF_lss, binF_leq, binF_gtr, binF_geq, true_and, hlen]
  refine ⟨fun L H' => ∃ i : Nat, eqt L [.int .i64 i] ∧ i ≤ l.length ∧ eqt H' H ∧ x ∉ l.take i, fun L _ => (l.length - iv L 0).toNat, ⟨0, rfl, by omega, rfl, by simp⟩, ?_⟩
  rintro L H' ⟨i, rfl, hi, rfl, hnot⟩
  try simp only [letO_some, cellsOf?_agg, cellsOf?_int, cellsOf?_bool, cellsOf?_imm, cellsOf?_ref, cellsOf?_nils, faddr_iptr, faddr_ptr, List.drop_succ_cons, List.drop_zero, List.take_succ_cons, List.take_zero, load1_iptr, loadN_iptr, List.length_cons, List.length_nil, Nat.le_refl, if_true, List.getElem?_cons_zero, List.getElem?_cons_succ, List.getD_cons_zero, List.getD_cons_succ, extrF_tup, binF_add, binF_sub, binF_mul, binF_eql, binF_neq, binF_lss, binF_leq, binF_gtr, binF_geq, true_and]
  refine condA_t (fun hlt => ?_) (fun hge => ?_)
  · have a1 : i < l.length := by omega
    refine Reads.get (Heap.le_refl _) hv (by omega) (by omega) ?_
    have e1 : l.getD (i : Int).toNat 0 = l[i] := by rw [Int.toNat_natCast, List.getD_eq_getElem?_getD, List.getElem?_eq_getElem a1]; rfl
    try simp only [letO_some, cellsOf?_agg, cellsOf?_int, cellsOf?_bool, cellsOf?_imm, cellsOf?_ref, cellsOf?_nils, faddr_iptr, faddr_ptr, List.drop_succ_cons, List.drop_zero, List.take_succ_cons, List.take_zero, load1_iptr, loadN_iptr, List.length_cons, List.length_nil, Nat.le_refl, if_true, List.getElem?_cons_zero, List.getElem?_cons_succ, List.getD_cons_zero, List.getD_cons_succ, extrF_tup, binF_add, binF_sub, binF_mul, binF_eql, binF_neq, binF_lss, binF_leq, binF_gtr, binF_geq, true_and, e1]
    by_cases he : x = l[i]
    · have : (x == l[i]) = true := by rw [beq_iff_eq]; exact he
      simp only [this, condA_tt]
      refine endK_ret (hk _ (fun _ => ⟨by rw [he]; exact List.getElem_mem a1, by omega, by rw [e1]; exact he.symm, by rw [Int.toNat_natCast]; exact hnot⟩) (by omega))
    · have : (x == l[i]) = false := by rw [beq_eq_false_iff_ne]; exact he
      simp only [this, condA_ff]
      rw [wrap_i64 (by omega) (by omega)]
      refine ⟨⟨i + 1, rfl, by omega, rfl, ?_⟩, by simp [iv] <;> omega⟩
      rw [List.take_add_one, List.getElem?_eq_getElem a1, List.mem_append]
      rintro (h | h)
      · exact hnot h
      · simp at h; exact he h
  · have hie : i = l.length := by omega
    subst hie
    rw [List.take_length] at hnot
    exact endK_ret (hk _ (by omega) fun _ => ⟨rfl, hnot⟩)
/-- slices.Contains -/
theorem c12 {v : AV} {l : List Int} {x : Int} {H : Heap} {K : AV → Heap → Prop} (hv : Reads H v l) (hl : l.length < 2 ^ 62) (hk : K (.bool (decide (x ∈ l))) H) : ACalls Tryd.prog 12 [v, .int .i64 x] H K := by
  apply W12_ok
  unfold W12
  try simp only [letO_some, cellsOf?_agg, cellsOf?_int, cellsOf?_bool, cellsOf?_imm, cellsOf?_ref, cellsOf?_nils, faddr_iptr, faddr_ptr, List.drop_succ_cons, List.drop_zero, List.take_succ_cons, List.take_zero, load1_iptr, loadN_iptr, List.length_cons, List.length_nil, Nat.le_refl, if_true, List.getElem?_cons_zero, List.getElem?_cons_succ, List.getD_cons_zero, List.getD_cons_succ, extrF_tup, binF_add, binF_sub, binF_mul, binF_eql, binF_neq, binF_lss, binF_leq, binF_gtr, binF_geq, true_and]
  refine c38 hv hl fun i h1 h2 => ?_
  try simp only [letO_some, cellsOf?_agg, cellsOf?_int, cellsOf?_bool, cellsOf?_imm, cellsOf?_ref, cellsOf?_nils, faddr_iptr, faddr_ptr, List.drop_succ_cons, List.drop_zero, List.take_succ_cons, List.take_zero, load1_iptr, loadN_iptr, List.length_cons, List.length_nil, Nat.le_refl, if_true, List.getElem?_cons_zero, List.getElem?_cons_succ, List.getD_cons_zero, List.getD_cons_succ, extrF_tup, binF_add, binF_sub, binF_mul, binF_eql, binF_neq, binF_lss, binF_leq, binF_gtr, binF_geq, true_and]
  refine endK_ret ?_
  by_cases hi : 0 ≤ i
  · have : decide (i ≥ 0) = true := decide_eq_true hi
    have e' : decide (0 ≤ i) = true := decide_eq_true hi
    rw [decide_eq_true (h1 hi).1] at hk
    simp only [this, e']; exact hk
  · have : decide (i ≥ 0) = false := decide_eq_false hi
    have e' : decide (0 ≤ i) = false := decide_eq_false hi
    rw [decide_eq_false (h2 (by omega)).2] at hk
    simp only [this, e']; exact hk
theorem b27 {x y : AV} (hx : cellsOf? x = some [x]) (hy : cellsOf? y = some [y]) : buildF Tryd.prog 27 [(0, x), (1, y)] = some (.agg [x, y]) := by
  rw [buildF_of (show buildPlan Tryd.prog 27 = some ([.int .i64 0, .nils], [(0, 1), (1, 1)]) by kernel_rfl)]
  simp [fillA, hx, hy, splice]
/-- factsWork -/
theorem c15 {H : Heap} {K : AV → Heap → Prop} (hk : K (.bool true) H) : ACalls Tryd.prog 15 [] H K := by
  apply W15_ok
  unfold W15
  have b1 := b30 0 1
  have b2 := b30 0 2
  have b4 := b30 1 2
  simp only [Int.natCast_zero, Int.natCast_one, Int.cast_ofNat_Int] at b1 b2 b4
  have b3 := b27 (x := .int .i64 3) (y := .imm 3 true (prC (0, 1) ++ prC (0, 2) ++ prC (1, 2))) rfl rfl
  simp only [letO_some, b1, b2, b4, l24_3, b3]
  have hvd : Fd 3 [(0, 1), (0, 2), (1, 2)] := ⟨by omega, by omega, by decide, by decide, by decide⟩
  refine c10 (n := 3) (R := [(0, 1), (0, 2), (1, 2)]) hvd (ReadsC.imm rfl) ?_
  have hs : (shS 3 [(0, 1), (0, 2), (1, 2)]).1 = [0, 1] := by decide +kernel
  rw [hs]
  have e0 : ((0 : Int) == 0) = true := rfl
  simp only [letO_some, cellsOf?_agg, cellsOf?_int, cellsOf?_bool, cellsOf?_imm, cellsOf?_ref, cellsOf?_nils, faddr_iptr, faddr_ptr, List.drop_succ_cons, List.drop_zero, List.take_succ_cons, List.take_zero, load1_iptr, loadN_iptr, List.length_cons, List.length_nil, Nat.le_refl, if_true, List.getElem?_cons_zero, List.getElem?_cons_succ, List.getD_cons_zero, List.getD_cons_succ, extrF_tup, binF_add, binF_sub, binF_mul, binF_eql, binF_neq, binF_lss, binF_leq, binF_gtr, binF_geq, true_and, e0, gval_bool, Int.reduceBNe, Int.reduceBEq, pickF_true, pickF_false, reduceIte, Bool.true_eq_false, Bool.false_eq_true, if_false, condA_tt, condA_ff, condG_tt, condG_ff, condG_tt', condG_ff', condG_undef, gval_undef, l35_2, Option.map_some]
  refine exJ (c24 ?_)
  try simp only [letO_some, cellsOf?_agg, cellsOf?_int, cellsOf?_bool, cellsOf?_imm, cellsOf?_ref, cellsOf?_nils, faddr_iptr, faddr_ptr, List.drop_succ_cons, List.drop_zero, List.take_succ_cons, List.take_zero, load1_iptr, loadN_iptr, List.length_cons, List.length_nil, Nat.le_refl, if_true, List.getElem?_cons_zero, List.getElem?_cons_succ, List.getD_cons_zero, List.getD_cons_succ, extrF_tup, binF_add, binF_sub, binF_mul, binF_eql, binF_neq, binF_lss, binF_leq, binF_gtr, binF_geq, true_and, gval_bool, Int.reduceBNe, Int.reduceBEq, pickF_true, pickF_false, reduceIte, Bool.true_eq_false, Bool.false_eq_true, if_false, condA_tt, condA_ff, condG_tt, condG_ff, condG_tt', condG_ff', condG_undef, gval_undef]
  refine exJ (c14 (a := up [0, 1]) (b := [0, 1]) (Reads.sl _ _) ⟨rfl, rfl⟩ (by decide) (by decide) ?_)
  have e2 : decide (up [0, 1] = [0, 1]) = true := by decide
  simp only [letO_some, cellsOf?_agg, cellsOf?_int, cellsOf?_bool, cellsOf?_imm, cellsOf?_ref, cellsOf?_nils, faddr_iptr, faddr_ptr, List.drop_succ_cons, List.drop_zero, List.take_succ_cons, List.take_zero, load1_iptr, loadN_iptr, List.length_cons, List.length_nil, Nat.le_refl, if_true, List.getElem?_cons_zero, List.getElem?_cons_succ, List.getD_cons_zero, List.getD_cons_succ, extrF_tup, binF_add, binF_sub, binF_mul, binF_eql, binF_neq, binF_lss, binF_leq, binF_gtr, binF_geq, true_and, e2, gval_bool, Int.reduceBNe, Int.reduceBEq, pickF_true, pickF_false, reduceIte, Bool.true_eq_false, Bool.false_eq_true, if_false, condA_tt, condA_ff, condG_tt, condG_ff, condG_tt', condG_ff', condG_undef, gval_undef]
  refine exJ (c40 ?_)
  try simp only [letO_some, cellsOf?_agg, cellsOf?_int, cellsOf?_bool, cellsOf?_imm, cellsOf?_ref, cellsOf?_nils, faddr_iptr, faddr_ptr, List.drop_succ_cons, List.drop_zero, List.take_succ_cons, List.take_zero, load1_iptr, loadN_iptr, List.length_cons, List.length_nil, Nat.le_refl, if_true, List.getElem?_cons_zero, List.getElem?_cons_succ, List.getD_cons_zero, List.getD_cons_succ, extrF_tup, binF_add, binF_sub, binF_mul, binF_eql, binF_neq, binF_lss, binF_leq, binF_gtr, binF_geq, true_and, gval_bool, Int.reduceBNe, Int.reduceBEq, pickF_true, pickF_false, reduceIte, Bool.true_eq_false, Bool.false_eq_true, if_false, condA_tt, condA_ff, condG_tt, condG_ff, condG_tt', condG_ff', condG_undef, gval_undef]
  exact endK_ret hk
def pr8 (p : Nat × Nat) : List AV := [.int .u8 (p.1 : Int), .int .u8 (p.2 : Int)]
theorem pr8_len (p : Nat × Nat) : (pr8 p).length = 2 := rfl
theorem rem_nat {k : IntKind} {t : TypeId} {a b : Nat} (hb : 0 < b) : binF Tryd.prog .rem t (.int k (a : Int)) (.int k (b : Int)) = some (.int k ((a % b : Nat) : Int)) := by
  show (if k = k ∧ (b : Int) ≠ 0 then some (AV.int k ((a : Int).tmod (b : Int))) else none) = _
  rw [if_pos ⟨rfl, by omega⟩]
  rfl
theorem conv_outN {H H' : Heap} {b sz : Nat} {cells : List AV} (h1 : H b = none) (h2 : H' b = some cells) (d : Nat) {n : Nat} (hn : cells.length = n * sz) : conv H H' (d + 1) (.ref sz b 0 n none) = .imm n false (cells.map (conv H H' d)) := by
  simp only [conv, h1, h2]
  rw [if_pos (by omega), List.drop_zero, List.take_of_length_le (by omega)]
theorem conv_prC {H H' : Heap} (d : Nat) (R : List (Nat × Nat)) : (R.flatMap prC).map (conv H H' d) = R.flatMap prC := by
  induction R with
  | nil => rfl
  | cons a R ih => rw [List.flatMap_cons, List.map_append, ih]; simp [prC, conv_int]
/-- The list of pairs is given back. -/
theorem grow_pairs {H H1 H' : Heap} {X : AV} {R : List (Nat × Nat)} (hg : Grow 2 H1 H' X R.length (R.flatMap prC)) (hle : H.le H1) : conv H H' 2 X = .imm R.length false (R.flatMap prC) := by
  rcases hg.2 with ⟨rfl, h0, rfl⟩ | ⟨rfl, rfl⟩ | ⟨b, hb, rfl, rfl⟩
  · have : R = [] := List.eq_nil_of_length_eq_zero h0
    subst this; rfl
  · rw [conv]; simp only [conv_prC]
  · rw [conv_outN (none_of_le hle hb) Heap.put_same 1 hg.1, conv_prC]
theorem l24_dec {p : Nat × Nat} {R : List (Nat × Nat)} : (R ++ [p]).flatMap prC = R.flatMap prC ++ prC p := by simp
theorem ls_mem {s x : Nat} : x ∈ lsN s ↔ x < 7 ∧ s.testBit x = true := by simp [lsN]
theorem bit_lt {n s x : Nat} (h : s < 2 ^ n) (hx : s.testBit x = true) : x < n := by
  apply Nat.lt_of_not_le
  intro hn
  have := Nat.testBit_lt_two_pow (Nat.lt_of_lt_of_le h (Nat.pow_le_pow_right (by omega) hn))
  rw [hx] at this; cases this
end Go.Proofs.YtmmfelpgcdlgfaaDoor
