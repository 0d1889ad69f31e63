import Derived.Test.YtmmfelpgcdlgfaaDoorLRoadP1
/- The contracts that TopRoad uses. Conditions: each theorem names its own. -/
namespace Go.Proofs.YtmmfelpgcdlgfaaDoor
open Go.Av
set_option linter.unusedVariables false
set_option linter.unusedSimpArgs false
set_option maxRecDepth 8000

theorem rep_prI : ∀ n : Nat, (List.replicate n ((0 : Int), (0 : Int))).flatMap prI = List.replicate (2 * n) (AV.int .i64 0)
  | 0 => rfl
  | n + 1 => by
    rw [List.replicate_succ, List.flatMap_cons, rep_prI n, show 2 * (n + 1) = 2 * n + 1 + 1 by omega, List.replicate_succ, List.replicate_succ]
    rfl
theorem b100 {room : Nat} {pv : AV} (hpv : cellsOf? pv = some [pv]) : buildF Tryd.prog 100 [(0, .agg [.int .i64 (room : Int), pv])] = some (.agg (tcC room pv (List.replicate 768 (0, 0)))) := by
  rw [buildF_of (show buildPlan Tryd.prog 100 = some (.int .i64 0 :: .nils :: List.replicate 1536 (.int .i64 0), [(0, 2), (2, 1536)]) by kernel_rfl)]
  have hc : cellsOf? (.agg [.int .i64 (room : Int), pv]) = some [.int .i64 (room : Int), pv] := rfl
  simp only [fillA, List.getElem?_cons_zero, hc]
  rw [if_pos ⟨rfl, by simp⟩, tcC, rep_prI]
  rfl
theorem b103 : buildF Tryd.prog 103 [] = some (.agg [.int .u64 0]) := by
  rw [buildF_of (show buildPlan Tryd.prog 103 = some ([.int .u64 0], [(0, 1)]) by kernel_rfl)]
  simp [fillA]
theorem f96_0 (a b : AV) : fieldF Tryd.prog 96 (.agg [a, b]) 0 = some a := by
  have h : (match Tryd.prog.underlying 96 with | some (.struct fs) => (match fs[0]? with | some f => f.offset == 0 && (match Tryd.prog.underlying f.type with | some d => !isAggD d | none => false) | none => false) | _ => false) = true := by kernel_rfl
  split at h <;> try cases h
  rename_i fs hu
  split at h <;> try cases h
  rename_i f hf
  simp only [Bool.and_eq_true, beq_iff_eq] at h
  obtain ⟨ho, h⟩ := h
  split at h <;> try cases h
  rename_i d hd
  simp only [fieldF, hu, hf, partF, hd, ho]
  have : isAggD d = false := by simpa using h
  rw [this]
  rfl
/-- stand.Fewest -/
theorem c17 {room : Nat} {pv : AV} {pg : List Nat} {H : Heap} {K : AV → Heap → Prop} (h1 : 1 ≤ room) (h5 : room ≤ 5) (hv : Reads H pv (up pg)) (hl : pg.length ≤ 12) (hp : ∀ p ∈ pg, p < 6) (hk : K (.tup [.int .i64 (fewF room pg 0 : Nat), .int .i64 0]) H) :
    ACalls Tryd.prog 17 [.agg [.int .i64 (room : Int), pv]] H K := by
  apply W17_ok
  unfold W17
  have hc := hv.cells
  have hld : ∀ H', loadN 2 (.iptr [.int .i64 (room : Int), pv]) H' = some (.agg [.int .i64 (room : Int), pv]) := fun _ => rfl
  have e0 : ((0 : Int) != 0) = false := rfl
  simp only [letO_some, cellsOf?_agg, cellsOf?_int, cellsOf?_bool, cellsOf?_imm, cellsOf?_ref, cellsOf?_nils, faddr_iptr, faddr_ptr, List.drop_succ_cons, List.drop_zero, List.take_succ_cons, List.take_zero, load1_iptr, loadN_iptr, List.length_cons, List.length_nil, Nat.le_refl, if_true, List.getElem?_cons_zero, List.getElem?_cons_succ, List.getD_cons_zero, List.getD_cons_succ, extrF_tup, binF_add, binF_sub, binF_mul, binF_eql, binF_neq, binF_lss, binF_leq, binF_gtr, binF_geq, true_and, hld]
  refine c43 h1 h5 hv hl hp ?_
  simp only [letO_some, cellsOf?_agg, cellsOf?_int, cellsOf?_bool, cellsOf?_imm, cellsOf?_ref, cellsOf?_nils, faddr_iptr, faddr_ptr, List.drop_succ_cons, List.drop_zero, List.take_succ_cons, List.take_zero, load1_iptr, loadN_iptr, List.length_cons, List.length_nil, Nat.le_refl, if_true, List.getElem?_cons_zero, List.getElem?_cons_succ, List.getD_cons_zero, List.getD_cons_succ, extrF_tup, binF_add, binF_sub, binF_mul, binF_eql, binF_neq, binF_lss, binF_leq, binF_gtr, binF_geq, true_and, e0, condA_ff, hld, b100 hc, b103]
  refine alloc_ fun b hb => ?_
  have hoff := reads_isOff hv hb
  have hle := Heap.le_new (c := tcC room pv (List.replicate 768 (0, 0))) hb
  try simp only [letO_some, cellsOf?_agg, cellsOf?_int, cellsOf?_bool, cellsOf?_imm, cellsOf?_ref, cellsOf?_nils, faddr_iptr, faddr_ptr, List.drop_succ_cons, List.drop_zero, List.take_succ_cons, List.take_zero, load1_iptr, loadN_iptr, List.length_cons, List.length_nil, Nat.le_refl, if_true, List.getElem?_cons_zero, List.getElem?_cons_succ, List.getD_cons_zero, List.getD_cons_succ, extrF_tup, binF_add, binF_sub, binF_mul, binF_eql, binF_neq, binF_lss, binF_leq, binF_gtr, binF_geq, true_and]
  refine c44 h1 h5 hp hl hv.scalar pg.length 0 0 (by omega) (by omega) Heap.put_same ⟨by simp, fun t s ht hs hne => ?_⟩ (hv.le hle) hoff fun c Kn' _ => ?_
  · have : t * 64 + s < 768 := by omega
    rw [List.getD_eq_getElem?_getD, List.getElem?_replicate, if_pos this] at hne
    exact absurd rfl hne
  · rw [List.drop_zero, Heap.put_put]
    simp only [f96_0, letO_some, cellsOf?_agg, cellsOf?_int, cellsOf?_bool, cellsOf?_imm, cellsOf?_ref, cellsOf?_nils, faddr_iptr, faddr_ptr, List.drop_succ_cons, List.drop_zero, List.take_succ_cons, List.take_zero, load1_iptr, loadN_iptr, List.length_cons, List.length_nil, Nat.le_refl, if_true, List.getElem?_cons_zero, List.getElem?_cons_succ, List.getD_cons_zero, List.getD_cons_succ, extrF_tup, binF_add, binF_sub, binF_mul, binF_eql, binF_neq, binF_lss, binF_leq, binF_gtr, binF_geq, true_and]
    exact endK_pub (Pub.drop (Heap.le_new hb)) (endK_ret hk)
theorem b47 {x y : AV} (hx : cellsOf? x = some [x]) (hy : cellsOf? y = some [y]) : buildF Tryd.prog 47 [(0, x), (1, y)] = some (.agg [x, y]) := by
  rw [buildF_of (show buildPlan Tryd.prog 47 = some ([.int .i64 0, .nils], [(0, 1), (1, 1)]) by kernel_rfl)]
  simp [fillA, hx, hy, splice]
theorem b47n {x : AV} (hx : cellsOf? x = some [x]) : buildF Tryd.prog 47 [(0, x)] = some (.agg [x, .nils]) := by
  rw [buildF_of (show buildPlan Tryd.prog 47 = some ([.int .i64 0, .nils], [(0, 1), (1, 1)]) by kernel_rfl)]
  simp [fillA, hx, splice]
theorem l35_5 (a b c d e : Int) : literalF Tryd.prog 35 5 [(0, .int .i64 a), (1, .int .i64 b), (2, .int .i64 c), (3, .int .i64 d), (4, .int .i64 e)] = some (ints [a, b, c, d, e]) := by
  rw [literalF_of (show literalPlan Tryd.prog 35 = some ([.int .i64 0], 1) by kernel_rfl) (by decide) (by simp)]
  simp [fillA, splice, rowOf, ints, List.range_succ]
/-- standsWork -/
theorem c18 {H : Heap} {K : AV → Heap → Prop} (hk : K (.bool true) H) : ACalls Tryd.prog 18 [] H K := by
  apply W18_ok
  unfold W18
  simp only [letO_some, cellsOf?_agg, cellsOf?_int, cellsOf?_bool, cellsOf?_imm, cellsOf?_ref, cellsOf?_nils, faddr_iptr, faddr_ptr, List.drop_succ_cons, List.drop_zero, List.take_succ_cons, List.take_zero, load1_iptr, loadN_iptr, List.length_cons, List.length_nil, Nat.le_refl, if_true, List.getElem?_cons_zero, List.getElem?_cons_succ, List.getD_cons_zero, List.getD_cons_succ, extrF_tup, binF_add, binF_sub, binF_mul, binF_eql, binF_neq, binF_lss, binF_leq, binF_gtr, binF_geq, true_and, l35_5]
  refine c24 ?_
  have hb := b47 (x := .int .i64 2) (y := .imm 5 true (ints [0, 1, 2, 0, 1])) rfl rfl
  simp only [letO_some, cellsOf?_agg, cellsOf?_int, cellsOf?_bool, cellsOf?_imm, cellsOf?_ref, cellsOf?_nils, faddr_iptr, faddr_ptr, List.drop_succ_cons, List.drop_zero, List.take_succ_cons, List.take_zero, load1_iptr, loadN_iptr, List.length_cons, List.length_nil, Nat.le_refl, if_true, List.getElem?_cons_zero, List.getElem?_cons_succ, List.getD_cons_zero, List.getD_cons_succ, extrF_tup, binF_add, binF_sub, binF_mul, binF_eql, binF_neq, binF_lss, binF_leq, binF_gtr, binF_geq, true_and, hb]
  refine c17 (room := 2) (pg := [0, 1, 2, 0, 1]) (by omega) (by omega) ⟨rfl, rfl⟩ (by decide) (by decide) ?_
  have hf : fewF 2 [0, 1, 2, 0, 1] 0 = 4 := by decide +kernel
  have e0 : ((0 : Int) == 0) = true := rfl
  have e4 : ((4 : Int) == 4) = true := rfl
  rw [hf]
  simp only [letO_some, cellsOf?_agg, cellsOf?_int, cellsOf?_bool, cellsOf?_imm, cellsOf?_ref, cellsOf?_nils, faddr_iptr, faddr_ptr, List.drop_succ_cons, List.drop_zero, List.take_succ_cons, List.take_zero, load1_iptr, loadN_iptr, List.length_cons, List.length_nil, Nat.le_refl, if_true, List.getElem?_cons_zero, List.getElem?_cons_succ, List.getD_cons_zero, List.getD_cons_succ, extrF_tup, binF_add, binF_sub, binF_mul, binF_eql, binF_neq, binF_lss, binF_leq, binF_gtr, binF_geq, true_and, e0, gval_bool, Int.reduceBNe, Int.reduceBEq, pickF_true, pickF_false, reduceIte, Bool.true_eq_false, Bool.false_eq_true, if_false, condA_tt, condA_ff, condG_tt, condG_ff, condG_tt', condG_ff', condG_undef, gval_undef, Int.cast_ofNat_Int, e4]
  refine exJ (c15 ?_)
  try simp only [letO_some, cellsOf?_agg, cellsOf?_int, cellsOf?_bool, cellsOf?_imm, cellsOf?_ref, cellsOf?_nils, faddr_iptr, faddr_ptr, List.drop_succ_cons, List.drop_zero, List.take_succ_cons, List.take_zero, load1_iptr, loadN_iptr, List.length_cons, List.length_nil, Nat.le_refl, if_true, List.getElem?_cons_zero, List.getElem?_cons_succ, List.getD_cons_zero, List.getD_cons_succ, extrF_tup, binF_add, binF_sub, binF_mul, binF_eql, binF_neq, binF_lss, binF_leq, binF_gtr, binF_geq, true_and, gval_bool, Int.reduceBNe, Int.reduceBEq, pickF_true, pickF_false, reduceIte, Bool.true_eq_false, Bool.false_eq_true, if_false, condA_tt, condA_ff, condG_tt, condG_ff, condG_tt', condG_ff', condG_undef, gval_undef]
  exact endK_ret hk
theorem slc_drop {H : Heap} {v : AV} {l : List Int} {k : Nat} (h : Reads H v l) (hk : k ≤ l.length) : ∃ v', slc 1 v (some (.int .i64 (k : Int))) none none = some v' ∧ Reads H v' (l.drop k) := by
  have n1 : ∀ d, natOf none d = some d := fun d => rfl
  have n2 : ∀ d, natOf (some (.int .i64 (k : Int))) d = some k := fun d => by simp [natOf]
  cases v <;> simp only [Reads] at h <;> try exact h.elim
  · subst h
    have : k = 0 := by simpa using hk
    subst this
    simp only [slc, n1, n2, Option.bind_some]
    exact ⟨_, rfl, rfl⟩
  · obtain ⟨rfl, rfl⟩ := h
    simp only [slc, n1, n2, Option.bind_some]
    rw [if_pos ⟨hk, Nat.le_refl _⟩]
    refine ⟨_, rfl, by simp, ?_⟩
    rw [Nat.mul_one, Nat.mul_one, ints_drop, List.take_of_length_le (by simp)]
  · rename_i s b off n cp
    obtain ⟨rfl, rfl, cells, hb, hc, ht⟩ := h
    simp only [slc, n1, n2, Option.bind_some]
    by_cases hlt : k = 0 ∨ k < l.length
    · rw [if_pos ⟨by trivial, hk, by omega, hlt⟩]
      refine ⟨_, rfl, rfl, by simp, cells, hb, by omega, ?_⟩
      rw [Nat.mul_one, ← ints_drop, ← ht, List.drop_take, List.drop_drop]
    · rw [if_neg (by omega), if_pos ⟨by omega, by omega⟩]
      have : l.drop k = [] := List.drop_of_length_le (by omega)
      rw [this]
      exact ⟨_, rfl, rfl, rfl⟩
theorem idx_of {l : List Int} {x : Int} {n : Nat} (h1 : n < l.length) (h2 : l.getD n 0 = x) (h3 : x ∉ l.take n) : l.idxOf x = n := by
  induction l generalizing n with
  | nil => simp at h1
  | cons a l ih =>
    cases n with
    | zero =>
      simp at h2; subst h2; simp
    | succ n =>
      simp at h1 h2 h3
      have e : (a == x) = false := by rw [beq_eq_false_iff_ne]; exact fun h => h3.1 h.symm
      rw [List.idxOf_cons, e, cond_false, ih h1 (by simpa using h2) h3.2]
/-- When a number is met next, from a place on. -/
def aftI (l : List Int) (x : Int) (t : Nat) : Nat := if x ∈ l.drop t then t + (l.drop t).idxOf x else 12
/-- stand.after -/
theorem c74 {room : Nat} {pv : AV} {l : List Int} {x : Int} {t : Nat} {H : Heap} {K : AV → Heap → Prop} (hv : Reads H pv l) (hl : l.length ≤ 12) (ht : t ≤ l.length) (hk : K (.int .i64 (aftI l x t : Nat)) H) :
    ACalls Tryd.prog 74 [.agg [.int .i64 (room : Int), pv], .int .i64 x, .int .i64 (t : Int)] H K := by
  apply W74_ok
  unfold W74
  have hc := hv.cells
  obtain ⟨v', s1, s2⟩ := slc_drop hv ht
  simp only [letO_some, cellsOf?_agg, cellsOf?_int, cellsOf?_bool, cellsOf?_imm, cellsOf?_ref, cellsOf?_nils, faddr_iptr, faddr_ptr, List.drop_succ_cons, List.drop_zero, List.take_succ_cons, List.take_zero, load1_iptr, loadN_iptr, List.length_cons, List.length_nil, Nat.le_refl, if_true, List.getElem?_cons_zero, List.getElem?_cons_succ, List.getD_cons_zero, List.getD_cons_succ, extrF_tup, binF_add, binF_sub, binF_mul, binF_eql, binF_neq, binF_lss, binF_leq, binF_gtr, binF_geq, true_and, s1]
  refine c38 s2 (by rw [List.length_drop]; omega) fun i h1 h2 => ?_
  try simp only [letO_some, cellsOf?_agg, cellsOf?_int, cellsOf?_bool, cellsOf?_imm, cellsOf?_ref, cellsOf?_nils, faddr_iptr, faddr_ptr, List.drop_succ_cons, List.drop_zero, List.take_succ_cons, List.take_zero, load1_iptr, loadN_iptr, List.length_cons, List.length_nil, Nat.le_refl, if_true, List.getElem?_cons_zero, List.getElem?_cons_succ, List.getD_cons_zero, List.getD_cons_succ, extrF_tup, binF_add, binF_sub, binF_mul, binF_eql, binF_neq, binF_lss, binF_leq, binF_gtr, binF_geq, true_and]
  refine condA_t (fun hc => ?_) (fun hc => ?_)
  · obtain ⟨q1, q2, q3, q4⟩ := h1 hc
    have hi := idx_of q2 q3 q4
    rw [List.length_drop] at q2
    rw [wrap_i64 (by omega) (by omega)]
    unfold aftI at hk
    rw [if_pos q1, hi] at hk
    have : (t : Int) + i = ((t + i.toNat : Nat) : Int) := by omega
    rw [this]
    exact endK_ret hk
  · obtain ⟨-, q⟩ := h2 (by omega)
    unfold aftI at hk
    rw [if_neg q] at hk
    exact endK_ret hk
def spF (l : List Int) (t : Nat) : Option (Nat × Nat) := if aftI l (l.getD t 0) (t + 1) < 12 then some (t, aftI l (l.getD t 0) (t + 1)) else none
/-- The spans. -/
def spans (l : List Int) : List (Nat × Nat) := (List.range l.length).filterMap (spF l)
theorem sp_snoc (l : List Int) (t : Nat) : (List.range (t + 1)).filterMap (spF l) = (List.range t).filterMap (spF l) ++ (spF l t).toList := by
  rw [List.range_succ, List.filterMap_append]
  congr 1
theorem sp_len (l : List Int) (t : Nat) : ((List.range t).filterMap (spF l)).length ≤ t := by
  have := List.length_filterMap_le (spF l) (List.range t)
  simpa using this
/-- stand.spans -/
theorem c45 {room : Nat} {pv : AV} {l : List Int} {H : Heap} {K : AV → Heap → Prop} (hv : Reads H pv l) (hl : l.length ≤ 12) (hk : K (.imm (spans l).length false ((spans l).flatMap prC)) H) :
    ACalls Tryd.prog 45 [.agg [.int .i64 (room : Int), pv]] H K := by
  apply W45_ok
  unfold W45
  have hc := hv.cells
  have hlen := hv.len
  have hld : ∀ H', loadN 2 (.iptr [.int .i64 (room : Int), pv]) H' = some (.agg [.int .i64 (room : Int), pv]) := fun _ => rfl
  simp only [letO_some, cellsOf?_agg, cellsOf?_int, cellsOf?_bool, cellsOf?_imm, cellsOf?_ref, cellsOf?_nils, faddr_iptr, faddr_ptr, List.drop_succ_cons, List.drop_zero, List.take_succ_cons, List.take_zero, load1_iptr, loadN_iptr, List.length_cons, List.length_nil, Nat.le_refl, if_true, List.getElem?_cons_zero, List.getElem?_cons_succ, List.getD_cons_zero, List.getD_cons_succ, extrF_tup, binF_add, binF_sub, binF_mul, binF_eql, binF_neq, binF_lss, binF_leq, binF_gtr, binF_geq, true_and, hlen]
  refine ⟨fun L H' => ∃ (i : Nat) (X : AV), eqt L [X, .int .i64 (i : Int)] ∧ i ≤ l.length ∧ Grow 2 H H' X ((List.range i).filterMap (spF l)).length (((List.range i).filterMap (spF l)).flatMap prC),
    fun L _ => (l.length - iv L 1).toNat, ⟨0, .nils, rfl, by omega, Grow.nils 2 H⟩, ?_⟩
  rintro L H1 ⟨i, X, rfl, hi, hg⟩
  have hsl := sp_len l i
  try simp only [letO_some, cellsOf?_agg, cellsOf?_int, cellsOf?_bool, cellsOf?_imm, cellsOf?_ref, cellsOf?_nils, faddr_iptr, faddr_ptr, List.drop_succ_cons, List.drop_zero, List.take_succ_cons, List.take_zero, load1_iptr, loadN_iptr, List.length_cons, List.length_nil, Nat.le_refl, if_true, List.getElem?_cons_zero, List.getElem?_cons_succ, List.getD_cons_zero, List.getD_cons_succ, extrF_tup, binF_add, binF_sub, binF_mul, binF_eql, binF_neq, binF_lss, binF_leq, binF_gtr, binF_geq, true_and]
  refine condA_t (fun hlt => ?_) (fun hge => ?_)
  · have a1 : i < l.length := by omega
    refine ⟨fun L H' => ∃ X', eqt L [X'] ∧ Grow 2 H H' X' ((List.range (i + 1)).filterMap (spF l)).length (((List.range (i + 1)).filterMap (spF l)).flatMap prC), ?_, ?_⟩
    · refine Reads.get hg.le hv (by omega) (by omega) ?_
      rw [Int.toNat_natCast]
      have w1 : IntKind.i64.wrap ((i : Int) + 1) = ((i + 1 : Nat) : Int) := by rw [wrap_i64 (by omega) (by omega)]; omega
      simp only [letO_some, cellsOf?_agg, cellsOf?_int, cellsOf?_bool, cellsOf?_imm, cellsOf?_ref, cellsOf?_nils, faddr_iptr, faddr_ptr, List.drop_succ_cons, List.drop_zero, List.take_succ_cons, List.take_zero, load1_iptr, loadN_iptr, List.length_cons, List.length_nil, Nat.le_refl, if_true, List.getElem?_cons_zero, List.getElem?_cons_succ, List.getD_cons_zero, List.getD_cons_succ, extrF_tup, binF_add, binF_sub, binF_mul, binF_eql, binF_neq, binF_lss, binF_leq, binF_gtr, binF_geq, true_and, hld, w1]
      refine c74 (hv.le hg.le) hl (by omega) ?_
      rw [sp_snoc]
      unfold spF
      generalize aftI l (l.getD i 0) (i + 1) = u
      try simp only [letO_some, cellsOf?_agg, cellsOf?_int, cellsOf?_bool, cellsOf?_imm, cellsOf?_ref, cellsOf?_nils, faddr_iptr, faddr_ptr, List.drop_succ_cons, List.drop_zero, List.take_succ_cons, List.take_zero, load1_iptr, loadN_iptr, List.length_cons, List.length_nil, Nat.le_refl, if_true, List.getElem?_cons_zero, List.getElem?_cons_succ, List.getD_cons_zero, List.getD_cons_succ, extrF_tup, binF_add, binF_sub, binF_mul, binF_eql, binF_neq, binF_lss, binF_leq, binF_gtr, binF_geq, true_and]
      refine condA_t (fun hc => ?_) (fun hc => ?_)
      · rw [if_pos (by omega)]
        simp only [b30, letO_some, l24_1]
        refine appendA_growR hg (m := 1) (new := prC (i, u)) (by simp [srcOf, prC]) rfl rfl (by omega) (by omega) (by omega) fun v' H7 hg7 ho7 => ?_
        try simp only [letO_some, cellsOf?_agg, cellsOf?_int, cellsOf?_bool, cellsOf?_imm, cellsOf?_ref, cellsOf?_nils, faddr_iptr, faddr_ptr, List.drop_succ_cons, List.drop_zero, List.take_succ_cons, List.take_zero, load1_iptr, loadN_iptr, List.length_cons, List.length_nil, Nat.le_refl, if_true, List.getElem?_cons_zero, List.getElem?_cons_succ, List.getD_cons_zero, List.getD_cons_succ, extrF_tup, binF_add, binF_sub, binF_mul, binF_eql, binF_neq, binF_lss, binF_leq, binF_gtr, binF_geq, true_and]
        refine ⟨v', rfl, ?_⟩
        rw [Option.toList_some, l24_dec, List.length_append]
        exact hg7
      · rw [if_neg (by omega), Option.toList_none, List.append_nil]
        exact ⟨X, rfl, hg⟩
    · rintro L H2 ⟨X', rfl, hg'⟩
      try simp only [letO_some, cellsOf?_agg, cellsOf?_int, cellsOf?_bool, cellsOf?_imm, cellsOf?_ref, cellsOf?_nils, faddr_iptr, faddr_ptr, List.drop_succ_cons, List.drop_zero, List.take_succ_cons, List.take_zero, load1_iptr, loadN_iptr, List.length_cons, List.length_nil, Nat.le_refl, if_true, List.getElem?_cons_zero, List.getElem?_cons_succ, List.getD_cons_zero, List.getD_cons_succ, extrF_tup, binF_add, binF_sub, binF_mul, binF_eql, binF_neq, binF_lss, binF_leq, binF_gtr, binF_geq, true_and]
      rw [wrap_i64 (by omega) (by omega)]
      exact ⟨⟨i + 1, X', rfl, by omega, hg'⟩, by simp [iv]; omega⟩
  · have hie : i = l.length := by omega
    subst hie
    exact hg.end1 hk
/-- stand.Spans -/
theorem c19 {room : Nat} {pv : AV} {pg : List Nat} {H : Heap} {K : AV → Heap → Prop} (h1 : 1 ≤ room) (h5 : room ≤ 5) (hv : Reads H pv (up pg)) (hl : pg.length ≤ 12) (hp : ∀ p ∈ pg, p < 6) (hk : K (.tup [.imm (spans (up pg)).length false ((spans (up pg)).flatMap prC), .int .i64 0]) H) :
    ACalls Tryd.prog 19 [.agg [.int .i64 (room : Int), pv]] H K := by
  apply W19_ok
  unfold W19
  have hc := hv.cells
  have hld : ∀ H', loadN 2 (.iptr [.int .i64 (room : Int), pv]) H' = some (.agg [.int .i64 (room : Int), pv]) := fun _ => rfl
  have e0 : ((0 : Int) != 0) = false := rfl
  simp only [letO_some, cellsOf?_agg, cellsOf?_int, cellsOf?_bool, cellsOf?_imm, cellsOf?_ref, cellsOf?_nils, faddr_iptr, faddr_ptr, List.drop_succ_cons, List.drop_zero, List.take_succ_cons, List.take_zero, load1_iptr, loadN_iptr, List.length_cons, List.length_nil, Nat.le_refl, if_true, List.getElem?_cons_zero, List.getElem?_cons_succ, List.getD_cons_zero, List.getD_cons_succ, extrF_tup, binF_add, binF_sub, binF_mul, binF_eql, binF_neq, binF_lss, binF_leq, binF_gtr, binF_geq, true_and, hld]
  refine c43 h1 h5 hv hl hp ?_
  simp only [letO_some, cellsOf?_agg, cellsOf?_int, cellsOf?_bool, cellsOf?_imm, cellsOf?_ref, cellsOf?_nils, faddr_iptr, faddr_ptr, List.drop_succ_cons, List.drop_zero, List.take_succ_cons, List.take_zero, load1_iptr, loadN_iptr, List.length_cons, List.length_nil, Nat.le_refl, if_true, List.getElem?_cons_zero, List.getElem?_cons_succ, List.getD_cons_zero, List.getD_cons_succ, extrF_tup, binF_add, binF_sub, binF_mul, binF_eql, binF_neq, binF_lss, binF_leq, binF_gtr, binF_geq, true_and, e0, condA_ff, hld]
  refine c45 hv (by rw [up_length]; omega) ?_
  try simp only [letO_some, cellsOf?_agg, cellsOf?_int, cellsOf?_bool, cellsOf?_imm, cellsOf?_ref, cellsOf?_nils, faddr_iptr, faddr_ptr, List.drop_succ_cons, List.drop_zero, List.take_succ_cons, List.take_zero, load1_iptr, loadN_iptr, List.length_cons, List.length_nil, Nat.le_refl, if_true, List.getElem?_cons_zero, List.getElem?_cons_succ, List.getD_cons_zero, List.getD_cons_succ, extrF_tup, binF_add, binF_sub, binF_mul, binF_eql, binF_neq, binF_lss, binF_leq, binF_gtr, binF_geq, true_and]
  exact endK_ret hk
end Go.Proofs.YtmmfelpgcdlgfaaDoor

/- Spans that cannot both be saved: all lists of at most six pages are tried. -/
namespace Go.Proofs.YtmmfelpgcdlgfaaDoor
set_option linter.unusedVariables false

/-- Two spans have a time in common. -/
def clash (x y : Nat × Nat) : Bool := decide (max x.1 y.1 + 1 < min x.2 y.2)
def conF (l : List (Nat × Nat)) (i k : Nat) : Option (Nat × Nat) := if clash (l.getD i (0, 0)) (l.getD k (0, 0)) then some (k, i) else none
def conP (l : List (Nat × Nat)) (i : Nat) : List (Nat × Nat) := (List.range i).filterMap (conF l i)
/-- The pairs that clash. -/
def confP (l : List (Nat × Nat)) : List (Nat × Nat) := (List.range l.length).flatMap (conP l)
def ndB : List (Nat × Nat) → Bool
  | [] => true
  | a :: l => l.all (fun b => !(a.1 == b.1 && a.2 == b.2)) && ndB l
theorem nd_of : ∀ {l : List (Nat × Nat)}, ndB l = true → l.Pairwise (· ≠ ·)
  | [], _ => List.Pairwise.nil
  | a :: l, h => by
    rw [ndB, Bool.and_eq_true, List.all_eq_true] at h
    rw [List.pairwise_cons]
    refine ⟨fun b hb he => ?_, nd_of h.2⟩
    subst he
    have := h.1 a hb
    simp at this
def pop5 (s : Nat) : Nat := s % 2 + s / 2 % 2 + s / 4 % 2 + s / 8 % 2 + s / 16 % 2
theorem pop_ok : ∀ s : Fin 32, pop5 s.val = (lsN s.val).length := by decide +kernel
/-- What is tried for each list of pages. -/
def chkS (pg : List Nat) : Bool :=
  match spans (up pg) with
  | l => match confP l with
    | P => match fewF 2 pg 0 + l.length - pg.length with
      | m => decide (l.length ≤ 5) && decide (pg.length ≤ fewF 2 pg 0 + l.length) && decide (P.length ≤ 10) && ndB P && P.all (fun r => decide (r.1 < r.2) && decide (r.2 < l.length)) &&
        (List.range (2 ^ l.length)).any (fun s => expl P s && pop5 s == m) && (List.range (2 ^ l.length)).all (fun s => !expl P s || decide (m ≤ pop5 s))
def allL : Nat → List (List Nat)
  | 0 => [[]]
  | n + 1 => (allL n).flatMap fun l => [0 :: l, 1 :: l, 2 :: l, 3 :: l]
theorem mem_allL : ∀ (l : List Nat), (∀ p ∈ l, p < 4) → l ∈ allL l.length
  | [], _ => by simp [allL]
  | p :: l, h => by
    rw [List.length_cons, allL, List.mem_flatMap]
    refine ⟨l, mem_allL l fun q hq => h q (List.mem_cons_of_mem _ hq), ?_⟩
    have : p < 4 := h p (by simp)
    have : p = 0 ∨ p = 1 ∨ p = 2 ∨ p = 3 := by omega
    rcases this with rfl | rfl | rfl | rfl <;> simp
set_option maxRecDepth 100000
theorem try0 : (allL 0).all chkS = true := by decide +kernel
theorem try1 : (allL 1).all chkS = true := by decide +kernel
theorem try2 : (allL 2).all chkS = true := by decide +kernel
theorem try3 : (allL 3).all chkS = true := by decide +kernel
theorem try4 : (allL 4).all chkS = true := by decide +kernel
theorem try5 : (allL 5).all chkS = true := by decide +kernel
theorem try60 : (allL 5).all (fun l => chkS (0 :: l)) = true := by decide +kernel
theorem try61 : (allL 5).all (fun l => chkS (1 :: l)) = true := by decide +kernel
theorem try62 : (allL 5).all (fun l => chkS (2 :: l)) = true := by decide +kernel
theorem try63 : (allL 5).all (fun l => chkS (3 :: l)) = true := by decide +kernel
theorem try_all {pg : List Nat} (hl : pg.length ≤ 6) (hp : ∀ p ∈ pg, p < 4) : chkS pg = true := by
  have hm := mem_allL pg hp
  have h : pg.length = 0 ∨ pg.length = 1 ∨ pg.length = 2 ∨ pg.length = 3 ∨ pg.length = 4 ∨ pg.length = 5 ∨ pg.length = 6 := by omega
  rcases h with h | h | h | h | h | h | h
  · rw [h] at hm; exact List.all_eq_true.1 try0 _ hm
  · rw [h] at hm; exact List.all_eq_true.1 try1 _ hm
  · rw [h] at hm; exact List.all_eq_true.1 try2 _ hm
  · rw [h] at hm; exact List.all_eq_true.1 try3 _ hm
  · rw [h] at hm; exact List.all_eq_true.1 try4 _ hm
  · rw [h] at hm; exact List.all_eq_true.1 try5 _ hm
  · match pg, h, hp with
    | p :: l, h, hp =>
      have h5 : l.length = 5 := by simpa using h
      have hm5 := mem_allL l fun q hq => hp q (List.mem_cons_of_mem _ hq)
      rw [h5] at hm5
      have : p < 4 := hp p (by simp)
      have : p = 0 ∨ p = 1 ∨ p = 2 ∨ p = 3 := by omega
      rcases this with rfl | rfl | rfl | rfl
      · exact List.all_eq_true.1 try60 _ hm5
      · exact List.all_eq_true.1 try61 _ hm5
      · exact List.all_eq_true.1 try62 _ hm5
      · exact List.all_eq_true.1 try63 _ hm5
/-- What TopSpans says. -/
theorem spans_law {pg : List Nat} (hl : pg.length ≤ 6) (hp : ∀ p ∈ pg, p < 4) :
    (spans (up pg)).length ≤ 5 ∧ pg.length ≤ fewF 2 pg 0 + (spans (up pg)).length ∧ (1 ≤ (spans (up pg)).length → Fd (spans (up pg)).length (confP (spans (up pg)))) ∧
    fewF 2 pg 0 + (spans (up pg)).length = pg.length + (shS (spans (up pg)).length (confP (spans (up pg)))).1.length := by
  have h := try_all hl hp
  rw [chkS] at h
  generalize spans (up pg) = l at *
  generalize confP l = P at *
  simp only [Bool.and_eq_true, decide_eq_true_eq, List.all_eq_true, List.any_eq_true, beq_iff_eq, List.mem_range, Bool.or_eq_true, Bool.not_eq_true'] at h
  obtain ⟨⟨⟨⟨⟨⟨h1, h2⟩, h3⟩, h4⟩, h5⟩, s, hs, he, hm⟩, h7⟩ := h
  have h32 : 2 ^ l.length ≤ 2 ^ 5 := Nat.pow_le_pow_right (by omega) h1
  have pok : ∀ s, s < 2 ^ l.length → pop5 s = (lsN s).length := fun s hs => pop_ok ⟨s, by omega⟩
  refine ⟨h1, h2, fun h0 => ⟨h0, by omega, fun r hr => h5 r hr, nd_of h4, h3⟩, ?_⟩
  obtain ⟨-, i2, i3⟩ := sh_inv P (List.range (2 ^ l.length))
  have hd : (List.range (2 ^ l.length)).foldl (shF P) ([], 0) = shS l.length P := rfl
  rw [hd] at i2 i3
  obtain ⟨i4, i5⟩ := i2 s (List.mem_range.2 hs) he
  obtain ⟨t, t1, t2, t3⟩ := i3 i5
  have ht := List.mem_range.1 t1
  have h8 : fewF 2 pg 0 + l.length - pg.length ≤ (lsN t).length := by
    rcases h7 t ht with h9 | h9
    · rw [t2] at h9; cases h9
    · rw [pok t ht] at h9; exact h9
  rw [pok s hs] at hm
  rw [t3] at h8
  omega
end Go.Proofs.YtmmfelpgcdlgfaaDoor

/- Settings, from below. -/
namespace Go.Proofs.YtmmfelpgcdlgfaaDoor
set_option linter.unusedVariables false

/-- Settings if nothing ever goes. -/
def infF : List Nat → Nat → Nat
  | [], _ => 0
  | p :: ps, s => if s.testBit p then infF ps s else 1 + infF ps (s ||| 2 ^ p)
theorem or_bit (s p x : Nat) : (s ||| 2 ^ p).testBit x = (s.testBit x || decide (p = x)) := by
  rw [Nat.testBit_or, Nat.testBit_two_pow]
theorem inf_mono : ∀ (ps : List Nat) (s t : Nat), (∀ x, s.testBit x = true → t.testBit x = true) → infF ps t ≤ infF ps s := by
  intro ps
  induction ps with
  | nil => intro s t _; exact Nat.le_refl _
  | cons p ps ih =>
    intro s t h
    rw [infF, infF]
    by_cases ht : t.testBit p = true
    · rw [if_pos ht]
      by_cases hs : s.testBit p = true
      · rw [if_pos hs]; exact ih s t h
      · rw [if_neg hs]
        refine Nat.le_trans (ih (s ||| 2 ^ p) t fun x hx => ?_) (by omega)
        rw [or_bit, Bool.or_eq_true, decide_eq_true_eq] at hx
        rcases hx with hx | rfl
        · exact h x hx
        · exact ht
    · have hs : ¬ s.testBit p = true := fun hs => ht (h p hs)
      rw [if_neg ht, if_neg hs]
      have := ih (s ||| 2 ^ p) (t ||| 2 ^ p) fun x hx => by
        rw [or_bit, Bool.or_eq_true] at hx ⊢
        exact hx.imp (h x) id
      omega
theorem clr_sub : ∀ s : Fin 64, ∀ g : Fin 6, ∀ x : Fin 7, (clrN s.val g.val).testBit x.val = (s.val.testBit x.val && decide (x.val ≠ g.val)) := by decide +kernel
theorem bit64 {s x : Nat} (h : s < 64) (hx : s.testBit x = true) : x < 6 := bit_lt (n := 6) h hx
theorem clr_bit {s g x : Nat} (hs : s < 64) (hg : g < 6) (h : (clrN s g).testBit x = true) : s.testBit x = true ∧ x ≠ g := by
  obtain ⟨-, hc⟩ := clr_ok ⟨s, hs⟩ ⟨g, hg⟩
  have hx := bit64 hc h
  have := clr_sub ⟨s, hs⟩ ⟨g, hg⟩ ⟨x, by omega⟩
  simp only at this
  rw [this] at h
  simpa using h
theorem min_mem {l : List Nat} (h : l ≠ []) : minL l ∈ l := by
  induction l using snoc_ind with
  | h0 => exact absurd rfl h
  | h1 l a ih =>
    by_cases hl : l = []
    · subst hl; simp [minL]
    · rw [min_snoc hl, List.mem_append]
      have := ih hl
      by_cases hm : minL l ≤ a
      · rw [Nat.min_eq_left hm]; exact .inl this
      · rw [Nat.min_eq_right (by omega)]; simp
theorem ls_add : ∀ s : Fin 64, ∀ p : Fin 6, s.val.testBit p.val = false → (lsN (s.val ||| 2 ^ p.val)).length = (lsN s.val).length + 1 := by decide +kernel
theorem ls_swap : ∀ s : Fin 64, ∀ p : Fin 6, ∀ g : Fin 6, s.val.testBit p.val = false → s.val.testBit g.val = true → (lsN (clrN s.val g.val ||| 2 ^ p.val)).length = (lsN s.val).length := by decide +kernel
/-- One setting more. -/
theorem few_step {room p s : Nat} {ps : List Nat} (hr : 1 ≤ room) (hs : s < 64) (hp : p < 6) (hb : s.testBit p = false) (hc : (lsN s).length ≤ room) :
    ∃ s', fewF room (p :: ps) s = 1 + fewF room ps s' ∧ s' < 64 ∧ (lsN s').length ≤ room ∧ ∀ x, s'.testBit x = true → x = p ∨ s.testBit x = true := by
  rw [fewF, if_neg (by simp [hb])]
  split
  · rename_i hlt
    refine ⟨s ||| 2 ^ p, rfl, with_ok ⟨s, hs⟩ ⟨p, hp⟩, ?_, fun x hx => ?_⟩
    · have := ls_add ⟨s, hs⟩ ⟨p, hp⟩ hb
      simp only at this; omega
    · rw [or_bit, Bool.or_eq_true, decide_eq_true_eq] at hx
      rcases hx with hx | rfl
      · exact .inr hx
      · exact .inl rfl
  · rename_i hge
    have hne : (lsN s).map (fun g => 1 + fewF room ps (clrN s g ||| 2 ^ p)) ≠ [] := by
      intro h
      have := congrArg List.length h
      rw [List.length_map, List.length_nil] at this
      omega
    obtain ⟨g, hg, he⟩ := List.mem_map.1 (min_mem hne)
    have hgm := ls_mem.1 hg
    have hg6 := bit64 hs hgm.2
    obtain ⟨-, hcl⟩ := clr_ok ⟨s, hs⟩ ⟨g, hg6⟩
    refine ⟨clrN s g ||| 2 ^ p, he.symm, with_ok ⟨clrN s g, hcl⟩ ⟨p, hp⟩, ?_, fun x hx => ?_⟩
    · have := ls_swap ⟨s, hs⟩ ⟨p, hp⟩ ⟨g, hg6⟩ hb hgm.2
      simp only at this; omega
    · rw [or_bit, Bool.or_eq_true, decide_eq_true_eq] at hx
      rcases hx with hx | rfl
      · exact .inr (clr_bit hs hg6 hx).1
      · exact .inl rfl
theorem few_in {room p s : Nat} {ps : List Nat} (hb : s.testBit p = true) : fewF room (p :: ps) s = fewF room ps s := by rw [fewF, if_pos hb]
/-- At least as many as different pages. -/
theorem few_ge {room : Nat} (hr : 1 ≤ room) : ∀ (ps : List Nat) (s : Nat), (∀ p ∈ ps, p < 6) → s < 64 → (lsN s).length ≤ room → infF ps s ≤ fewF room ps s := by
  intro ps
  induction ps with
  | nil => intro s _ _ _; simp [infF]
  | cons p ps ih =>
    intro s hp hs hc
    have hp' := fun q hq => hp q (List.mem_cons_of_mem _ hq)
    rw [infF]
    cases hb : s.testBit p
    · obtain ⟨s', e1, e2, e3, e4⟩ := few_step (ps := ps) hr hs (hp p (by simp)) hb hc
      rw [e1]
      simp only [Bool.false_eq_true, if_false]
      have h1 := ih s' hp' e2 e3
      have h2 := inf_mono ps s' (s ||| 2 ^ p) fun x hx => by
        rw [or_bit, Bool.or_eq_true, decide_eq_true_eq]
        rcases e4 x hx with rfl | h
        · exact .inr rfl
        · exact .inl h
      omega
    · rw [few_in hb]
      simp only [if_true]
      exact ih s hp' hs hc
theorem room_ok : ∀ k : Fin 7, ∀ s : Fin 64, ∀ p : Fin 6, s.val < 2 ^ k.val → p.val < k.val → s.val.testBit p.val = false → (lsN s.val).length < k.val := by decide +kernel
/-- With room for all. -/
theorem few_all {k : Nat} (hk : k ≤ 6) : ∀ (ps : List Nat) (s : Nat), (∀ p ∈ ps, p < k) → s < 2 ^ k → fewF k ps s = infF ps s := by
  intro ps
  induction ps with
  | nil => intro s _ _; rfl
  | cons p ps ih =>
    intro s hp hs
    have hp' := fun q hq => hp q (List.mem_cons_of_mem _ hq)
    have hpk := hp p (by simp)
    have h2 : 2 ^ k ≤ 2 ^ 6 := Nat.pow_le_pow_right (by omega) hk
    rw [infF, fewF]
    cases hb : s.testBit p
    · simp only [Bool.false_eq_true, if_false]
      have := room_ok ⟨k, by omega⟩ ⟨s, by omega⟩ ⟨p, by omega⟩ hs hpk hb
      simp only at this
      rw [if_pos this, ih (s ||| 2 ^ p) hp' (Nat.or_lt_two_pow hs (Nat.pow_lt_pow_right (by omega) hpk))]
    · simp only [if_true]
      exact ih s hp' hs
/-- Different pages are counted. -/
def dcF (st : Nat × Nat) (p : Nat) : Nat × Nat := if st.1.testBit p then st else (st.1 ||| 2 ^ p, st.2 + 1)
theorem dc_inf : ∀ (ps : List Nat) (s m : Nat), (ps.foldl dcF (s, m)).2 = m + infF ps s := by
  intro ps
  induction ps with
  | nil => intro s m; rfl
  | cons p ps ih =>
    intro s m
    rw [List.foldl_cons, infF, dcF]
    cases hb : s.testBit p
    · simp only [Bool.false_eq_true, if_false]
      rw [ih]; omega
    · simp only [if_true]
      exact ih s m
/-- How many arches. -/
def arcC (k : Nat) : List Nat → List Nat → Nat
  | _, [] => 0
  | met, p :: ps => if (addM met p).length = k then 1 + arcC k [] ps else arcC k (addM met p) ps
theorem addM_map (met : List Nat) (p : Nat) : addM (met.map (97 + ·)) (97 + p) = (addM met p).map (97 + ·) := by
  unfold addM
  have : 97 + p ∈ met.map (97 + ·) ↔ p ∈ met := by
    rw [List.mem_map]
    constructor
    · rintro ⟨a, h1, h2⟩
      have : a = p := by omega
      exact this ▸ h1
    · exact fun h => ⟨p, h, rfl⟩
  by_cases h : p ∈ met
  · rw [if_pos h, if_pos (this.2 h)]
  · rw [if_neg h, if_neg fun h2 => h (this.1 h2)]; simp
theorem arc_len (k : Nat) : ∀ (ps met : List Nat) (pos : Nat), (arcS (k : Int) pos (met.map (97 + ·)) (ps.map (97 + ·))).length = arcC k met ps := by
  intro ps
  induction ps with
  | nil => intro met pos; rfl
  | cons p ps ih =>
    intro met pos
    rw [List.map_cons, arcS, arcC, addM_map, List.length_map]
    by_cases h : (addM met p).length = k
    · rw [if_pos (by omega), if_pos h, List.length_cons]
      have := ih [] (pos + 1)
      rw [List.map_nil] at this
      rw [this]; omega
    · rw [if_neg (by omega), if_neg h]
      exact ih _ _
theorem arc_le (k : Nat) : ∀ (ps met : List Nat), arcC k met ps ≤ ps.length := by
  intro ps
  induction ps with
  | nil => intro met; exact Nat.le_refl _
  | cons p ps ih =>
    intro met
    rw [arcC, List.length_cons]
    split
    · have := ih []; omega
    · have := ih (addM met p); omega
theorem sub_len : ∀ (a b : List Nat), a.Nodup → (∀ x ∈ a, x ∈ b) → a.length ≤ b.length := by
  intro a
  induction a with
  | nil => intro b _ _; simp
  | cons x a ih =>
    intro b hn hs
    rw [List.nodup_cons] at hn
    have hx := hs x (by simp)
    have h1 := ih (b.erase x) hn.2 fun y hy => by
      have hne : y ≠ x := fun h => hn.1 (h ▸ hy)
      exact (List.mem_erase_of_ne hne).2 (hs y (List.mem_cons_of_mem _ hy))
    rw [List.length_erase_of_mem hx] at h1
    have := List.length_pos_of_mem hx
    rw [List.length_cons]
    omega
theorem addM_mem {met : List Nat} {p x : Nat} : x ∈ addM met p ↔ x ∈ met ∨ x = p := by
  unfold addM
  split
  · rename_i h
    constructor
    · exact .inl
    · rintro (h2 | rfl)
      · exact h2
      · exact h
  · simp
theorem addM_nodup {met : List Nat} {p : Nat} (h : met.Nodup) : (addM met p).Nodup := by
  unfold addM
  split
  · exact h
  · rename_i hn
    rw [List.nodup_append]
    exact ⟨h, by simp, fun a ha b hb => by simp at hb; subst hb; exact fun e => hn (e ▸ ha)⟩
/-- Each arch has a setting. -/
theorem arc_few {k : Nat} (hk : 2 ≤ k) : ∀ (ps met : List Nat) (s : Nat), (∀ p ∈ ps, p < 6) → met.Nodup → s < 64 → (lsN s).length ≤ k - 1 →
    ((∀ x ∈ met, s.testBit x = true) → arcC k met ps ≤ fewF (k - 1) ps s) ∧ arcC k met ps ≤ fewF (k - 1) ps s + 1 := by
  intro ps
  induction ps with
  | nil => intro met s _ _ _ _; simp [arcC]
  | cons p ps ih =>
    intro met s hp hn hs hc
    have hp' := fun q hq => hp q (List.mem_cons_of_mem _ hq)
    have hpp := hp p (by simp)
    have hn' := addM_nodup (p := p) hn
    rw [arcC]
    cases hb : s.testBit p
    · obtain ⟨s', e1, e2, e3, e4⟩ := few_step (ps := ps) (room := k - 1) (by omega) hs hpp hb hc
      rw [e1]
      have i0 := (ih [] s' hp' List.nodup_nil e2 e3).1 (by simp)
      have i1 := (ih (addM met p) s' hp' hn' e2 e3).2
      constructor
      · intro _; split <;> omega
      · split <;> omega
    · rw [few_in hb]
      have i0 := ih [] s hp' List.nodup_nil hs hc
      have i1 := ih (addM met p) s hp' hn' hs hc
      have i0a := i0.1 (by simp)
      constructor
      · intro hm
        have hsub : ∀ x ∈ addM met p, s.testBit x = true := fun x hx => by
          rcases addM_mem.1 hx with h | rfl
          · exact hm x h
          · exact hb
        have hlen := sub_len (addM met p) (lsN s) hn' fun x hx => by
          have := bit64 hs (hsub x hx)
          exact ls_mem.2 ⟨by omega, hsub x hx⟩
        rw [if_neg (by omega)]
        exact i1.1 hsub
      · split
        · omega
        · exact i1.2
/-- From the begin. -/
theorem arc_all {k : Nat} (hk : 2 ≤ k) : ∀ (ps met : List Nat) (s : Nat), (∀ p ∈ ps, p < 6) → met.Nodup → met.length < k → s < 64 → (lsN s).length ≤ k - 1 → (∀ x, s.testBit x = true → x ∈ met) →
    1 ≤ arcC k met ps → k + arcC k met ps ≤ fewF (k - 1) ps s + 1 + met.length := by
  intro ps
  induction ps with
  | nil => intro met s _ _ _ _ _ _ h; simp [arcC] at h
  | cons p ps ih =>
    intro met s hp hn hl hs hc hm h1
    have hp' := fun q hq => hp q (List.mem_cons_of_mem _ hq)
    have hpp := hp p (by simp)
    have hn' := addM_nodup (p := p) hn
    rw [arcC] at h1 ⊢
    by_cases hpm : p ∈ met
    · have ha : addM met p = met := by unfold addM; rw [if_pos hpm]
      rw [ha, if_neg (by omega)] at h1 ⊢
      cases hb : s.testBit p
      · obtain ⟨s', e1, e2, e3, e4⟩ := few_step (ps := ps) (room := k - 1) (by omega) hs hpp hb hc
        rw [e1]
        have := ih met s' hp' hn hl e2 e3 (fun x hx => by
          rcases e4 x hx with rfl | h
          · exact hpm
          · exact hm x h) h1
        omega
      · rw [few_in hb]
        exact ih met s hp' hn hl hs hc hm h1
    · have hb : s.testBit p = false := by
        cases h : s.testBit p
        · rfl
        · exact absurd (hm p h) hpm
      have hal : (addM met p).length = met.length + 1 := by unfold addM; rw [if_neg hpm]; simp
      obtain ⟨s', e1, e2, e3, e4⟩ := few_step (ps := ps) (room := k - 1) (by omega) hs hpp hb hc
      rw [e1]
      by_cases hk2 : (addM met p).length = k
      · rw [if_pos hk2]
        have := (arc_few hk ps [] s' hp' List.nodup_nil e2 e3).1 (by simp)
        omega
      · rw [if_neg hk2] at h1 ⊢
        have := ih (addM met p) s' hp' hn' (by omega) e2 e3 (fun x hx => by
          rcases e4 x hx with rfl | h
          · exact addM_mem.2 (.inr rfl)
          · exact addM_mem.2 (.inl (hm x h))) h1
        omega
/-- What TopArches says. -/
theorem arches_law {k : Nat} (hk : 2 ≤ k) (hk5 : k ≤ 5) {pg : List Nat} (hp : ∀ p ∈ pg, p < k) : fewF k pg 0 = (pg.foldl dcF (0, 0)).2 ∧ (arcS (k : Int) 0 [] (pg.map (97 + ·))).length ≤ pg.length ∧
    ((arcS (k : Int) 0 [] (pg.map (97 + ·))).length = 0 ∨ k - 1 + (arcS (k : Int) 0 [] (pg.map (97 + ·))).length ≤ fewF (k - 1) pg 0) ∧ (pg.foldl dcF (0, 0)).2 ≤ fewF (k - 1) pg 0 := by
  have hal : (arcS (k : Int) 0 [] (pg.map (97 + ·))).length = arcC k [] pg := arc_len k pg [] 0
  have hp6 : ∀ p ∈ pg, p < 6 := fun p h => by have := hp p h; omega
  have h0 : (lsN 0).length = 0 := by decide
  rw [hal, dc_inf]
  refine ⟨?_, arc_le k pg [], ?_, ?_⟩
  · rw [few_all (by omega) pg 0 hp (Nat.two_pow_pos k)]; omega
  · by_cases h : arcC k [] pg = 0
    · exact .inl h
    · right
      have := arc_all hk pg [] 0 hp6 List.nodup_nil (by simp; omega) (by omega) (by omega) (by simp) (by omega)
      simp at this
      omega
  · have := few_ge (room := k - 1) (by omega) pg 0 hp6 (by omega) (by omega)
    omega
end Go.Proofs.YtmmfelpgcdlgfaaDoor

namespace Go.Proofs.YtmmfelpgcdlgfaaDoor
open Go.Av
set_option linter.unusedVariables false
set_option linter.unusedSimpArgs false
set_option maxRecDepth 8000

/-- short.Arches of a word in order -/
theorem c16 {l : List Nat} {k : Nat} {H : Heap} {K : AV → Heap → Prop} (hl : asc l) (hll : l.length < 1000000) (h0 : letE l (k : Int) = 0) (hk : K (.tup [sl (arcS (k : Int) 0 [] l), .int .i64 0]) H) : ACalls Tryd.prog 16 [st l, .int .i64 (k : Int)] H K := by
  apply W16_ok
  unfold W16
  have e0 : ((0 : Int) != 0) = false := rfl
  try simp only [letO_some, cellsOf?_agg, cellsOf?_int, cellsOf?_bool, cellsOf?_imm, cellsOf?_ref, cellsOf?_nils, faddr_iptr, faddr_ptr, List.drop_succ_cons, List.drop_zero, List.take_succ_cons, List.take_zero, load1_iptr, loadN_iptr, List.length_cons, List.length_nil, Nat.le_refl, if_true, List.getElem?_cons_zero, List.getElem?_cons_succ, List.getD_cons_zero, List.getD_cons_succ, extrF_tup, binF_add, binF_sub, binF_mul, binF_eql, binF_neq, binF_lss, binF_leq, binF_gtr, binF_geq, true_and]
  refine c41 hl ?_
  rw [h0]
  simp only [letO_some, cellsOf?_agg, cellsOf?_int, cellsOf?_bool, cellsOf?_imm, cellsOf?_ref, cellsOf?_nils, faddr_iptr, faddr_ptr, List.drop_succ_cons, List.drop_zero, List.take_succ_cons, List.take_zero, load1_iptr, loadN_iptr, List.length_cons, List.length_nil, Nat.le_refl, if_true, List.getElem?_cons_zero, List.getElem?_cons_succ, List.getD_cons_zero, List.getD_cons_succ, extrF_tup, binF_add, binF_sub, binF_mul, binF_eql, binF_neq, binF_lss, binF_leq, binF_gtr, binF_geq, true_and, e0, condA_ff]
  refine c42 hl hll ?_
  try simp only [letO_some, cellsOf?_agg, cellsOf?_int, cellsOf?_bool, cellsOf?_imm, cellsOf?_ref, cellsOf?_nils, faddr_iptr, faddr_ptr, List.drop_succ_cons, List.drop_zero, List.take_succ_cons, List.take_zero, load1_iptr, loadN_iptr, List.length_cons, List.length_nil, Nat.le_refl, if_true, List.getElem?_cons_zero, List.getElem?_cons_succ, List.getD_cons_zero, List.getD_cons_succ, extrF_tup, binF_add, binF_sub, binF_mul, binF_eql, binF_neq, binF_lss, binF_leq, binF_gtr, binF_geq, true_and]
  exact endK_ret hk
theorem bs_append (l m : List Nat) : bs l ++ bs m = bs (l ++ m) := by
  apply ByteArray.ext
  simp [bs, ByteArray.data_append]
theorem st_add {t : TypeId} {l m : List Nat} (h : l.length + m.length < 1000) : binF Tryd.prog .add t (st l) (st m) = some (st (l ++ m)) := by
  show (if (bs l).size + (bs m).size ≤ 9223372036854775807 then some (AV.str (bs l ++ bs m)) else none) = _
  rw [bs_size, bs_size, if_pos (by omega), bs_append]; rfl
theorem abc_cut : ∀ p : Fin 5, (bs [97, 98, 99, 100, 101]).extract p.val (p.val + 1) = bs [97 + p.val] := by decide
theorem abc_slc {p : Nat} (h : p < 5) : slcS (.str (ByteArray.mk #[97, 98, 99, 100, 101])) (some (.int .i64 (p : Int))) (some (.int .i64 ((p + 1 : Nat) : Int))) none = some (st [97 + p]) := by
  have n1 : ∀ d, natOf (some (.int .i64 (p : Int))) d = some p := fun d => by simp [natOf]
  have n2 : ∀ d, natOf (some (.int .i64 ((p + 1 : Nat) : Int))) d = some (p + 1) := fun d => by simp only [natOf]; rw [if_pos (by omega)]; simp
  have hb : ByteArray.mk #[97, 98, 99, 100, 101] = bs [97, 98, 99, 100, 101] := rfl
  simp only [slcS, n1, n2, Option.bind_some]
  rw [hb, bs_size, if_pos ⟨by omega, by simp; omega⟩]
  have := abc_cut ⟨p, h⟩
  simp only at this
  rw [this]; rfl
def metC (s : Nat) : List AV := (List.range 5).map fun x => .bool (s.testBit x)
theorem metC_len (s : Nat) : (metC s).length = 5 := by simp [metC]
theorem metC_get (s : Nat) {x : Nat} (h : x < 5) : (metC s)[x]? = some (.bool (s.testBit x)) := by simp [metC, h]
theorem metC_set (s : Nat) {p : Nat} (h : p < 5) : splice (metC s) p [.bool true] = metC (s ||| 2 ^ p) := by
  have e : splice (metC s) p [.bool true] = (metC s).set p (.bool true) := splice_set (by rw [metC_len]; exact h)
  rw [e]
  apply List.ext_getElem?
  intro i
  rw [List.getElem?_set]
  by_cases hi : i < 5
  · by_cases hx : p = i
    · subst hx; simp [metC, hi]
    · simp [metC, hi, hx]
  · have : ¬ p = i := by omega
    simp [metC, this, hi]
def u8a (a : List Nat) : List AV := a.map fun (x : Nat) => .int .u8 (x : Int)
theorem u8a_len (a : List Nat) : (u8a a).length = a.length := by simp [u8a]
/-- TopArches -/
theorem c4 {x y : Nat} {a : List Nat} {H : Heap} {K : AV → Heap → Prop} (hx : x < 256) (hy : y < 256) (ha : a.length = 10) (ha2 : ∀ x ∈ a, x < 256) (hk : K (.bool true) H) :
    ACalls Tryd.prog 4 [.int .u8 (x : Int), .int .u8 (y : Int), .agg (u8a a)] H K := by
  apply W4_ok
  unfold W4
  have hm4 : x % 4 < 4 := Nat.mod_lt _ (by omega)
  have hm11 : y % 11 < 11 := Nat.mod_lt _ (by omega)
  have hadd : IntKind.i64.wrap (2 + ((x % 4 : Nat) : Int)) = ((2 + x % 4 : Nat) : Int) := by rw [wrap_i64 (by omega) (by omega)]; omega
  have hrem : binF Tryd.prog .rem 3 (.int .i64 (x : Int)) (.int .i64 4) = some (.int .i64 ((x % 4 : Nat) : Int)) := rem_nat (b := 4) (by omega)
  have hrem2 : binF Tryd.prog .rem 3 (.int .i64 (y : Int)) (.int .i64 11) = some (.int .i64 ((y % 11 : Nat) : Int)) := rem_nat (b := 11) (by omega)
  have hc1 : cellsOf? (.agg (u8a a)) = some (u8a a) := rfl
  simp only [letO_some, cellsOf?_agg, cellsOf?_int, cellsOf?_bool, cellsOf?_imm, cellsOf?_ref, cellsOf?_nils, faddr_iptr, faddr_ptr, List.drop_succ_cons, List.drop_zero, List.take_succ_cons, List.take_zero, load1_iptr, loadN_iptr, List.length_cons, List.length_nil, Nat.le_refl, if_true, List.getElem?_cons_zero, List.getElem?_cons_succ, List.getD_cons_zero, List.getD_cons_succ, extrF_tup, binF_add, binF_sub, binF_mul, binF_eql, binF_neq, binF_lss, binF_leq, binF_gtr, binF_geq, true_and, conv53 (n := (x : Int)) (by omega), conv53 (n := (y : Int)) (by omega), hrem, hadd, hc1]
  generalize hkk : 2 + x % 4 = k at *
  have hk2 : 2 ≤ k := by omega
  have hk5 : k ≤ 5 := by omega
  have wsub : IntKind.i64.wrap ((k : Int) - 1) = ((k - 1 : Nat) : Int) := by rw [wrap_i64 (by omega) (by omega)]; omega
  simp only [wsub, b47n (x := .int .i64 ((k - 1 : Nat) : Int)) rfl, letO_some]
  refine alloc_store (cs := [.int .i64 ((k - 1 : Nat) : Int), .nils]) rfl rfl rfl rfl fun b9 hb9 => ?_
  have hle9 := Heap.le_new (c := [.int .i64 ((k - 1 : Nat) : Int), .nils]) hb9
  have h9 : (H.put b9 [.int .i64 ((k - 1 : Nat) : Int), .nils]) b9 = some [.int .i64 ((k - 1 : Nat) : Int), .nils] := Heap.put_same
  generalize H.put b9 [.int .i64 ((k - 1 : Nat) : Int), .nils] = H9 at *
  refine alloc_ fun b10 hb10 => ?_
  have hz : [AV.bool false, .bool false, .bool false, .bool false, .bool false] = metC 0 := rfl
  rw [hz]
  have hle10 := Heap.le_new (c := metC 0) hb10
  have h10 : (H9.put b10 (metC 0)) b10 = some (metC 0) := Heap.put_same
  have h910 := hle10 _ _ h9
  have hb10H := none_of_le hle9 hb10
  have hne : b9 ≠ b10 := by rintro rfl; rw [h9] at hb10; cases hb10
  have hleH := Heap.le_trans hle9 hle10
  generalize H9.put b10 (metC 0) = H10 at *
  generalize hmm : y % 11 = m at *
  have hsl : slcArr 10 1 (.iptr (u8a a)) none (some (.int .i64 (m : Int))) none = some (.imm m (m == 10) ((u8a a).take m)) := by
    have n1 : ∀ d, natOf none d = some d := fun d => rfl
    have n2 : ∀ d, natOf (some (.int .i64 (m : Int))) d = some m := fun d => by simp [natOf]
    simp only [slcArr, n1, n2, Option.bind_some]
    rw [if_pos ⟨by omega, by omega⟩]
    simp
  have hln : lenA (.imm m (m == 10) ((u8a a).take m)) = some (.int .i64 m) := rfl
  have hrd : ∀ H', ReadsC 1 H' (.imm m (m == 10) ((u8a a).take m)) m ((u8a a).take m) := fun H' => ⟨by rw [List.length_take, u8a_len]; omega, rfl, rfl⟩
  simp only [hrem2, hsl, hln, letO_some, true_and]
  have hst0 : AV.str (ByteArray.mk #[]) = st [] := rfl
  rw [hst0]
  have hkl : ∀ i, ((a.take i).map (· % k)).length ≤ 10 := fun i => by rw [List.length_map, List.length_take]; omega
  have hkp : ∀ i, ∀ p ∈ (a.take i).map (· % k), p < k := fun i p hp => by
    obtain ⟨q, _, rfl⟩ := List.mem_map.1 hp
    exact Nat.mod_lt _ (by omega)
  refine ⟨fun L H' => ∃ (i : Nat) (X : AV) (Hg : Heap), eqt L [st (((a.take i).map (· % k)).map (97 + ·)), .int .i64 ((((a.take i).map (· % k)).foldl dcF (0, 0)).2 : Nat), .int .i64 (i : Int)] ∧ i ≤ m ∧
      Grow 1 Hg H' X ((a.take i).map (· % k)).length (ints (up ((a.take i).map (· % k)))) ∧ Hg b9 = some [.int .i64 ((k - 1 : Nat) : Int), X] ∧ Hg b10 = some (metC (((a.take i).map (· % k)).foldl dcF (0, 0)).1) ∧ H.le Hg,
    fun L _ => (m - iv L 2).toNat, ⟨0, .nils, H10, rfl, by omega, Grow.nils 1 H10, h910, h10, hleH⟩, ?_⟩
  rintro L H1 ⟨i, X, Hg, rfl, hi, hg, g9, g10, hle⟩
  have hdc2 : (((a.take i).map (· % k)).foldl dcF (0, 0)).2 ≤ 10 := by
    rw [dc_inf]
    have h1 := few_ge (room := 6) (by omega) ((a.take i).map (· % k)) 0 (fun p hp => by have := hkp i p hp; omega) (by omega) (by decide)
    have h2 := fewF_le 6 ((a.take i).map (· % k)) 0
    have h3 := hkl i
    omega
  try simp only [letO_some, cellsOf?_agg, cellsOf?_int, cellsOf?_bool, cellsOf?_imm, cellsOf?_ref, cellsOf?_nils, faddr_iptr, faddr_ptr, List.drop_succ_cons, List.drop_zero, List.take_succ_cons, List.take_zero, load1_iptr, loadN_iptr, List.length_cons, List.length_nil, Nat.le_refl, if_true, List.getElem?_cons_zero, List.getElem?_cons_succ, List.getD_cons_zero, List.getD_cons_succ, extrF_tup, binF_add, binF_sub, binF_mul, binF_eql, binF_neq, binF_lss, binF_leq, binF_gtr, binF_geq, true_and]
  refine condA_t (fun hlt => ?_) (fun hge => ?_)
  · have a1 : i < a.length := by omega
    have htk : (a.take (i + 1)).map (· % k) = (a.take i).map (· % k) ++ [a[i] % k] := by
      rw [List.take_add_one, List.getElem?_eq_getElem a1, Option.toList_some, List.map_append]; rfl
    refine ⟨fun L H' => ∃ (X : AV) (Hg : Heap), eqt L [st (((a.take (i + 1)).map (· % k)).map (97 + ·)), .int .i64 ((((a.take (i + 1)).map (· % k)).foldl dcF (0, 0)).2 : Nat)] ∧
      Grow 1 Hg H' X ((a.take (i + 1)).map (· % k)).length (ints (up ((a.take (i + 1)).map (· % k)))) ∧ Hg b9 = some [.int .i64 ((k - 1 : Nat) : Int), X] ∧ Hg b10 = some (metC (((a.take (i + 1)).map (· % k)).foldl dcF (0, 0)).1) ∧ H.le Hg, ?_, ?_⟩
    · refine ReadsC.get (Heap.le_refl _) (hrd H1) (x := .int .u8 (a[i] : Int)) (by omega) (by omega) (by rw [Int.toNat_natCast, List.getElem?_take_of_lt (by omega)]; simp [u8a, a1]) ?_
      rw [htk]
      have hai := ha2 _ (List.getElem_mem a1)
      have hkl := hkl i
      generalize (a.take i).map (· % k) = pg at *
      generalize a[i] = z at *
      have hpk : z % k < k := Nat.mod_lt _ (by omega)
      have wp1 : IntKind.i64.wrap (((z % k : Nat) : Int) + 1) = ((z % k + 1 : Nat) : Int) := by rw [wrap_i64 (by omega) (by omega)]; omega
      simp only [letO_some, conv53 (n := (z : Int)) (by omega), rem_nat (show 0 < k by omega), binF_add, wp1]
      generalize z % k = p at *
      have f9 : faddr 1 (.ptr b9 0) = some (.ptr b9 1) := rfl
      have hsa := st_add (t := 9) (l := pg.map (97 + ·)) (m := [97 + p]) (by simp; omega)
      have lX : load1 (.ptr b9 1) H1 = some X := load1_at (hg.le _ _ g9) rfl
      simp only [abc_slc (show p < 5 by omega), letO_some, hsa, f9, lX, l35 cellsOf?_int]
      refine appendA_oneR hg (by omega) fun v' H7 hg7 ho7 => ?_
      try simp only [f9, letO_some]
      refine storeA_of (cs := [v']) (hg7.le _ _ g9) hg7.cells (by simp [hg7.scalar]) rfl (by simp) ?_
      have hsp : splice [.int .i64 ((k - 1 : Nat) : Int), X] 1 [v'] = [.int .i64 ((k - 1 : Nat) : Int), v'] := rfl
      rw [hsp]
      have hg8 := hg7.put g9 (y := [.int .i64 ((k - 1 : Nat) : Int), v'])
      have g98 : (Hg.put b9 [.int .i64 ((k - 1 : Nat) : Int), v']) b9 = some [.int .i64 ((k - 1 : Nat) : Int), v'] := Heap.put_same
      have g108 : (Hg.put b9 [.int .i64 ((k - 1 : Nat) : Int), v']) b10 = _ := (Heap.put_ne (Ne.symm hne)).trans g10
      have hle8 : H.le (Hg.put b9 [.int .i64 ((k - 1 : Nat) : Int), v']) := Heap.le_put hle hb9
      generalize Hg.put b9 [.int .i64 ((k - 1 : Nat) : Int), v'] = Hg8 at *
      generalize H7.put b9 [.int .i64 ((k - 1 : Nat) : Int), v'] = H8 at *
      have x10 : idxArr 5 1 (.ptr b10 0) (.int .i64 (p : Int)) = some (.ptr b10 p) := by
        simp only [idxArr]; rw [if_pos (by omega)]; simp
      have hfold : (pg ++ [p]).foldl dcF (0, 0) = dcF (pg.foldl dcF (0, 0)) p := by rw [List.foldl_append]; rfl
      have hup : up (pg ++ [p]) = up pg ++ [(p : Int)] := by simp [up]
      have hmp : (pg ++ [p]).map (97 + ·) = pg.map (97 + ·) ++ [97 + p] := by simp
      rw [hfold, hup, hmp, List.length_append]
      generalize pg.foldl dcF (0, 0) = stt at *
      obtain ⟨s, mn⟩ := stt
      simp only at g108 hdc2
      have l10 : load1 (.ptr b10 p) H8 = some (.bool (s.testBit p)) := load1_at (hg8.le _ _ g108) (metC_get s (by omega))
      simp only [x10, l10, letO_some, not_v, dcF]
      cases hb : s.testBit p
      · simp only [Bool.not_false, condA_tt, letO_some, x10, Bool.false_eq_true, if_false]
        refine storeA_of (cs := [.bool true]) (hg8.le _ _ g108) rfl rfl rfl (by rw [metC_len]; simp; omega) ?_
        rw [metC_set s (by omega)]
        try simp only [letO_some, binF_add]
        rw [wrap_i64 (by omega) (by omega)]
        exact ⟨v', Hg8.put b10 (metC (s ||| 2 ^ p)), rfl, hg8.put g108, by rw [Heap.put_ne hne]; exact g98, Heap.put_same, Heap.le_put hle8 hb10H⟩
      · simp only [Bool.not_true, condA_ff, if_true]
        exact ⟨v', Hg8, rfl, hg8, g98, g108, hle8⟩
    · rintro L H2 ⟨X', Hg', rfl, hg', g9', g10', hle'⟩
      try simp only [letO_some, cellsOf?_agg, cellsOf?_int, cellsOf?_bool, cellsOf?_imm, cellsOf?_ref, cellsOf?_nils, faddr_iptr, faddr_ptr, List.drop_succ_cons, List.drop_zero, List.take_succ_cons, List.take_zero, load1_iptr, loadN_iptr, List.length_cons, List.length_nil, Nat.le_refl, if_true, List.getElem?_cons_zero, List.getElem?_cons_succ, List.getD_cons_zero, List.getD_cons_succ, extrF_tup, binF_add, binF_sub, binF_mul, binF_eql, binF_neq, binF_lss, binF_leq, binF_gtr, binF_geq, true_and]
      rw [wrap_i64 (by omega) (by omega)]
      exact ⟨⟨i + 1, X', Hg', rfl, by omega, hg', g9', g10', hle'⟩, by simp [iv]; omega⟩
  · have hie : i = m := by omega
    subst hie
    have hkl := hkl i
    have hkp := hkp i
    obtain ⟨q1, q2, q3, q4⟩ := arches_law hk2 hk5 hkp
    generalize (a.take i).map (· % k) = pg at *
    have hasc : asc (pg.map (97 + ·)) := fun x hx => by
      obtain ⟨p, hp, rfl⟩ := List.mem_map.1 hx
      have := hkp p hp; omega
    have hwl : (pg.map (97 + ·)).length = pg.length := List.length_map _
    have hwE : wordE (pg.map (97 + ·)) = 0 := by
      unfold wordE
      rw [hwl, if_neg (by omega), if_pos]
      rw [List.all_eq_true]
      intro x hx
      obtain ⟨p, hp, rfl⟩ := List.mem_map.1 hx
      have := hkp p hp
      simp; omega
    have hlE : letE (pg.map (97 + ·)) (k : Int) = 0 := by
      unfold letE
      rw [hwE, if_neg (by simp), if_neg (by omega), if_pos]
      rw [List.all_eq_true]
      intro x hx
      obtain ⟨p, hp, rfl⟩ := List.mem_map.1 hx
      have := hkp p hp
      simp only [decide_eq_true_eq]
      omega
    have e0 : ((0 : Int) != 0) = false := rfl
    refine c16 hasc (by rw [hwl]; omega) hlE ?_
    have hp6 : ∀ p ∈ pg, p < 6 := fun p hp => by have := hkp p hp; omega
    have l9 : loadN 2 (.ptr b9 0) H1 = some (.agg [.int .i64 ((k - 1 : Nat) : Int), X]) := loadN_at (cells := [.int .i64 ((k - 1 : Nat) : Int), X]) (hg.le _ _ g9)
    have f9 : faddr 0 (.ptr b9 0) = some (.ptr b9 0) := rfl
    simp only [letO_some, cellsOf?_agg, cellsOf?_int, cellsOf?_bool, cellsOf?_imm, cellsOf?_ref, cellsOf?_nils, faddr_iptr, faddr_ptr, List.drop_succ_cons, List.drop_zero, List.take_succ_cons, List.take_zero, load1_iptr, loadN_iptr, List.length_cons, List.length_nil, Nat.le_refl, if_true, List.getElem?_cons_zero, List.getElem?_cons_succ, List.getD_cons_zero, List.getD_cons_succ, extrF_tup, binF_add, binF_sub, binF_mul, binF_eql, binF_neq, binF_lss, binF_leq, binF_gtr, binF_geq, true_and, l9, f9]
    refine c17 (by omega) (by omega) hg.reads (by omega) hp6 ?_
    simp only [letO_some, cellsOf?_agg, cellsOf?_int, cellsOf?_bool, cellsOf?_imm, cellsOf?_ref, cellsOf?_nils, faddr_iptr, faddr_ptr, List.drop_succ_cons, List.drop_zero, List.take_succ_cons, List.take_zero, load1_iptr, loadN_iptr, List.length_cons, List.length_nil, Nat.le_refl, if_true, List.getElem?_cons_zero, List.getElem?_cons_succ, List.getD_cons_zero, List.getD_cons_succ, extrF_tup, binF_add, binF_sub, binF_mul, binF_eql, binF_neq, binF_lss, binF_leq, binF_gtr, binF_geq, true_and, f9]
    refine storeA_of (cs := [.int .i64 (k : Int)]) (hg.le _ _ g9) rfl rfl rfl (by simp) ?_
    have hsp : splice [.int .i64 ((k - 1 : Nat) : Int), X] 0 [.int .i64 (k : Int)] = [.int .i64 (k : Int), X] := rfl
    rw [hsp]
    have hg2 := hg.put g9 (y := [.int .i64 (k : Int), X])
    have hle2 : H.le (H1.put b9 [.int .i64 (k : Int), X]) := Heap.le_put (Heap.le_trans hle hg.le) hb9
    have l9 : loadN 2 (.ptr b9 0) (H1.put b9 [.int .i64 (k : Int), X]) = some (.agg [.int .i64 (k : Int), X]) := loadN_at (cells := [.int .i64 (k : Int), X]) Heap.put_same
    simp only [letO_some, cellsOf?_agg, cellsOf?_int, cellsOf?_bool, cellsOf?_imm, cellsOf?_ref, cellsOf?_nils, faddr_iptr, faddr_ptr, List.drop_succ_cons, List.drop_zero, List.take_succ_cons, List.take_zero, load1_iptr, loadN_iptr, List.length_cons, List.length_nil, Nat.le_refl, if_true, List.getElem?_cons_zero, List.getElem?_cons_succ, List.getD_cons_zero, List.getD_cons_succ, extrF_tup, binF_add, binF_sub, binF_mul, binF_eql, binF_neq, binF_lss, binF_leq, binF_gtr, binF_geq, true_and, l9]
    refine c17 (by omega) (by omega) hg2.reads (by omega) hp6 ?_
    have hls := st_len (pg.map (97 + ·))
    rw [hwl] at hls
    have hla : ∀ l : List Int, lenA (sl l) = some (.int .i64 (l.length : Int)) := fun l => by simp [sl, lenA]
    have hF1 := fewF_le (k - 1) pg 0
    generalize arcS (k : Int) 0 [] (pg.map (97 + ·)) = ar at *
    generalize (pg.foldl dcF (0, 0)).2 = many at *
    generalize fewF (k - 1) pg 0 = n1 at *
    generalize fewF k pg 0 = n2 at *
    subst q1
    have e1 : ((n2 : Int) != (n2 : Int)) = false := by simp
    have e2 : decide ((pg.length : Int) < (ar.length : Int)) = false := decide_eq_false (by omega)
    simp only [letO_some, cellsOf?_agg, cellsOf?_int, cellsOf?_bool, cellsOf?_imm, cellsOf?_ref, cellsOf?_nils, faddr_iptr, faddr_ptr, List.drop_succ_cons, List.drop_zero, List.take_succ_cons, List.take_zero, load1_iptr, loadN_iptr, List.length_cons, List.length_nil, Nat.le_refl, if_true, List.getElem?_cons_zero, List.getElem?_cons_succ, List.getD_cons_zero, List.getD_cons_succ, extrF_tup, binF_add, binF_sub, binF_mul, binF_eql, binF_neq, binF_lss, binF_leq, binF_gtr, binF_geq, true_and, e0, gval_bool, Int.reduceBNe, Int.reduceBEq, pickF_true, pickF_false, reduceIte, Bool.true_eq_false, Bool.false_eq_true, if_false, condA_tt, condA_ff, condG_tt, condG_ff, condG_tt', condG_ff', condG_undef, gval_undef, e1, hla, hls, e2]
    have wsub : IntKind.i64.wrap ((k : Int) - 1) = ((k - 1 : Nat) : Int) := by rw [wrap_i64 (by omega) (by omega)]; omega
    have wadd : IntKind.i64.wrap (((k - 1 : Nat) : Int) + (ar.length : Int)) = ((k - 1 + ar.length : Nat) : Int) := by rw [wrap_i64 (by omega) (by omega)]; omega
    have e4 : decide ((n2 : Int) ≤ (n1 : Int)) = true := decide_eq_true (by omega)
    by_cases h0 : ar.length = 0
    · have e3 : ((ar.length : Int) == 0) = true := by rw [beq_iff_eq]; omega
      simp only [e3, gval_bool, Int.reduceBNe, Int.reduceBEq, pickF_true, pickF_false, reduceIte, Bool.true_eq_false, Bool.false_eq_true, if_false, condA_tt, condA_ff, condG_tt, condG_ff, condG_tt', condG_ff', condG_undef, gval_undef, letO_some, binF_geq, e4]
      refine exJ (c18 ?_)
      try simp only [letO_some, cellsOf?_agg, cellsOf?_int, cellsOf?_bool, cellsOf?_imm, cellsOf?_ref, cellsOf?_nils, faddr_iptr, faddr_ptr, List.drop_succ_cons, List.drop_zero, List.take_succ_cons, List.take_zero, load1_iptr, loadN_iptr, List.length_cons, List.length_nil, Nat.le_refl, if_true, List.getElem?_cons_zero, List.getElem?_cons_succ, List.getD_cons_zero, List.getD_cons_succ, extrF_tup, binF_add, binF_sub, binF_mul, binF_eql, binF_neq, binF_lss, binF_leq, binF_gtr, binF_geq, true_and, gval_bool, Int.reduceBNe, Int.reduceBEq, pickF_true, pickF_false, reduceIte, Bool.true_eq_false, Bool.false_eq_true, if_false, condA_tt, condA_ff, condG_tt, condG_ff, condG_tt', condG_ff', condG_undef, gval_undef]
      exact endK_pub (Pub.drop hle2) (endK_ret hk)
    · have e3 : ((ar.length : Int) == 0) = false := by rw [beq_eq_false_iff_ne]; omega
      have e5 : decide (((k - 1 + ar.length : Nat) : Int) ≤ (n1 : Int)) = true := decide_eq_true (by omega)
      simp only [e3, gval_bool, Int.reduceBNe, Int.reduceBEq, pickF_true, pickF_false, reduceIte, Bool.true_eq_false, Bool.false_eq_true, if_false, condA_tt, condA_ff, condG_tt, condG_ff, condG_tt', condG_ff', condG_undef, gval_undef, letO_some, binF_sub, binF_add, wsub, wadd, binF_geq, hla, e5, e4]
      refine exJ (c18 ?_)
      try simp only [letO_some, cellsOf?_agg, cellsOf?_int, cellsOf?_bool, cellsOf?_imm, cellsOf?_ref, cellsOf?_nils, faddr_iptr, faddr_ptr, List.drop_succ_cons, List.drop_zero, List.take_succ_cons, List.take_zero, load1_iptr, loadN_iptr, List.length_cons, List.length_nil, Nat.le_refl, if_true, List.getElem?_cons_zero, List.getElem?_cons_succ, List.getD_cons_zero, List.getD_cons_succ, extrF_tup, binF_add, binF_sub, binF_mul, binF_eql, binF_neq, binF_lss, binF_leq, binF_gtr, binF_geq, true_and, gval_bool, Int.reduceBNe, Int.reduceBEq, pickF_true, pickF_false, reduceIte, Bool.true_eq_false, Bool.false_eq_true, if_false, condA_tt, condA_ff, condG_tt, condG_ff, condG_tt', condG_ff', condG_undef, gval_undef]
      exact endK_pub (Pub.drop hle2) (endK_ret hk)
namespace topArches
theorem law {b0 b1 : Nat} {g : List Nat} (h : b0 < 256) (h' : b1 < 256) (h0 : g.length = 10) (h1 : ∀ x ∈ g, x < 256) : ACalls Tryd.prog 4 [.int .u8 (b0 : Int), .int .u8 (b1 : Int), .agg (g.map fun (x : Nat) => .int .u8 (x : Int))] Heap.none fun r _ => r = .bool true :=
  c4 h h' h0 h1 rfl
end topArches
end Go.Proofs.YtmmfelpgcdlgfaaDoor

namespace Go.Proofs.YtmmfelpgcdlgfaaDoor
open Go.Av
set_option linter.unusedVariables false
set_option linter.unusedSimpArgs false
set_option maxRecDepth 8000

theorem neq30 (p : Nat × Nat) : binF Tryd.prog .neq 30 (.agg (prC p)) (.agg (prC p)) = some (.bool false) := by
  have h : binF Tryd.prog .eql 30 (.agg (prC p)) (.agg (prC p)) = some (.bool (decide (p = p))) := eq30 p p
  have h1 : (eqF Tryd.prog 30 (.agg (prC p)) (.agg (prC p))).map AV.bool = some (.bool (decide (p = p))) := h
  show (eqF Tryd.prog 30 (.agg (prC p)) (.agg (prC p))).map (fun r => AV.bool !r) = _
  cases hx : eqF Tryd.prog 30 (.agg (prC p)) (.agg (prC p)) with
  | none => rw [hx] at h1; cases h1
  | some r =>
    rw [hx] at h1
    simp at h1
    subst h1; rfl
theorem b27n {x : AV} (hx : cellsOf? x = some [x]) : buildF Tryd.prog 27 [(0, x)] = some (.agg [x, .nils]) := by
  rw [buildF_of (show buildPlan Tryd.prog 27 = some ([.int .i64 0, .nils], [(0, 1), (1, 1)]) by kernel_rfl)]
  simp [fillA, hx, splice]
theorem con_snoc (l : List (Nat × Nat)) (i k : Nat) : (List.range (k + 1)).filterMap (conF l i) = (List.range k).filterMap (conF l i) ++ (conF l i k).toList := by
  rw [List.range_succ, List.filterMap_append]
  congr 1
theorem con_len (l : List (Nat × Nat)) (i k : Nat) : ((List.range k).filterMap (conF l i)).length ≤ k := by
  have := List.length_filterMap_le (conF l i) (List.range k)
  simpa using this
theorem conP_len (l : List (Nat × Nat)) : ∀ (i : Nat), i ≤ 5 → ((List.range i).flatMap (conP l)).length ≤ 5 * i := by
  intro i
  induction i with
  | zero => intro _; simp
  | succ i ih =>
    intro h
    have := con_len l i i
    rw [List.range_succ, List.flatMap_append, List.length_append]
    have h1 := ih (by omega)
    have h2 : ([i].flatMap (conP l)).length ≤ i := by simpa [conP] using this
    omega
theorem aft_at {l : List Int} {x : Int} {t u : Nat} (h1 : t ≤ u) (h2 : u < l.length) (h3 : l.getD u 0 = x) (h4 : x ∉ (l.drop t).take (u - t)) : aftI l x t = u := by
  have hg : (l.drop t).getD (u - t) 0 = x := by
    rw [List.getD_eq_getElem?_getD, List.getElem?_drop, show t + (u - t) = u by omega, ← List.getD_eq_getElem?_getD]; exact h3
  have hm : x ∈ l.drop t := by
    rw [← hg, List.getD_eq_getElem?_getD, List.getElem?_eq_getElem (by rw [List.length_drop]; omega)]
    exact List.getElem_mem _
  unfold aftI
  rw [if_pos hm, idx_of (n := u - t) (by rw [List.length_drop]; omega) hg h4]
  omega
/-- TopSpans -/
theorem c5 {y : Nat} {a : List Nat} {H : Heap} {K : AV → Heap → Prop} (hy : y < 256) (ha : a.length = 8) (ha2 : ∀ x ∈ a, x < 256) (hk : K (.bool true) H) :
    ACalls Tryd.prog 5 [.int .u8 (y : Int), .agg (u8a a)] H K := by
  apply W5_ok
  unfold W5
  have hm7 : y % 7 < 7 := Nat.mod_lt _ (by omega)
  have hrem2 : binF Tryd.prog .rem 3 (.int .i64 (y : Int)) (.int .i64 7) = some (.int .i64 ((y % 7 : Nat) : Int)) := rem_nat (b := 7) (by omega)
  have hc1 : cellsOf? (.agg (u8a a)) = some (u8a a) := rfl
  simp only [letO_some, hc1, b47n (x := .int .i64 2) rfl]
  refine alloc_store (cs := [.int .i64 2, .nils]) rfl rfl rfl rfl fun b5 hb5 => ?_
  have hle5 := Heap.le_new (c := [.int .i64 2, .nils]) hb5
  have h5 : (H.put b5 [.int .i64 2, .nils]) b5 = some [.int .i64 2, .nils] := Heap.put_same
  generalize H.put b5 [.int .i64 2, .nils] = H5 at *
  generalize hmm : y % 7 = m at *
  have hsl : slcArr 8 1 (.iptr (u8a a)) none (some (.int .i64 (m : Int))) none = some (.imm m (m == 8) ((u8a a).take m)) := by
    have n1 : ∀ d, natOf none d = some d := fun d => rfl
    have n2 : ∀ d, natOf (some (.int .i64 (m : Int))) d = some m := fun d => by simp [natOf]
    simp only [slcArr, n1, n2, Option.bind_some]
    rw [if_pos ⟨by omega, by omega⟩]
    simp
  have hln : lenA (.imm m (m == 8) ((u8a a).take m)) = some (.int .i64 m) := rfl
  have hrd : ∀ H', ReadsC 1 H' (.imm m (m == 8) ((u8a a).take m)) m ((u8a a).take m) := fun H' => ⟨by rw [List.length_take, u8a_len]; omega, rfl, rfl⟩
  simp only [letO_some, conv53 (n := (y : Int)) (by omega), hrem2, hsl, hln, true_and]
  have hkl : ∀ i, ((a.take i).map (· % 4)).length ≤ i := fun i => by rw [List.length_map, List.length_take]; omega
  have hkp : ∀ i, ∀ p ∈ (a.take i).map (· % 4), p < 4 := fun i p hp => by
    obtain ⟨q, _, rfl⟩ := List.mem_map.1 hp
    exact Nat.mod_lt _ (by omega)
  refine ⟨fun L H' => ∃ (i : Nat) (X : AV) (Hg : Heap), eqt L [.int .i64 (i : Int)] ∧ i ≤ m ∧ Grow 1 Hg H' X ((a.take i).map (· % 4)).length (ints (up ((a.take i).map (· % 4)))) ∧ Hg b5 = some [.int .i64 2, X] ∧ H.le Hg,
    fun L _ => (m - iv L 0).toNat, ⟨0, .nils, H5, rfl, by omega, Grow.nils 1 H5, h5, hle5⟩, ?_⟩
  rintro L H1 ⟨i, X, Hg, rfl, hi, hg, g5, hle⟩
  try simp only [letO_some, cellsOf?_agg, cellsOf?_int, cellsOf?_bool, cellsOf?_imm, cellsOf?_ref, cellsOf?_nils, faddr_iptr, faddr_ptr, List.drop_succ_cons, List.drop_zero, List.take_succ_cons, List.take_zero, load1_iptr, loadN_iptr, List.length_cons, List.length_nil, Nat.le_refl, if_true, List.getElem?_cons_zero, List.getElem?_cons_succ, List.getD_cons_zero, List.getD_cons_succ, extrF_tup, binF_add, binF_sub, binF_mul, binF_eql, binF_neq, binF_lss, binF_leq, binF_gtr, binF_geq, true_and]
  have f5 : faddr 1 (.ptr b5 0) = some (.ptr b5 1) := rfl
  refine condA_t (fun hlt => ?_) (fun hge => ?_)
  · have a1 : i < a.length := by omega
    have htk : (a.take (i + 1)).map (· % 4) = (a.take i).map (· % 4) ++ [a[i] % 4] := by
      rw [List.take_add_one, List.getElem?_eq_getElem a1, Option.toList_some, List.map_append]; rfl
    refine ReadsC.get (Heap.le_refl _) (hrd H1) (x := .int .u8 (a[i] : Int)) (by omega) (by omega) (by rw [Int.toNat_natCast, List.getElem?_take_of_lt (by omega)]; simp [u8a, a1]) ?_
    have hai := ha2 _ (List.getElem_mem a1)
    have hkl := hkl i
    generalize (a.take i).map (· % 4) = pg at *
    generalize a[i] = z at *
    have lX : load1 (.ptr b5 1) H1 = some X := load1_at (hg.le _ _ g5) rfl
    have hrem4 : binF Tryd.prog .rem 3 (.int .i64 (z : Int)) (.int .i64 4) = some (.int .i64 ((z % 4 : Nat) : Int)) := rem_nat (b := 4) (by omega)
    simp only [letO_some, f5, lX, conv53 (n := (z : Int)) (by omega), hrem4, l35 cellsOf?_int]
    generalize z % 4 = p at *
    refine appendA_oneR hg (by omega) fun v' H7 hg7 ho7 => ?_
    try simp only [f5, letO_some]
    refine storeA_of (cs := [v']) (hg7.le _ _ g5) hg7.cells (by simp [hg7.scalar]) rfl (by simp) ?_
    have hsp : splice [.int .i64 2, X] 1 [v'] = [.int .i64 2, v'] := rfl
    rw [hsp]
    have hg8 := hg7.put g5 (y := [.int .i64 2, v'])
    try simp only [letO_some, binF_add]
    rw [wrap_i64 (by omega) (by omega)]
    refine ⟨⟨i + 1, v', Hg.put b5 [.int .i64 2, v'], rfl, by omega, ?_, Heap.put_same, Heap.le_put hle hb5⟩, by simp [iv]; omega⟩
    have hup : up (pg ++ [p]) = up pg ++ [(p : Int)] := by simp [up]
    rw [htk, hup, List.length_append]
    exact hg8
  have hie : i = m := by omega
  subst hie
  have hkl := hkl i
  have hkp := hkp i
  generalize (a.take i).map (· % 4) = pg at *
  have hpl : pg.length ≤ 6 := by omega
  obtain ⟨q1, q2, q3, q4⟩ := spans_law hpl hkp
  have hXr := hg.reads
  have h15 := hg.le _ _ g5
  have hle1 := Heap.le_trans hle hg.le
  have hXs := hg.scalar
  have hXc := hg.cells
  clear hg
  have hXl := hXr.len
  rw [up_length] at hXl
  have lX : ∀ H', H1.le H' → load1 (.ptr b5 1) H' = some X := fun H' h => load1_at (h _ _ h15) rfl
  have lX1 := lX H1 (Heap.le_refl _)
  simp only [letO_some, cellsOf?_agg, cellsOf?_int, cellsOf?_bool, cellsOf?_imm, cellsOf?_ref, cellsOf?_nils, faddr_iptr, faddr_ptr, List.drop_succ_cons, List.drop_zero, List.take_succ_cons, List.take_zero, load1_iptr, loadN_iptr, List.length_cons, List.length_nil, Nat.le_refl, if_true, List.getElem?_cons_zero, List.getElem?_cons_succ, List.getD_cons_zero, List.getD_cons_succ, extrF_tup, binF_add, binF_sub, binF_mul, binF_eql, binF_neq, binF_lss, binF_leq, binF_gtr, binF_geq, true_and, f5, lX1, hXl]
  refine ⟨fun L H' => ∃ (t : Nat) (Y : AV), eqt L [Y, .int .i64 (t : Int)] ∧ t ≤ pg.length ∧ Grow 2 H1 H' Y ((List.range t).filterMap (spF (up pg))).length (((List.range t).filterMap (spF (up pg))).flatMap prC),
    fun L _ => (pg.length - iv L 1).toNat, ⟨0, .nils, rfl, by omega, Grow.nils 2 H1⟩, ?_⟩
  rintro L H2 ⟨t, Y, rfl, ht, hg⟩
  have hsl2 := sp_len (up pg) t
  try simp only [letO_some, cellsOf?_agg, cellsOf?_int, cellsOf?_bool, cellsOf?_imm, cellsOf?_ref, cellsOf?_nils, faddr_iptr, faddr_ptr, List.drop_succ_cons, List.drop_zero, List.take_succ_cons, List.take_zero, load1_iptr, loadN_iptr, List.length_cons, List.length_nil, Nat.le_refl, if_true, List.getElem?_cons_zero, List.getElem?_cons_succ, List.getD_cons_zero, List.getD_cons_succ, extrF_tup, binF_add, binF_sub, binF_mul, binF_eql, binF_neq, binF_lss, binF_leq, binF_gtr, binF_geq, true_and]
  refine condA_t (fun hlt => ?_) (fun hge => ?_)
  · have t1 : t < pg.length := by omega
    refine ⟨fun L H' => ∃ Y', eqt L [Y'] ∧ Grow 2 H1 H' Y' ((List.range (t + 1)).filterMap (spF (up pg))).length (((List.range (t + 1)).filterMap (spF (up pg))).flatMap prC), ?_, ?_⟩
    · refine Reads.get hg.le hXr (by omega) (by rw [up_length]; omega) ?_
      rw [Int.toNat_natCast, sp_snoc]
      unfold spF
      generalize hx : (up pg).getD t 0 = x
      have w1 : IntKind.i64.wrap ((t : Int) + 1) = ((t + 1 : Nat) : Int) := by rw [wrap_i64 (by omega) (by omega)]; omega
      simp only [letO_some, cellsOf?_agg, cellsOf?_int, cellsOf?_bool, cellsOf?_imm, cellsOf?_ref, cellsOf?_nils, faddr_iptr, faddr_ptr, List.drop_succ_cons, List.drop_zero, List.take_succ_cons, List.take_zero, load1_iptr, loadN_iptr, List.length_cons, List.length_nil, Nat.le_refl, if_true, List.getElem?_cons_zero, List.getElem?_cons_succ, List.getD_cons_zero, List.getD_cons_succ, extrF_tup, binF_add, binF_sub, binF_mul, binF_eql, binF_neq, binF_lss, binF_leq, binF_gtr, binF_geq, true_and, w1]
      refine ⟨fun L H' => ∃ (u : Nat), eqt L [Y, .int .i64 (u : Int)] ∧ t + 1 ≤ u ∧ u ≤ pg.length ∧ eqt H' H2 ∧ x ∉ ((up pg).drop (t + 1)).take (u - (t + 1)), fun L _ => (pg.length - iv L 1).toNat, ⟨t + 1, rfl, by omega, by omega, rfl, by simp⟩, ?_⟩
      rintro L H3 ⟨u, rfl, hu1, hu2, rfl, hnot⟩
      have lX3 := lX H3 hg.le
      simp only [letO_some, cellsOf?_agg, cellsOf?_int, cellsOf?_bool, cellsOf?_imm, cellsOf?_ref, cellsOf?_nils, faddr_iptr, faddr_ptr, List.drop_succ_cons, List.drop_zero, List.take_succ_cons, List.take_zero, load1_iptr, loadN_iptr, List.length_cons, List.length_nil, Nat.le_refl, if_true, List.getElem?_cons_zero, List.getElem?_cons_succ, List.getD_cons_zero, List.getD_cons_succ, extrF_tup, binF_add, binF_sub, binF_mul, binF_eql, binF_neq, binF_lss, binF_leq, binF_gtr, binF_geq, true_and, f5, lX3, hXl]
      refine condA_t (fun hlt2 => ?_) (fun hge2 => ?_)
      · have u1 : u < pg.length := by omega
        refine Reads.get hg.le hXr (by omega) (by rw [up_length]; omega) ?_
        rw [Int.toNat_natCast]
        try simp only [letO_some, cellsOf?_agg, cellsOf?_int, cellsOf?_bool, cellsOf?_imm, cellsOf?_ref, cellsOf?_nils, faddr_iptr, faddr_ptr, List.drop_succ_cons, List.drop_zero, List.take_succ_cons, List.take_zero, load1_iptr, loadN_iptr, List.length_cons, List.length_nil, Nat.le_refl, if_true, List.getElem?_cons_zero, List.getElem?_cons_succ, List.getD_cons_zero, List.getD_cons_succ, extrF_tup, binF_add, binF_sub, binF_mul, binF_eql, binF_neq, binF_lss, binF_leq, binF_gtr, binF_geq, true_and]
        by_cases he : (up pg).getD u 0 = x
        · have e : ((up pg).getD u 0 == x) = true := by rw [beq_iff_eq]; exact he
          have haf := aft_at hu1 (by rw [up_length]; exact u1) he hnot
          simp only [e, condA_tt, letO_some, b30, l24_1]
          rw [haf, if_pos (by omega)]
          refine appendA_growR hg (m := 1) (new := prC (t, u)) (by simp [srcOf, prC]) rfl rfl (by omega) (by omega) (by omega) fun v' H7 hg7 ho7 => ?_
          try simp only [letO_some, cellsOf?_agg, cellsOf?_int, cellsOf?_bool, cellsOf?_imm, cellsOf?_ref, cellsOf?_nils, faddr_iptr, faddr_ptr, List.drop_succ_cons, List.drop_zero, List.take_succ_cons, List.take_zero, load1_iptr, loadN_iptr, List.length_cons, List.length_nil, Nat.le_refl, if_true, List.getElem?_cons_zero, List.getElem?_cons_succ, List.getD_cons_zero, List.getD_cons_succ, extrF_tup, binF_add, binF_sub, binF_mul, binF_eql, binF_neq, binF_lss, binF_leq, binF_gtr, binF_geq, true_and]
          refine ⟨v', rfl, ?_⟩
          rw [Option.toList_some, l24_dec, List.length_append]
          exact hg7
        · have e : ((up pg).getD u 0 == x) = false := by rw [beq_eq_false_iff_ne]; exact he
          simp only [e, condA_ff, letO_some, binF_add]
          rw [wrap_i64 (by omega) (by omega)]
          refine ⟨⟨u + 1, rfl, by omega, by omega, rfl, ?_⟩, by simp [iv]; omega⟩
          have hud : u - (t + 1) < ((up pg).drop (t + 1)).length := by rw [List.length_drop, up_length]; omega
          rw [show u + 1 - (t + 1) = u - (t + 1) + 1 by omega, List.take_add_one, List.getElem?_eq_getElem hud, Option.toList_some, List.mem_append]
          rintro (h | h)
          · exact hnot h
          · simp only [List.mem_singleton] at h
            rw [List.getElem_drop] at h
            apply he
            have e2 : t + 1 + (u - (t + 1)) = u := by omega
            simp only [e2] at h
            rw [List.getD_eq_getElem?_getD, List.getElem?_eq_getElem (by rw [up_length]; exact u1)]
            exact h.symm
      · have hue : u = pg.length := by omega
        subst hue
        have hno : x ∉ (up pg).drop (t + 1) := by
          rwa [List.take_of_length_le (by rw [List.length_drop, up_length]; omega)] at hnot
        have haf : aftI (up pg) x (t + 1) = 12 := by unfold aftI; rw [if_neg hno]
        rw [haf, if_neg (by omega), Option.toList_none, List.append_nil]
        exact ⟨Y, rfl, hg⟩
    · rintro L H3 ⟨Y', rfl, hg'⟩
      try simp only [letO_some, cellsOf?_agg, cellsOf?_int, cellsOf?_bool, cellsOf?_imm, cellsOf?_ref, cellsOf?_nils, faddr_iptr, faddr_ptr, List.drop_succ_cons, List.drop_zero, List.take_succ_cons, List.take_zero, load1_iptr, loadN_iptr, List.length_cons, List.length_nil, Nat.le_refl, if_true, List.getElem?_cons_zero, List.getElem?_cons_succ, List.getD_cons_zero, List.getD_cons_succ, extrF_tup, binF_add, binF_sub, binF_mul, binF_eql, binF_neq, binF_lss, binF_leq, binF_gtr, binF_geq, true_and]
      rw [wrap_i64 (by omega) (by omega)]
      exact ⟨⟨t + 1, Y', rfl, by omega, hg'⟩, by simp [iv]; omega⟩
  have hte : t = (up pg).length := by rw [up_length]; omega
  have hsd : (List.range t).filterMap (spF (up pg)) = spans (up pg) := by rw [hte]; rfl
  rw [hsd] at hg
  clear hsl2 hge ht hte hsd
  have hp6 : ∀ p ∈ pg, p < 6 := fun p hp => by have := hkp p hp; omega
  have hXr2 := hXr.le hg.le
  have h52 := hg.le _ _ h15
  have hYr := hg.readsC
  have hYl := hg.len
  have hle2 := Heap.le_trans hle1 hg.le
  have lX2 := fun H' (h : H2.le H') => lX H' (Heap.le_trans hg.le h)
  clear hg
  have l5 : loadN 2 (.ptr b5 0) H2 = some (.agg [.int .i64 2, X]) := loadN_at (cells := [.int .i64 2, X]) h52
  simp only [l5, letO_some]
  refine c19 (room := 2) (by omega) (by omega) hXr2 (by omega) hp6 ?_
  simp only [letO_some, cellsOf?_agg, cellsOf?_int, cellsOf?_bool, cellsOf?_imm, cellsOf?_ref, cellsOf?_nils, faddr_iptr, faddr_ptr, List.drop_succ_cons, List.drop_zero, List.take_succ_cons, List.take_zero, load1_iptr, loadN_iptr, List.length_cons, List.length_nil, Nat.le_refl, if_true, List.getElem?_cons_zero, List.getElem?_cons_succ, List.getD_cons_zero, List.getD_cons_succ, extrF_tup, binF_add, binF_sub, binF_mul, binF_eql, binF_neq, binF_lss, binF_leq, binF_gtr, binF_geq, true_and, l5]
  refine c17 (room := 2) (by omega) (by omega) hXr2 (by omega) hp6 ?_
  have e0 : ((0 : Int) != 0) = false := rfl
  have hfl := fewF_le 2 pg 0
  have hcp := conP_len (spans (up pg))
  have hrng : ∀ r ∈ spans (up pg), r.1 < 6 ∧ r.2 < 12 := by
    intro r hr
    obtain ⟨t, ht, he⟩ := List.mem_filterMap.1 hr
    have ht := List.mem_range.1 ht
    rw [up_length] at ht
    unfold spF at he
    split at he <;> cases he
    exact ⟨by simp only; omega, by simpa using ‹_›⟩
  generalize hcf : confP (spans (up pg)) = P at *
  generalize hsp : spans (up pg) = l at *
  have hvl : lenA (.imm l.length false (l.flatMap prC)) = some (.int .i64 l.length) := rfl
  have en : ((l.length : Int) != (l.length : Int)) = false := by simp
  simp only [letO_some, cellsOf?_agg, cellsOf?_int, cellsOf?_bool, cellsOf?_imm, cellsOf?_ref, cellsOf?_nils, faddr_iptr, faddr_ptr, List.drop_succ_cons, List.drop_zero, List.take_succ_cons, List.take_zero, load1_iptr, loadN_iptr, List.length_cons, List.length_nil, Nat.le_refl, if_true, List.getElem?_cons_zero, List.getElem?_cons_succ, List.getD_cons_zero, List.getD_cons_succ, extrF_tup, binF_add, binF_sub, binF_mul, binF_eql, binF_neq, binF_lss, binF_leq, binF_gtr, binF_geq, true_and, e0, gval_bool, Int.reduceBNe, Int.reduceBEq, pickF_true, pickF_false, reduceIte, Bool.true_eq_false, Bool.false_eq_true, if_false, condA_tt, condA_ff, condG_tt, condG_ff, condG_tt', condG_ff', condG_undef, gval_undef, hvl, hYl, en]
  refine ⟨fun L H' => ∃ (i : Nat), eqt L [.int .i64 (i : Int)] ∧ i ≤ l.length ∧ eqt H' H2, fun L _ => (l.length - iv L 0).toNat, ⟨0, rfl, by omega, rfl⟩, ?_⟩
  rintro L H3 ⟨j, rfl, hj, rfl⟩
  try simp only [letO_some, cellsOf?_agg, cellsOf?_int, cellsOf?_bool, cellsOf?_imm, cellsOf?_ref, cellsOf?_nils, faddr_iptr, faddr_ptr, List.drop_succ_cons, List.drop_zero, List.take_succ_cons, List.take_zero, load1_iptr, loadN_iptr, List.length_cons, List.length_nil, Nat.le_refl, if_true, List.getElem?_cons_zero, List.getElem?_cons_succ, List.getD_cons_zero, List.getD_cons_succ, extrF_tup, binF_add, binF_sub, binF_mul, binF_eql, binF_neq, binF_lss, binF_leq, binF_gtr, binF_geq, true_and]
  have hv : ∀ H, RP H (.imm l.length false (l.flatMap prC)) l := fun H => ReadsC.imm (by rw [rows_len prC_len])
  refine condA_t (fun hlt => ?_) (fun hge => ?_)
  · have j1 : j < l.length := by omega
    refine ReadsC.getN (Heap.le_refl _) (hv H3) (by omega) (by omega) ?_
    rw [Int.toNat_natCast, rows_get prC_len (x := l[j]) (by simp [j1])]
    try simp only [letO_some, cellsOf?_agg, cellsOf?_int, cellsOf?_bool, cellsOf?_imm, cellsOf?_ref, cellsOf?_nils, faddr_iptr, faddr_ptr, List.drop_succ_cons, List.drop_zero, List.take_succ_cons, List.take_zero, load1_iptr, loadN_iptr, List.length_cons, List.length_nil, Nat.le_refl, if_true, List.getElem?_cons_zero, List.getElem?_cons_succ, List.getD_cons_zero, List.getD_cons_succ, extrF_tup, binF_add, binF_sub, binF_mul, binF_eql, binF_neq, binF_lss, binF_leq, binF_gtr, binF_geq, true_and]
    refine ReadsC.getN (Heap.le_refl _) hYr (by omega) (by omega) ?_
    rw [Int.toNat_natCast, rows_get prC_len (x := l[j]) (by simp [j1])]
    simp only [neq30, letO_some, condA_ff, binF_add]
    rw [wrap_i64 (by omega) (by omega)]
    exact ⟨⟨j + 1, rfl, by omega, rfl⟩, by simp [iv]; omega⟩
  clear hge hj
  have hvc : cellsOf? (.imm l.length false (l.flatMap prC)) = some [.imm l.length false (l.flatMap prC)] := rfl
  generalize AV.imm l.length false (l.flatMap prC) = v at *
  have lX3 := lX2 H3 (Heap.le_refl _)
  try simp only [hvl, letO_some, binF_eql]
  by_cases h0 : l.length = 0
  · have e : ((l.length : Int) == 0) = true := by rw [beq_iff_eq]; omega
    have hl0 : l = [] := List.eq_nil_of_length_eq_zero h0
    have hP : P = [] := by rw [← hcf, hl0]; rfl
    have hn : fewF 2 pg 0 = pg.length := by
      rw [hl0, hP] at q4
      have : (shS ([] : List (Nat × Nat)).length []).1.length = 0 := by decide +kernel
      rw [this] at q4
      simpa using q4
    have e2 : ((fewF 2 pg 0 : Int) == (pg.length : Int)) = true := by rw [beq_iff_eq]; omega
    simp only [e, condA_tt, letO_some, f5, lX3, hXl, binF_eql, e2, gval_bool, Int.reduceBNe, Int.reduceBEq, pickF_true, pickF_false, reduceIte, Bool.true_eq_false, Bool.false_eq_true, if_false, condA_tt, condA_ff, condG_tt, condG_ff, condG_tt', condG_ff', condG_undef, gval_undef]
    refine exJ (c18 ?_)
    try simp only [letO_some, cellsOf?_agg, cellsOf?_int, cellsOf?_bool, cellsOf?_imm, cellsOf?_ref, cellsOf?_nils, faddr_iptr, faddr_ptr, List.drop_succ_cons, List.drop_zero, List.take_succ_cons, List.take_zero, load1_iptr, loadN_iptr, List.length_cons, List.length_nil, Nat.le_refl, if_true, List.getElem?_cons_zero, List.getElem?_cons_succ, List.getD_cons_zero, List.getD_cons_succ, extrF_tup, binF_add, binF_sub, binF_mul, binF_eql, binF_neq, binF_lss, binF_leq, binF_gtr, binF_geq, true_and, gval_bool, Int.reduceBNe, Int.reduceBEq, pickF_true, pickF_false, reduceIte, Bool.true_eq_false, Bool.false_eq_true, if_false, condA_tt, condA_ff, condG_tt, condG_ff, condG_tt', condG_ff', condG_undef, gval_undef]
    exact endK_pub (Pub.drop hle2) (endK_ret hk)
  have e : ((l.length : Int) == 0) = false := by rw [beq_eq_false_iff_ne]; omega
  have hF := q3 (by omega)
  simp only [e, condA_ff, b27n (x := .int .i64 (l.length : Int)) rfl, letO_some]
  refine alloc_store (cs := [.int .i64 (l.length : Int), .nils]) rfl rfl rfl rfl fun b7 hb7 => ?_
  have hle7 := Heap.le_new (c := [.int .i64 (l.length : Int), .nils]) hb7
  have h7 : (H3.put b7 [.int .i64 (l.length : Int), .nils]) b7 = some [.int .i64 (l.length : Int), .nils] := Heap.put_same
  generalize H3.put b7 [.int .i64 (l.length : Int), .nils] = H7 at *
  have f7 : faddr 1 (.ptr b7 0) = some (.ptr b7 1) := rfl
  try simp only [hvl, letO_some]
  refine ⟨fun L H' => ∃ (i : Nat) (Z : AV) (Hg : Heap), eqt L [.int .i64 (i : Int)] ∧ i ≤ l.length ∧ Grow 2 Hg H' Z ((List.range i).flatMap (conP l)).length (((List.range i).flatMap (conP l)).flatMap prC) ∧ Hg b7 = some [.int .i64 (l.length : Int), Z] ∧ H3.le Hg,
    fun L _ => (l.length - iv L 0).toNat, ⟨0, .nils, H7, rfl, by omega, Grow.nils 2 H7, h7, hle7⟩, ?_⟩
  rintro L H8 ⟨i, Z, Hg, rfl, hi, hg, g7, hle8⟩
  have hcpi := hcp i (by omega)
  try simp only [letO_some, cellsOf?_agg, cellsOf?_int, cellsOf?_bool, cellsOf?_imm, cellsOf?_ref, cellsOf?_nils, faddr_iptr, faddr_ptr, List.drop_succ_cons, List.drop_zero, List.take_succ_cons, List.take_zero, load1_iptr, loadN_iptr, List.length_cons, List.length_nil, Nat.le_refl, if_true, List.getElem?_cons_zero, List.getElem?_cons_succ, List.getD_cons_zero, List.getD_cons_succ, extrF_tup, binF_add, binF_sub, binF_mul, binF_eql, binF_neq, binF_lss, binF_leq, binF_gtr, binF_geq, true_and]
  refine condA_t (fun hlt => ?_) (fun hge => ?_)
  · have i1 : i < l.length := by omega
    refine ReadsC.getN (Heap.le_refl _) (hv H8) (by omega) (by omega) ?_
    rw [Int.toNat_natCast, rows_get prC_len (x := l[i]) (by simp [i1])]
    have hli : l.getD i (0, 0) = l[i] := by rw [List.getD_eq_getElem?_getD, List.getElem?_eq_getElem i1]; rfl
    have hsn : (List.range (i + 1)).flatMap (conP l) = (List.range i).flatMap (conP l) ++ (List.range i).filterMap (conF l i) := by
      rw [List.range_succ, List.flatMap_append]; simp [conP]
    generalize hpx : l[i] = p at *
    refine alloc_store (cs := prC p) rfl rfl rfl rfl fun b9 hb9 => ?_
    have h9 : (H8.put b9 (prC p)) b9 = some (prC p) := Heap.put_same
    have hg9 : Grow 2 (Hg.put b9 (prC p)) (H8.put b9 (prC p)) Z _ _ := alloc_grow hg hb9
    have hln := Heap.le_new (c := prC p) (none_of_le hg.le hb9)
    have hle9 : H3.le (Hg.put b9 (prC p)) := Heap.le_trans hle8 hln
    have g79 := hln _ _ g7
    have g99 : (Hg.put b9 (prC p)) b9 = some (prC p) := Heap.put_same
    generalize H8.put b9 (prC p) = H9 at *
    generalize Hg.put b9 (prC p) = Hg9 at *
    have hne79 : b7 ≠ b9 := by rintro rfl; rw [hg.le _ _ g7] at hb9; cases hb9
    have hb7H : H3 b7 = none := hb7
    obtain ⟨v', s1, s2⟩ := slcP (hv Heap.none) (k := i) (by omega)
    have hv' : ∀ H, RP H v' (l.take i) := fun H => s2.le (fun _ _ h => by cases h)
    have hv'l := ReadsC.len s2
    rw [List.length_take, Nat.min_eq_left (by omega)] at hv'l
    simp only [letO_some, s1, hv'l]
    refine ⟨fun L H' => ∃ (k : Nat) (Z : AV) (Hg : Heap), eqt L [.int .i64 (k : Int)] ∧ k ≤ i ∧ Grow 2 Hg H' Z ((List.range i).flatMap (conP l) ++ (List.range k).filterMap (conF l i)).length (((List.range i).flatMap (conP l) ++ (List.range k).filterMap (conF l i)).flatMap prC) ∧
        Hg b7 = some [.int .i64 (l.length : Int), Z] ∧ Hg b9 = some (prC p) ∧ H3.le Hg,
      fun L _ => (i - iv L 0).toNat, ⟨0, Z, Hg9, rfl, by omega, by simpa using hg9, g79, g99, hle9⟩, ?_⟩
    rintro L H10 ⟨k, Z2, Hg10, rfl, hk2, hg10, g710, g910, hle10⟩
    have hcl := con_len l i k
    try simp only [letO_some, cellsOf?_agg, cellsOf?_int, cellsOf?_bool, cellsOf?_imm, cellsOf?_ref, cellsOf?_nils, faddr_iptr, faddr_ptr, List.drop_succ_cons, List.drop_zero, List.take_succ_cons, List.take_zero, load1_iptr, loadN_iptr, List.length_cons, List.length_nil, Nat.le_refl, if_true, List.getElem?_cons_zero, List.getElem?_cons_succ, List.getD_cons_zero, List.getD_cons_succ, extrF_tup, binF_add, binF_sub, binF_mul, binF_eql, binF_neq, binF_lss, binF_leq, binF_gtr, binF_geq, true_and]
    refine condA_t (fun hlt2 => ?_) (fun hge2 => ?_)
    · have k1 : k < i := by omega
      have k2 : k < l.length := by omega
      refine ⟨fun L H' => eqt L [] ∧ ∃ (Z : AV) (Hg : Heap), Grow 2 Hg H' Z ((List.range i).flatMap (conP l) ++ (List.range (k + 1)).filterMap (conF l i)).length (((List.range i).flatMap (conP l) ++ (List.range (k + 1)).filterMap (conF l i)).flatMap prC) ∧
        Hg b7 = some [.int .i64 (l.length : Int), Z] ∧ Hg b9 = some (prC p) ∧ H3.le Hg, ?_, ?_⟩
      · refine ReadsC.getN (Heap.le_refl _) (hv' H10) (by omega) (by rw [List.length_take]; omega) ?_
        rw [Int.toNat_natCast, rows_get prC_len (x := l[k]) (by simp [k1, k2])]
        have hlk : l.getD k (0, 0) = l[k] := by rw [List.getD_eq_getElem?_getD, List.getElem?_eq_getElem k2]; rfl
        rw [con_snoc, ← List.append_assoc]
        have hcF : conF l i k = if clash p l[k] then some (k, i) else none := by unfold conF; rw [hli, hlk]
        rw [hcF]
        generalize hq : l[k] = q at *
        have hlen0 : ((List.range i).flatMap (conP l) ++ (List.range k).filterMap (conF l i)).length ≤ 100 := by rw [List.length_append]; omega
        generalize (List.range i).flatMap (conP l) ++ (List.range k).filterMap (conF l i) = R at *
        refine alloc_store (cs := prC q) rfl rfl rfl rfl fun b11 hb11 => ?_
        have h11 : (H10.put b11 (prC q)) b11 = some (prC q) := Heap.put_same
        have hg11 : Grow 2 (Hg10.put b11 (prC q)) (H10.put b11 (prC q)) Z2 _ _ := alloc_grow hg10 hb11
        have hln2 := Heap.le_new (c := prC q) (none_of_le hg10.le hb11)
        have hle11 : H3.le (Hg10.put b11 (prC q)) := Heap.le_trans hle10 hln2
        have g711 := hln2 _ _ g710
        have g911 := hln2 _ _ g910
        generalize H10.put b11 (prC q) = H11 at *
        generalize Hg10.put b11 (prC q) = Hg11 at *
        have x0 : ∀ b, idxArr 2 1 (.ptr b 0) (.int .i64 0) = some (.ptr b 0) := fun b => rfl
        have x1 : ∀ b, idxArr 2 1 (.ptr b 0) (.int .i64 1) = some (.ptr b 1) := fun b => rfl
        have h9' := hg11.le _ _ g911
        have l90 : load1 (.ptr b9 0) H11 = some (.int .i64 (p.1 : Int)) := load1_at h9' rfl
        have l91 : load1 (.ptr b9 1) H11 = some (.int .i64 (p.2 : Int)) := load1_at h9' rfl
        have l110 : load1 (.ptr b11 0) H11 = some (.int .i64 (q.1 : Int)) := load1_at h11 rfl
        have l111 : load1 (.ptr b11 1) H11 = some (.int .i64 (q.2 : Int)) := load1_at h11 rfl
        have hmax : max2F (.int .i64 (p.1 : Int)) (.int .i64 (q.1 : Int)) = some (.int .i64 ((max p.1 q.1 : Nat) : Int)) := by
          show some (AV.int .i64 (if (q.1 : Int) > (p.1 : Int) then (q.1 : Int) else (p.1 : Int))) = _
          congr 2; split <;> omega
        have hmin : min2F (.int .i64 (p.2 : Int)) (.int .i64 (q.2 : Int)) = some (.int .i64 ((min p.2 q.2 : Nat) : Int)) := by
          show some (AV.int .i64 (if (q.2 : Int) < (p.2 : Int) then (q.2 : Int) else (p.2 : Int))) = _
          congr 2; split <;> omega
        have hpb := hrng p (by rw [← hpx]; exact List.getElem_mem i1)
        have hqb := hrng q (by rw [← hq]; exact List.getElem_mem k2)
        have wm : IntKind.i64.wrap (((max p.1 q.1 : Nat) : Int) + 1) = ((max p.1 q.1 + 1 : Nat) : Int) := by rw [wrap_i64 (by omega) (by omega)]; omega
        have hlss : decide (((max p.1 q.1 + 1 : Nat) : Int) < ((min p.2 q.2 : Nat) : Int)) = clash p q := by
          unfold clash; rw [decide_eq_decide]; omega
        have lZ : load1 (.ptr b7 1) H11 = some Z2 := load1_at (hg11.le _ _ g711) rfl
        simp only [letO_some, x0, x1, l90, l91, l110, l111, hmax, hmin, binF_add, wm, binF_lss, hlss]
        cases hcc : clash p q
        · simp only [condA_ff, Bool.false_eq_true, if_false, Option.toList_none, List.append_nil]
          exact ⟨rfl, Z2, Hg11, hg11, g711, g911, hle11⟩
        · simp only [condA_tt, if_true, letO_some, f7, lZ, b30, l24_1, Option.toList_some]
          refine appendA_growR hg11 (m := 1) (new := prC (k, i)) (by simp [srcOf, prC]) rfl rfl (by omega) (by omega) (by omega) fun v2 H12 hg12 ho12 => ?_
          try simp only [f7, letO_some]
          refine storeA_of (cs := [v2]) (hg12.le _ _ g711) hg12.cells (by simp [hg12.scalar]) rfl (by simp) ?_
          have hspl : splice [.int .i64 (l.length : Int), Z2] 1 [v2] = [.int .i64 (l.length : Int), v2] := rfl
          rw [hspl]
          have hg13 := hg12.put g711 (y := [.int .i64 (l.length : Int), v2])
          refine ⟨rfl, v2, Hg11.put b7 [.int .i64 (l.length : Int), v2], ?_, Heap.put_same, by rw [Heap.put_ne (Ne.symm hne79)]; exact g911, Heap.le_put hle11 hb7H⟩
          rw [l24_dec, List.length_append]
          exact hg13
      · rintro L H11 ⟨rfl, Z3, Hg11, hg11, g711, g911, hle11⟩
        try simp only [letO_some, cellsOf?_agg, cellsOf?_int, cellsOf?_bool, cellsOf?_imm, cellsOf?_ref, cellsOf?_nils, faddr_iptr, faddr_ptr, List.drop_succ_cons, List.drop_zero, List.take_succ_cons, List.take_zero, load1_iptr, loadN_iptr, List.length_cons, List.length_nil, Nat.le_refl, if_true, List.getElem?_cons_zero, List.getElem?_cons_succ, List.getD_cons_zero, List.getD_cons_succ, extrF_tup, binF_add, binF_sub, binF_mul, binF_eql, binF_neq, binF_lss, binF_leq, binF_gtr, binF_geq, true_and]
        rw [wrap_i64 (by omega) (by omega)]
        exact ⟨⟨k + 1, Z3, Hg11, rfl, by omega, hg11, g711, g911, hle11⟩, by simp [iv]; omega⟩
    · have hke : k = i := by omega
      subst hke
      try simp only [letO_some, cellsOf?_agg, cellsOf?_int, cellsOf?_bool, cellsOf?_imm, cellsOf?_ref, cellsOf?_nils, faddr_iptr, faddr_ptr, List.drop_succ_cons, List.drop_zero, List.take_succ_cons, List.take_zero, load1_iptr, loadN_iptr, List.length_cons, List.length_nil, Nat.le_refl, if_true, List.getElem?_cons_zero, List.getElem?_cons_succ, List.getD_cons_zero, List.getD_cons_succ, extrF_tup, binF_add, binF_sub, binF_mul, binF_eql, binF_neq, binF_lss, binF_leq, binF_gtr, binF_geq, true_and]
      rw [wrap_i64 (by omega) (by omega)]
      exact ⟨⟨k + 1, Z2, Hg10, rfl, by omega, by rw [hsn]; exact hg10, g710, hle10⟩, by simp [iv]; omega⟩
  have hie : i = l.length := by omega
  subst hie
  have hcfl : (List.range l.length).flatMap (conP l) = P := by rw [← hcf]; rfl
  rw [hcfl] at hg
  have hZ : RP H8 Z P := hg.readsC
  have l7 : loadN 2 (.ptr b7 0) H8 = some (.agg [.int .i64 (l.length : Int), Z]) := loadN_at (cells := [.int .i64 (l.length : Int), Z]) (hg.le _ _ g7)
  have hle9 := Heap.le_trans hle8 hg.le
  have lX8 := lX2 H8 hle9
  simp only [l7, letO_some]
  refine c10 hF hZ ?_
  have e0' : ((0 : Int) == 0) = true := rfl
  have hls := (sh_len P (List.range (2 ^ l.length))).1
  have hls' : (shS l.length P).1.length ≤ 7 := hls
  have hll : lenA (sl (up (shS l.length P).1)) = some (.int .i64 ((shS l.length P).1.length : Int)) := by simp [sl, lenA]
  have w1 : IntKind.i64.wrap ((pg.length : Int) - (l.length : Int)) = (pg.length : Int) - (l.length : Int) := wrap_i64 (by omega) (by omega)
  have w2 : IntKind.i64.wrap ((pg.length : Int) - (l.length : Int) + ((shS l.length P).1.length : Int)) = (fewF 2 pg 0 : Int) := by rw [wrap_i64 (by omega) (by omega)]; omega
  have ee : ((fewF 2 pg 0 : Int) == (fewF 2 pg 0 : Int)) = true := by simp
  simp only [letO_some, cellsOf?_agg, cellsOf?_int, cellsOf?_bool, cellsOf?_imm, cellsOf?_ref, cellsOf?_nils, faddr_iptr, faddr_ptr, List.drop_succ_cons, List.drop_zero, List.take_succ_cons, List.take_zero, load1_iptr, loadN_iptr, List.length_cons, List.length_nil, Nat.le_refl, if_true, List.getElem?_cons_zero, List.getElem?_cons_succ, List.getD_cons_zero, List.getD_cons_succ, extrF_tup, binF_add, binF_sub, binF_mul, binF_eql, binF_neq, binF_lss, binF_leq, binF_gtr, binF_geq, true_and, e0', gval_bool, Int.reduceBNe, Int.reduceBEq, pickF_true, pickF_false, reduceIte, Bool.true_eq_false, Bool.false_eq_true, if_false, condA_tt, condA_ff, condG_tt, condG_ff, condG_tt', condG_ff', condG_undef, gval_undef, f5, lX8, hXl, hvl, w1, hll, w2, ee]
  refine exJ (c18 ?_)
  try simp only [letO_some, cellsOf?_agg, cellsOf?_int, cellsOf?_bool, cellsOf?_imm, cellsOf?_ref, cellsOf?_nils, faddr_iptr, faddr_ptr, List.drop_succ_cons, List.drop_zero, List.take_succ_cons, List.take_zero, load1_iptr, loadN_iptr, List.length_cons, List.length_nil, Nat.le_refl, if_true, List.getElem?_cons_zero, List.getElem?_cons_succ, List.getD_cons_zero, List.getD_cons_succ, extrF_tup, binF_add, binF_sub, binF_mul, binF_eql, binF_neq, binF_lss, binF_leq, binF_gtr, binF_geq, true_and, gval_bool, Int.reduceBNe, Int.reduceBEq, pickF_true, pickF_false, reduceIte, Bool.true_eq_false, Bool.false_eq_true, if_false, condA_tt, condA_ff, condG_tt, condG_ff, condG_tt', condG_ff', condG_undef, gval_undef]
  exact endK_pub (Pub.drop (Heap.le_trans hle2 hle9)) (endK_ret hk)
namespace topSpans
theorem law {b0 : Nat} {g : List Nat} (h : b0 < 256) (h0 : g.length = 8) (h1 : ∀ x ∈ g, x < 256) : ACalls Tryd.prog 5 [.int .u8 (b0 : Int), .agg (g.map fun (x : Nat) => .int .u8 (x : Int))] Heap.none fun r _ => r = .bool true :=
  c5 h h0 h1 rfl
end topSpans
end Go.Proofs.YtmmfelpgcdlgfaaDoor

namespace Go.Proofs.YtmmfelpgcdlgfaaDoor
open Go.Av
set_option linter.unusedVariables false
set_option linter.unusedSimpArgs false
set_option maxRecDepth 8000

def srs (Y : List Nat) : List (Nat × Nat) := Y.map fun y => (y, 1)
@[simp] theorem srs_len (Y : List Nat) : (srs Y).length = Y.length := by simp [srs]
theorem srs_get {Y : List Nat} {i : Nat} (h : i < Y.length) : (srs Y)[i]? = some (Y.getD i 0, 1) := by
  rw [srs, List.getElem?_map, List.getElem?_eq_getElem h, List.getD_eq_getElem?_getD, List.getElem?_eq_getElem h]; rfl
/-- reign.Check -/
theorem c46 {v : AV} {Y : List Nat} {H : Heap} {K : AV → Heap → Prop} (hv : RP H v (srs Y)) (h1 : 1 ≤ Y.length) (h8 : Y.length ≤ 8) (hy : ∀ y ∈ Y, y ≤ 100) (hk : K (.int .i64 0) H) : ACalls Tryd.prog 46 [v] H K := by
  apply W46_ok
  unfold W46
  have hlen := ReadsC.len hv
  rw [srs_len] at hlen
  have e1 : ((Y.length : Int) == 0) = false := by rw [beq_eq_false_iff_ne]; omega
  have e2 : decide ((8 : Int) < (Y.length : Int)) = false := decide_eq_false (by omega)
  simp only [letO_some, cellsOf?_agg, cellsOf?_int, cellsOf?_bool, cellsOf?_imm, cellsOf?_ref, cellsOf?_nils, faddr_iptr, faddr_ptr, List.drop_succ_cons, List.drop_zero, List.take_succ_cons, List.take_zero, load1_iptr, loadN_iptr, List.length_cons, List.length_nil, Nat.le_refl, if_true, List.getElem?_cons_zero, List.getElem?_cons_succ, List.getD_cons_zero, List.getD_cons_succ, extrF_tup, binF_add, binF_sub, binF_mul, binF_eql, binF_neq, binF_lss, binF_leq, binF_gtr, binF_geq, true_and, hlen, e1, e2, condA_ff]
  refine ⟨fun L H' => ∃ i : Nat, eqt L [.int .i64 i] ∧ i ≤ Y.length ∧ H.le H', fun L _ => (Y.length - iv L 0).toNat, ⟨0, rfl, by omega, Heap.le_refl _⟩, ?_⟩
  rintro L H1 ⟨i, rfl, hi, hle⟩
  try simp only [letO_some, cellsOf?_agg, cellsOf?_int, cellsOf?_bool, cellsOf?_imm, cellsOf?_ref, cellsOf?_nils, faddr_iptr, faddr_ptr, List.drop_succ_cons, List.drop_zero, List.take_succ_cons, List.take_zero, load1_iptr, loadN_iptr, List.length_cons, List.length_nil, Nat.le_refl, if_true, List.getElem?_cons_zero, List.getElem?_cons_succ, List.getD_cons_zero, List.getD_cons_succ, extrF_tup, binF_add, binF_sub, binF_mul, binF_eql, binF_neq, binF_lss, binF_leq, binF_gtr, binF_geq, true_and]
  refine condA_t (fun hlt => ?_) (fun hge => ?_)
  · have a1 : i < Y.length := by omega
    refine ReadsC.getN hle hv (by omega) (by rw [srs_len]; omega) ?_
    rw [Int.toNat_natCast, rows_get prC_len (srs_get a1)]
    have hyi : Y.getD i 0 ≤ 100 := by
      rw [List.getD_eq_getElem?_getD, List.getElem?_eq_getElem a1]; exact hy _ (List.getElem_mem a1)
    generalize Y.getD i 0 = y at *
    refine alloc_store (cs := prC (y, 1)) rfl rfl rfl rfl fun b4 hb4 => ?_
    have hle2 := Heap.le_trans hle (Heap.le_new (c := prC (y, 1)) hb4)
    have h4 : (H1.put b4 (prC (y, 1))) b4 = some (prC (y, 1)) := Heap.put_same
    generalize H1.put b4 (prC (y, 1)) = H2 at *
    have f0 : faddr 0 (.ptr b4 0) = some (.ptr b4 0) := rfl
    have f1 : faddr 1 (.ptr b4 0) = some (.ptr b4 1) := rfl
    have l0 : load1 (.ptr b4 0) H2 = some (.int .i64 (y : Int)) := load1_at h4 rfl
    have l1 : load1 (.ptr b4 1) H2 = some (.int .i64 1) := load1_at h4 rfl
    have x1 : decide ((y : Int) < 0) = false := decide_eq_false (by omega)
    have x2 : decide ((100 : Int) < (y : Int)) = false := decide_eq_false (by omega)
    have x3 : decide ((1 : Int) < 1) = false := by decide
    have x4 : decide ((9 : Int) < 1) = false := by decide
    simp only [letO_some, cellsOf?_agg, cellsOf?_int, cellsOf?_bool, cellsOf?_imm, cellsOf?_ref, cellsOf?_nils, faddr_iptr, faddr_ptr, List.drop_succ_cons, List.drop_zero, List.take_succ_cons, List.take_zero, load1_iptr, loadN_iptr, List.length_cons, List.length_nil, Nat.le_refl, if_true, List.getElem?_cons_zero, List.getElem?_cons_succ, List.getD_cons_zero, List.getD_cons_succ, extrF_tup, binF_add, binF_sub, binF_mul, binF_eql, binF_neq, binF_lss, binF_leq, binF_gtr, binF_geq, true_and, f0, f1, l0, l1, x1, x2, x3, x4, gval_bool, Int.reduceBNe, Int.reduceBEq, pickF_true, pickF_false, reduceIte, Bool.true_eq_false, Bool.false_eq_true, if_false, condA_tt, condA_ff, condG_tt, condG_ff, condG_tt', condG_ff', condG_undef, gval_undef]
    rw [wrap_i64 (by omega) (by omega)]
    exact ⟨⟨i + 1, rfl, by omega, hle2⟩, by simp [iv]; omega⟩
  · exact endK_pub (Pub.drop hle) (endK_ret hk)
theorem i64_shl {t : TypeId} {k : Nat} (hk : k < 8) : binF Tryd.prog .shl t (.int .i64 1) (.int .i64 (k : Int)) = some (.int .i64 ((2 ^ k : Nat) : Int)) := by
  have h : k = 0 ∨ k = 1 ∨ k = 2 ∨ k = 3 ∨ k = 4 ∨ k = 5 ∨ k = 6 ∨ k = 7 := by omega
  rcases h with rfl | rfl | rfl | rfl | rfl | rfl | rfl | rfl <;> rfl
theorem i64_shr {t : TypeId} {a k : Nat} (hk : k < 64) : binF Tryd.prog .shr t (.int .i64 (a : Int)) (.int .i64 (k : Int)) = some (.int .i64 ((a / 2 ^ k : Nat) : Int)) := by
  have e : min (k : Int).toNat 64 = k := by omega
  show (if (k : Int) < 0 then none else some (AV.int .i64 ((a : Int).fdiv (2 ^ min (k : Int).toNat 64)))) = _
  rw [if_neg (by omega), e]
  have : ((2 : Int) ^ k) = ((2 ^ k : Nat) : Int) := by simp
  rw [this, Int.ofNat_fdiv]
theorem i64_and1 {t : TypeId} {a : Nat} (ha : a < 2 ^ 64) : binF Tryd.prog .and t (.int .i64 (a : Int)) (.int .i64 1) = some (.int .i64 ((a &&& 1 : Nat) : Int)) := by
  show (if IntKind.i64 = IntKind.i64 then some (AV.int .i64 (IntKind.i64.wrap ((BitVec.ofInt 64 (a : Int) &&& BitVec.ofInt 64 1).toNat))) else none) = _
  have h1 : (BitVec.ofInt 64 1).toNat = 1 := by decide
  rw [if_pos rfl, BitVec.toNat_and, u64_nat ha, h1]
  have h2 : a &&& 1 ≤ 1 := Nat.and_le_right
  rw [wrap_i64 (by omega) (by omega)]
theorem eqs_nil : binF Tryd.prog .eql 35 .nils .nils = some (.bool true) := by
  have h : Tryd.prog.underlying 35 = some (.slice 3) := by kernel_rfl
  show (eqF Tryd.prog 35 .nils .nils).map AV.bool = _
  simp only [eqF, h]; rfl
theorem eqs_ref {s b o n : Nat} {c : Option Nat} : binF Tryd.prog .eql 35 (.ref s b o n c) .nils = some (.bool false) := by
  have h : Tryd.prog.underlying 35 = some (.slice 3) := by kernel_rfl
  show (eqF Tryd.prog 35 (.ref s b o n c) .nils).map AV.bool = _
  simp only [eqF, h]; rfl
theorem flt_ls : ∀ n : Fin 8, ∀ s : Fin 128, s.val < 2 ^ n.val → (List.range n.val).filter (fun i => s.val.testBit i) = lsN s.val := by decide +kernel
theorem ls_ne : ∀ s : Fin 128, s.val ≠ 0 → lsN s.val ≠ [] := by decide +kernel
/-- The best list so far, as a value. -/
def BX (H H' : Heap) (X : AV) (st : List Nat × Nat) : Prop := (st.2 = 0 ∧ X = .nils) ∨ (st.2 ≠ 0 ∧ ∃ b, H b = none ∧ X = .ref 1 b 0 st.1.length none ∧ H' b = some (ints (up st.1)))
theorem BX.le {H H' H'' : Heap} {X : AV} {st : List Nat × Nat} (h : BX H H' X st) (hl : H'.le H'') : BX H H'' X st := by
  rcases h with h | ⟨h1, b, h2, h3, h4⟩
  · exact .inl h
  · exact .inr ⟨h1, b, h2, h3, hl _ _ h4⟩
/-- reign.Wrong -/
theorem c20 {v : AV} {Y : List Nat} {H : Heap} {K : AV → Heap → Prop} (hv : RP H v (srs Y)) (h1 : 1 ≤ Y.length) (h5 : Y.length ≤ 5) (hy : ∀ y ∈ Y, y ≤ 100) (hk : K (.tup [sl (up (shS Y.length (falls Y)).1), .int .i64 0]) H) :
    ACalls Tryd.prog 20 [v] H K := by
  apply W20_ok
  unfold W20
  have hlen := ReadsC.len hv
  rw [srs_len] at hlen
  have e0 : ((0 : Int) != 0) = false := rfl
  have h2n : 2 ^ Y.length ≤ 2 ^ 5 := Nat.pow_le_pow_right (by omega) h5
  have hF := falls_fd h1 h5
  try simp only [letO_some, cellsOf?_agg, cellsOf?_int, cellsOf?_bool, cellsOf?_imm, cellsOf?_ref, cellsOf?_nils, faddr_iptr, faddr_ptr, List.drop_succ_cons, List.drop_zero, List.take_succ_cons, List.take_zero, load1_iptr, loadN_iptr, List.length_cons, List.length_nil, Nat.le_refl, if_true, List.getElem?_cons_zero, List.getElem?_cons_succ, List.getD_cons_zero, List.getD_cons_succ, extrF_tup, binF_add, binF_sub, binF_mul, binF_eql, binF_neq, binF_lss, binF_leq, binF_gtr, binF_geq, true_and]
  refine c46 hv h1 (by omega) hy ?_
  simp only [letO_some, cellsOf?_agg, cellsOf?_int, cellsOf?_bool, cellsOf?_imm, cellsOf?_ref, cellsOf?_nils, faddr_iptr, faddr_ptr, List.drop_succ_cons, List.drop_zero, List.take_succ_cons, List.take_zero, load1_iptr, loadN_iptr, List.length_cons, List.length_nil, Nat.le_refl, if_true, List.getElem?_cons_zero, List.getElem?_cons_succ, List.getD_cons_zero, List.getD_cons_succ, extrF_tup, binF_add, binF_sub, binF_mul, binF_eql, binF_neq, binF_lss, binF_leq, binF_gtr, binF_geq, true_and, e0, condA_ff, hlen, i64_shl (show Y.length < 8 by omega)]
  refine ⟨fun L H' => ∃ (s : Nat) (X : AV), eqt L [X, .int .i64 (s : Int)] ∧ s ≤ 2 ^ Y.length ∧ H.le H' ∧ BX H H' X ((List.range s).foldl (shF (falls Y)) ([], 0)) ∧ (1 ≤ s → expl (falls Y) 0 = false),
    fun L _ => (2 ^ Y.length - iv L 1).toNat, ⟨0, .nils, rfl, Nat.zero_le _, Heap.le_refl _, .inl ⟨rfl, rfl⟩, by omega⟩, ?_⟩
  rintro L H5 ⟨s, X, rfl, hs, hle5, hbx, hz⟩
  have p2 : ((2 ^ Y.length : Nat) : Int) = (2 : Int) ^ Y.length := by simp
  obtain ⟨q1, q2⟩ := sh_len (falls Y) (List.range s)
  rw [List.length_range] at q2
  try simp only [letO_some, cellsOf?_agg, cellsOf?_int, cellsOf?_bool, cellsOf?_imm, cellsOf?_ref, cellsOf?_nils, faddr_iptr, faddr_ptr, List.drop_succ_cons, List.drop_zero, List.take_succ_cons, List.take_zero, load1_iptr, loadN_iptr, List.length_cons, List.length_nil, Nat.le_refl, if_true, List.getElem?_cons_zero, List.getElem?_cons_succ, List.getD_cons_zero, List.getD_cons_succ, extrF_tup, binF_add, binF_sub, binF_mul, binF_eql, binF_neq, binF_lss, binF_leq, binF_gtr, binF_geq, true_and]
  refine condA_t (fun hlt => ?_) (fun hge => ?_)
  · have hs2 : s < 2 ^ Y.length := by omega
    have hr : (List.range (s + 1)).foldl (shF (falls Y)) ([], 0) = shF (falls Y) ((List.range s).foldl (shF (falls Y)) ([], 0)) s := by rw [List.range_succ, List.foldl_append]; rfl
    have hfl := flt_ls ⟨Y.length, by omega⟩ ⟨s, by omega⟩ hs2
    simp only at hfl
    refine ⟨fun L H' => ∃ X', eqt L [X'] ∧ H.le H' ∧ BX H H' X' ((List.range (s + 1)).foldl (shF (falls Y)) ([], 0)) ∧ expl (falls Y) 0 = false, ?_, ?_⟩
    · rw [hr]
      generalize (List.range s).foldl (shF (falls Y)) ([], 0) = st at *
      refine ⟨fun L H' => ∃ (i : Nat) (O : AV) (Hg : Heap), eqt L [O, .bool ((List.range i).foldl (gdF Y s) (true, -1)).1, .int .i64 ((List.range i).foldl (gdF Y s) (true, -1)).2, .int .i64 (i : Int)] ∧ i ≤ Y.length ∧ H5.le Hg ∧
          Grow 1 Hg H' O ((List.range i).filter fun x => s.testBit x).length (ints (up ((List.range i).filter fun x => s.testBit x))) ∧ (((List.range i).filter fun x => s.testBit x) = [] ∧ O = .nils ∨ ((List.range i).filter fun x => s.testBit x) ≠ [] ∧ isOwn O),
        fun L _ => (Y.length - iv L 3).toNat, ⟨0, .nils, H5, rfl, by omega, Heap.le_refl _, Grow.nils 1 H5, .inl ⟨rfl, rfl⟩⟩, ?_⟩
      rintro L H10 ⟨i, O, Hg, rfl, hi, hleg, hg, hO⟩
      have hfle : ((List.range i).filter fun x => s.testBit x).length ≤ i := by
        have := List.length_filter_le (fun x => s.testBit x) (List.range i)
        simpa using this
      try simp only [letO_some, cellsOf?_agg, cellsOf?_int, cellsOf?_bool, cellsOf?_imm, cellsOf?_ref, cellsOf?_nils, faddr_iptr, faddr_ptr, List.drop_succ_cons, List.drop_zero, List.take_succ_cons, List.take_zero, load1_iptr, loadN_iptr, List.length_cons, List.length_nil, Nat.le_refl, if_true, List.getElem?_cons_zero, List.getElem?_cons_succ, List.getD_cons_zero, List.getD_cons_succ, extrF_tup, binF_add, binF_sub, binF_mul, binF_eql, binF_neq, binF_lss, binF_leq, binF_gtr, binF_geq, true_and]
      refine condA_t (fun hlt2 => ?_) (fun hge2 => ?_)
      · have i1 : i < Y.length := by omega
        have hfs : (List.range (i + 1)).filter (fun x => s.testBit x) = (List.range i).filter (fun x => s.testBit x) ++ [i].filter (fun x => s.testBit x) := by rw [List.range_succ, List.filter_append]
        refine ⟨fun L H' => ∃ (O : AV) (Hg : Heap), eqt L [O, .bool ((List.range (i + 1)).foldl (gdF Y s) (true, -1)).1, .int .i64 ((List.range (i + 1)).foldl (gdF Y s) (true, -1)).2] ∧ H5.le Hg ∧
          Grow 1 Hg H' O ((List.range (i + 1)).filter fun x => s.testBit x).length (ints (up ((List.range (i + 1)).filter fun x => s.testBit x))) ∧ (((List.range (i + 1)).filter fun x => s.testBit x) = [] ∧ O = .nils ∨ ((List.range (i + 1)).filter fun x => s.testBit x) ≠ [] ∧ isOwn O), ?_, ?_⟩
        · refine ReadsC.getN (Heap.le_trans (Heap.le_trans hle5 hleg) hg.le) hv (by omega) (by rw [srs_len]; omega) ?_
          rw [Int.toNat_natCast, rows_get prC_len (srs_get i1), gd_snoc, hfs]
          rw [gdF]
          generalize (List.range i).foldl (gdF Y s) (true, -1) = gl at *
          obtain ⟨good, last⟩ := gl
          generalize (List.range i).filter (fun x => s.testBit x) = fl at *
          generalize Y.getD i 0 = y at *
          refine alloc_store (cs := prC (y, 1)) rfl rfl rfl rfl fun b11 hb11 => ?_
          have h11 : (H10.put b11 (prC (y, 1))) b11 = some (prC (y, 1)) := Heap.put_same
          have hg11 : Grow 1 (Hg.put b11 (prC (y, 1))) (H10.put b11 (prC (y, 1))) O _ _ := alloc_grow hg hb11
          have hle11 : H5.le (Hg.put b11 (prC (y, 1))) := Heap.le_trans hleg (Heap.le_new (none_of_le hg.le hb11))
          generalize H10.put b11 (prC (y, 1)) = H11 at *
          generalize Hg.put b11 (prC (y, 1)) = Hg11 at *
          have f0 : faddr 0 (.ptr b11 0) = some (.ptr b11 0) := rfl
          have l0 : load1 (.ptr b11 0) H11 = some (.int .i64 (y : Int)) := load1_at h11 rfl
          have p64 : (2 : Nat) ^ 64 = 18446744073709551616 := by decide
          have hand : ∀ t, binF Tryd.prog .and t (.int .i64 ((s / 2 ^ i : Nat) : Int)) (.int .i64 1) = some (.int .i64 ((s / 2 ^ i &&& 1 : Nat) : Int)) := fun t => i64_and1 (by have := Nat.div_le_self s (2 ^ i); omega)
          simp only [letO_some, i64_shr (show i < 64 by omega), hand, binF_eql, u64_bit, f0, l0]
          cases hb : s.testBit i
          · have hf1 : [i].filter (fun x => s.testBit x) = [] := by simp [hb]
            simp only [condA_ff, letO_some, hf1, List.append_nil, Bool.false_eq_true, if_false]
            cases good
            · simp only [gval_bool, Int.reduceBNe, Int.reduceBEq, pickF_true, pickF_false, reduceIte, Bool.true_eq_false, Bool.false_eq_true, if_false, condA_tt, condA_ff, condG_tt, condG_ff, condG_tt', condG_ff', condG_undef, gval_undef, letO_some, Bool.false_and]
              exact ⟨O, Hg11, rfl, hle11, hg11, hO⟩
            · simp only [gval_bool, Int.reduceBNe, Int.reduceBEq, pickF_true, pickF_false, reduceIte, Bool.true_eq_false, Bool.false_eq_true, if_false, condA_tt, condA_ff, condG_tt, condG_ff, condG_tt', condG_ff', condG_undef, gval_undef, letO_some, f0, l0, binF_geq, Bool.true_and]
              exact ⟨O, Hg11, rfl, hle11, hg11, hO⟩
          · have hf1 : [i].filter (fun x => s.testBit x) = [i] := by simp [hb]
            simp only [condA_tt, letO_some, hf1, if_true, l35 cellsOf?_int]
            refine appendA_oneR hg11 (by omega) fun v' H12 hg12 ho12 => ?_
            try simp only [letO_some]
            have hup : up (fl ++ [i]) = up fl ++ [(i : Int)] := by simp [up]
            refine ⟨v', Hg11, rfl, hle11, ?_, .inr ⟨by simp, ho12⟩⟩
            rw [hup, List.length_append]
            exact hg12
        · rintro L H11 ⟨O', Hg', rfl, hle', hg', hO'⟩
          try simp only [letO_some, cellsOf?_agg, cellsOf?_int, cellsOf?_bool, cellsOf?_imm, cellsOf?_ref, cellsOf?_nils, faddr_iptr, faddr_ptr, List.drop_succ_cons, List.drop_zero, List.take_succ_cons, List.take_zero, load1_iptr, loadN_iptr, List.length_cons, List.length_nil, Nat.le_refl, if_true, List.getElem?_cons_zero, List.getElem?_cons_succ, List.getD_cons_zero, List.getD_cons_succ, extrF_tup, binF_add, binF_sub, binF_mul, binF_eql, binF_neq, binF_lss, binF_leq, binF_gtr, binF_geq, true_and]
          rw [wrap_i64 (by omega) (by omega)]
          exact ⟨⟨i + 1, O', Hg', rfl, by omega, hle', hg', hO'⟩, by simp [iv]; omega⟩
      · have hie : i = Y.length := by omega
        subst hie
        have hgood : ((List.range Y.length).foldl (gdF Y s) (true, -1)).1 = expl (falls Y) s := good_expl
        rw [hgood]
        rw [hfl] at hg hO
        have hleH : H.le H10 := Heap.le_trans (Heap.le_trans hle5 hleg) hg.le
        have hbx' : BX H H10 X st := hbx.le (Heap.le_trans hleg hg.le)
        have hOl := hg.len
        have hll := ls_len s
        -- the list that is taken
        have take : ∀ (m : Nat), m ≠ 0 → s ≠ 0 → BX H H10 O (lsN s, m) := by
          intro m hm hs0
          have hne := ls_ne ⟨s, by omega⟩ hs0
          simp only at hne
          rcases hO with ⟨h, _⟩ | ⟨_, ho⟩
          · exact absurd h hne
          · obtain ⟨b, hb, hO2, hH⟩ := hg.own ho
            exact .inr ⟨hm, b, none_of_le (Heap.le_trans hle5 hleg) hb, hO2, by rw [hH]; exact Heap.put_same⟩
        have hown : s ≠ 0 → ∃ b, O = .ref 1 b 0 (lsN s).length none := by
          intro hs0
          have hne := ls_ne ⟨s, by omega⟩ hs0
          simp only at hne
          rcases hO with ⟨h, _⟩ | ⟨_, ho⟩
          · exact absurd h hne
          · obtain ⟨b, hb, hO2, hH⟩ := hg.own ho
            exact ⟨b, hO2⟩
        obtain ⟨best, many⟩ := st
        simp only at q1 q2
        rw [shF]
        have hz0 : s = 0 ∨ expl (falls Y) 0 = false := by
          by_cases h : s = 0
          · exact .inl h
          · exact .inr (hz (by omega))
        cases hE : expl (falls Y) s
        · -- it falls
          have hz1 : expl (falls Y) 0 = false := by
            rcases hz0 with h | h
            · rw [← h]; exact hE
            · exact h
          try simp only [gval_bool, Int.reduceBNe, Int.reduceBEq, pickF_true, pickF_false, reduceIte, Bool.true_eq_false, Bool.false_eq_true, if_false, condA_tt, condA_ff, condG_tt, condG_ff, condG_tt', condG_ff', condG_undef, gval_undef, letO_some]
          refine exU ?_
          try simp only [gval_bool, Int.reduceBNe, Int.reduceBEq, pickF_true, pickF_false, reduceIte, Bool.true_eq_false, Bool.false_eq_true, if_false, condA_tt, condA_ff, condG_tt, condG_ff, condG_tt', condG_ff', condG_undef, gval_undef, letO_some]
          rw [if_pos (.inl trivial)]
          exact ⟨X, rfl, hleH, hbx', hz1⟩
        · rcases hbx' with ⟨hm0, hX⟩ | ⟨hm0, b, hb, hX, hHb⟩
          · simp only at hm0
            subst hm0; subst hX
            simp only [gval_bool, Int.reduceBNe, Int.reduceBEq, pickF_true, pickF_false, reduceIte, Bool.true_eq_false, Bool.false_eq_true, if_false, condA_tt, condA_ff, condG_tt, condG_ff, condG_tt', condG_ff', condG_undef, gval_undef, letO_some, eqs_nil]
            refine exU ?_
            try simp only [gval_bool, Int.reduceBNe, Int.reduceBEq, pickF_true, pickF_false, reduceIte, Bool.true_eq_false, Bool.false_eq_true, if_false, condA_tt, condA_ff, condG_tt, condG_ff, condG_tt', condG_ff', condG_undef, gval_undef, letO_some]
            rw [if_neg (by simp), if_pos (.inl trivial)]
            by_cases hs0 : s = 0
            · subst hs0
              have hOn : O = .nils := by
                have hl0 : lsN 0 = [] := by decide
                rcases hO with ⟨_, h⟩ | ⟨h, _⟩
                · exact h
                · exact absurd hl0 h
              subst hOn
              simp only [eqs_nil, condA_tt, letO_some]
              obtain ⟨-, i2, -⟩ := sh_inv (falls Y) (List.range (2 ^ Y.length))
              have hd : (List.range (2 ^ Y.length)).foldl (shF (falls Y)) ([], 0) = shS Y.length (falls Y) := rfl
              rw [hd] at i2
              have p1 : 1 ≤ 2 ^ Y.length := Nat.one_le_two_pow
              have h3 := (i2 0 (List.mem_range.2 (by omega)) hE).1
              have hl0 : lsN 0 = [] := by decide
              rw [hl0] at h3
              have h4 : (shS Y.length (falls Y)).1 = [] := List.eq_nil_of_length_eq_zero (by simpa using h3)
              rw [h4] at hk
              refine endK_all hleH 2 ?_
              exact hk
            · obtain ⟨b, hO2⟩ := hown hs0
              have htk := take 1 (by omega) hs0
              subst hO2
              simp only [eqs_ref, condA_ff, letO_some]
              exact ⟨_, rfl, hleH, htk, hz (by omega)⟩
          · simp only at hm0 hX hHb
            subst hX
            have hs0 : s ≠ 0 := by
              rintro rfl
              simp at q2
              exact hm0 q2
            obtain ⟨bo, hO2⟩ := hown hs0
            have hXl : lenA (.ref 1 b 0 best.length none) = some (.int .i64 (best.length : Int)) := rfl
            have hXr : Reads H10 (.ref 1 b 0 best.length none) (up best) := ⟨rfl, by simp, ints (up best), hHb, by simp, by rw [List.drop_zero, List.take_of_length_le (by simp)]⟩
            have hbxk : ∀ m, m ≠ 0 → BX H H10 (.ref 1 b 0 best.length none) (best, m) := fun m hm => .inr ⟨hm, b, hb, rfl, hHb⟩
            simp only [gval_bool, Int.reduceBNe, Int.reduceBEq, pickF_true, pickF_false, reduceIte, Bool.true_eq_false, Bool.false_eq_true, if_false, condA_tt, condA_ff, condG_tt, condG_ff, condG_tt', condG_ff', condG_undef, gval_undef, letO_some, eqs_ref, hOl, hXl, binF_lss]
            by_cases h2 : (lsN s).length < best.length
            · have e1 : decide (((lsN s).length : Int) < (best.length : Int)) = true := decide_eq_true (by omega)
              have htk := take 1 (by omega) hs0
              simp only [e1, gval_bool, Int.reduceBNe, Int.reduceBEq, pickF_true, pickF_false, reduceIte, Bool.true_eq_false, Bool.false_eq_true, if_false, condA_tt, condA_ff, condG_tt, condG_ff, condG_tt', condG_ff', condG_undef, gval_undef, letO_some]
              refine exU ?_
              try simp only [gval_bool, Int.reduceBNe, Int.reduceBEq, pickF_true, pickF_false, reduceIte, Bool.true_eq_false, Bool.false_eq_true, if_false, condA_tt, condA_ff, condG_tt, condG_ff, condG_tt', condG_ff', condG_undef, gval_undef, letO_some]
              rw [if_neg (by simp; omega), if_pos (.inr h2)]
              subst hO2
              simp only [eqs_ref, condA_ff, letO_some]
              exact ⟨_, rfl, hleH, htk, hz (by omega)⟩
            · have e1 : decide (((lsN s).length : Int) < (best.length : Int)) = false := decide_eq_false (by omega)
              simp only [e1, gval_bool, Int.reduceBNe, Int.reduceBEq, pickF_true, pickF_false, reduceIte, Bool.true_eq_false, Bool.false_eq_true, if_false, condA_tt, condA_ff, condG_tt, condG_ff, condG_tt', condG_ff', condG_undef, gval_undef, letO_some, hOl, hXl, binF_eql]
              by_cases h3 : (lsN s).length = best.length
              · have e2 : (((lsN s).length : Int) == (best.length : Int)) = true := by rw [beq_iff_eq]; omega
                simp only [e2, gval_bool, Int.reduceBNe, Int.reduceBEq, pickF_true, pickF_false, reduceIte, Bool.true_eq_false, Bool.false_eq_true, if_false, condA_tt, condA_ff, condG_tt, condG_ff, condG_tt', condG_ff', condG_undef, gval_undef, letO_some]
                refine exJ (c35 hg.reads hXr (by simp; omega) (by simp; omega) ?_)
                rw [if_neg (by simp; omega), if_neg (by omega)]
                simp only [gval_bool, Int.reduceBNe, Int.reduceBEq, pickF_true, pickF_false, reduceIte, Bool.true_eq_false, Bool.false_eq_true, if_false, condA_tt, condA_ff, condG_tt, condG_ff, condG_tt', condG_ff', condG_undef, gval_undef, letO_some, binF_lss]
                by_cases hc : cmpL (up (lsN s)) (up best) < 0
                · have e3 : decide (cmpL (up (lsN s)) (up best) < 0) = true := decide_eq_true hc
                  have htk := take (many + 1) (by omega) hs0
                  simp only [e3, gval_bool, Int.reduceBNe, Int.reduceBEq, pickF_true, pickF_false, reduceIte, Bool.true_eq_false, Bool.false_eq_true, if_false, condA_tt, condA_ff, condG_tt, condG_ff, condG_tt', condG_ff', condG_undef, gval_undef, letO_some]
                  rw [if_pos hc]
                  subst hO2
                  simp only [eqs_ref, condA_ff, letO_some]
                  exact ⟨_, rfl, hleH, htk, hz (by omega)⟩
                · have e3 : decide (cmpL (up (lsN s)) (up best) < 0) = false := decide_eq_false hc
                  simp only [e3, gval_bool, Int.reduceBNe, Int.reduceBEq, pickF_true, pickF_false, reduceIte, Bool.true_eq_false, Bool.false_eq_true, if_false, condA_tt, condA_ff, condG_tt, condG_ff, condG_tt', condG_ff', condG_undef, gval_undef, letO_some]
                  rw [if_neg hc]
                  exact ⟨_, rfl, hleH, hbxk _ (by omega), hz (by omega)⟩
              · have e2 : (((lsN s).length : Int) == (best.length : Int)) = false := by rw [beq_eq_false_iff_ne]; omega
                simp only [e2, gval_bool, Int.reduceBNe, Int.reduceBEq, pickF_true, pickF_false, reduceIte, Bool.true_eq_false, Bool.false_eq_true, if_false, condA_tt, condA_ff, condG_tt, condG_ff, condG_tt', condG_ff', condG_undef, gval_undef, letO_some]
                refine exU ?_
                try simp only [gval_bool, Int.reduceBNe, Int.reduceBEq, pickF_true, pickF_false, reduceIte, Bool.true_eq_false, Bool.false_eq_true, if_false, condA_tt, condA_ff, condG_tt, condG_ff, condG_tt', condG_ff', condG_undef, gval_undef, letO_some]
                rw [if_pos (.inr ⟨by omega, by omega⟩)]
                exact ⟨_, rfl, hleH, hbxk _ hm0, hz (by omega)⟩
    · rintro L H6 ⟨X', rfl, hle6, hbx6, hz6⟩
      try simp only [letO_some, cellsOf?_agg, cellsOf?_int, cellsOf?_bool, cellsOf?_imm, cellsOf?_ref, cellsOf?_nils, faddr_iptr, faddr_ptr, List.drop_succ_cons, List.drop_zero, List.take_succ_cons, List.take_zero, load1_iptr, loadN_iptr, List.length_cons, List.length_nil, Nat.le_refl, if_true, List.getElem?_cons_zero, List.getElem?_cons_succ, List.getD_cons_zero, List.getD_cons_succ, extrF_tup, binF_add, binF_sub, binF_mul, binF_eql, binF_neq, binF_lss, binF_leq, binF_gtr, binF_geq, true_and]
      rw [wrap_i64 (by omega) (by omega)]
      exact ⟨⟨s + 1, X', rfl, by omega, hle6, hbx6, fun _ => hz6⟩, by simp [iv]; omega⟩
  · have hse : s = 2 ^ Y.length := by omega
    subst hse
    have hd : (List.range (2 ^ Y.length)).foldl (shF (falls Y)) ([], 0) = shS Y.length (falls Y) := rfl
    rw [hd] at hbx
    have p1 : 1 ≤ 2 ^ Y.length := Nat.one_le_two_pow
    have hpos : (shS Y.length (falls Y)).2 ≠ 0 := sh_pos (full_expl hF) (List.mem_range.2 (by omega))
    rcases hbx with ⟨h, _⟩ | ⟨_, b, hb, hX, hHb⟩
    · exact absurd h hpos
    · subst hX
      refine endK_all hle5 2 ?_
      have hc := conv_own (H := H) (H' := H5) hb hHb 0 (n := (shS Y.length (falls Y)).1.length) (by simp)
      have : conv H H5 2 (.tup [.ref 1 b 0 (shS Y.length (falls Y)).1.length none, .int .i64 0]) = .tup [sl (up (shS Y.length (falls Y)).1), .int .i64 0] := by
        rw [conv]
        simp only [List.map, hc, conv_int]
      rw [this]
      exact hk
end Go.Proofs.YtmmfelpgcdlgfaaDoor

namespace Go.Proofs.YtmmfelpgcdlgfaaDoor
open Go.Av
set_option linter.unusedVariables false
set_option linter.unusedSimpArgs false
set_option maxRecDepth 8000

theorem idx_fst {H H' : Heap} (hl : H.le H') {v : AV} {Y : List Nat} (h : RP H v (srs Y)) {i : Int} {k : AV → Prop} (hi : 0 ≤ i) (hi2 : i < Y.length) (hk : k (.int .i64 (Y.getD i.toNat 0 : Nat))) :
    letO (idx 2 v (.int .i64 i)) fun p => letO (faddr 0 p) fun q => letO (load1 q H') k := by
  obtain ⟨h0, h⟩ := h
  rw [srs_len] at h h0
  have hget : ((srs Y).flatMap prC)[i.toNat * 2]? = some (.int .i64 (Y.getD i.toNat 0 : Nat)) := by
    have := rows_at (f := prC) prC_len (l := srs Y) (i := i.toNat) (k := 0) (srs_get (by omega)) (by omega)
    rw [Nat.add_zero] at this
    rw [this]; rfl
  cases v <;> simp only at h <;> try exact h.elim
  · omega
  · obtain ⟨rfl, rfl⟩ := h
    simp only [idx, hi, hi2, and_self, if_true, letO_some]
    have f0 : ∀ cs, faddr 0 (.iptr cs) = some (.iptr (cs.drop 0)) := fun cs => rfl
    simp only [f0, List.drop_zero, letO_some, load1_iptr, List.getElem?_drop, Nat.add_zero, hget]
    exact hk
  · rename_i s b off m cp
    obtain ⟨rfl, rfl, cs, h1, h2, h3⟩ := h
    have e : cs[off + i.toNat * 2]? = some (.int .i64 (Y.getD i.toNat 0 : Nat)) := by
      rw [← h3, List.getElem?_take_of_lt (by omega), List.getElem?_drop] at hget
      exact hget
    simp only [idx, hi, hi2, and_self, if_true, letO_some]
    have f0 : ∀ o, faddr 0 (.ptr b o) = some (.ptr b (o + 0)) := fun o => rfl
    simp only [f0, Nat.add_zero, letO_some, load1_ptr, hl _ _ h1, Option.bind_some, e]
    exact hk
/-- reign.Falls -/
theorem c21 {v : AV} {Y : List Nat} {H : Heap} {K : AV → Heap → Prop} (hv : RP H v (srs Y)) (h1 : 1 ≤ Y.length) (h8 : Y.length ≤ 8) (hy : ∀ y ∈ Y, y ≤ 100) (hk : ∀ i, K (.tup [.int .i64 i, .int .i64 (if falls Y = [] then 13 else 0)]) H) :
    ACalls Tryd.prog 21 [v] H K := by
  apply W21_ok
  unfold W21
  have hlen := ReadsC.len hv
  rw [srs_len] at hlen
  have e0 : ((0 : Int) != 0) = false := rfl
  have ws : IntKind.i64.wrap ((Y.length : Int) - 1) = ((Y.length - 1 : Nat) : Int) := by rw [wrap_i64 (by omega) (by omega)]; omega
  try simp only [letO_some, cellsOf?_agg, cellsOf?_int, cellsOf?_bool, cellsOf?_imm, cellsOf?_ref, cellsOf?_nils, faddr_iptr, faddr_ptr, List.drop_succ_cons, List.drop_zero, List.take_succ_cons, List.take_zero, load1_iptr, loadN_iptr, List.length_cons, List.length_nil, Nat.le_refl, if_true, List.getElem?_cons_zero, List.getElem?_cons_succ, List.getD_cons_zero, List.getD_cons_succ, extrF_tup, binF_add, binF_sub, binF_mul, binF_eql, binF_neq, binF_lss, binF_leq, binF_gtr, binF_geq, true_and]
  refine c46 hv h1 (by omega) hy ?_
  simp only [letO_some, cellsOf?_agg, cellsOf?_int, cellsOf?_bool, cellsOf?_imm, cellsOf?_ref, cellsOf?_nils, faddr_iptr, faddr_ptr, List.drop_succ_cons, List.drop_zero, List.take_succ_cons, List.take_zero, load1_iptr, loadN_iptr, List.length_cons, List.length_nil, Nat.le_refl, if_true, List.getElem?_cons_zero, List.getElem?_cons_succ, List.getD_cons_zero, List.getD_cons_succ, extrF_tup, binF_add, binF_sub, binF_mul, binF_eql, binF_neq, binF_lss, binF_leq, binF_gtr, binF_geq, true_and, e0, condA_ff, hlen, ws]
  refine ⟨fun L H' => ∃ i : Nat, eqt L [.int .i64 i] ∧ i + 1 ≤ Y.length ∧ eqt H' H ∧ ∀ j, j < i → Y.getD j 0 ≤ Y.getD (j + 1) 0, fun L _ => (Y.length - iv L 0).toNat, ⟨0, rfl, by omega, rfl, by simp⟩, ?_⟩
  rintro L H1 ⟨i, rfl, hi, rfl, hn⟩
  try simp only [letO_some, cellsOf?_agg, cellsOf?_int, cellsOf?_bool, cellsOf?_imm, cellsOf?_ref, cellsOf?_nils, faddr_iptr, faddr_ptr, List.drop_succ_cons, List.drop_zero, List.take_succ_cons, List.take_zero, load1_iptr, loadN_iptr, List.length_cons, List.length_nil, Nat.le_refl, if_true, List.getElem?_cons_zero, List.getElem?_cons_succ, List.getD_cons_zero, List.getD_cons_succ, extrF_tup, binF_add, binF_sub, binF_mul, binF_eql, binF_neq, binF_lss, binF_leq, binF_gtr, binF_geq, true_and]
  refine condA_t (fun hlt => ?_) (fun hge => ?_)
  · have wa : IntKind.i64.wrap ((i : Int) + 1) = ((i + 1 : Nat) : Int) := by rw [wrap_i64 (by omega) (by omega)]; omega
    refine idx_fst (Heap.le_refl _) hv (by omega) (by omega) ?_
    rw [Int.toNat_natCast]
    simp only [letO_some, cellsOf?_agg, cellsOf?_int, cellsOf?_bool, cellsOf?_imm, cellsOf?_ref, cellsOf?_nils, faddr_iptr, faddr_ptr, List.drop_succ_cons, List.drop_zero, List.take_succ_cons, List.take_zero, load1_iptr, loadN_iptr, List.length_cons, List.length_nil, Nat.le_refl, if_true, List.getElem?_cons_zero, List.getElem?_cons_succ, List.getD_cons_zero, List.getD_cons_succ, extrF_tup, binF_add, binF_sub, binF_mul, binF_eql, binF_neq, binF_lss, binF_leq, binF_gtr, binF_geq, true_and, wa]
    refine idx_fst (Heap.le_refl _) hv (by omega) (by omega) ?_
    rw [Int.toNat_natCast]
    try simp only [letO_some, cellsOf?_agg, cellsOf?_int, cellsOf?_bool, cellsOf?_imm, cellsOf?_ref, cellsOf?_nils, faddr_iptr, faddr_ptr, List.drop_succ_cons, List.drop_zero, List.take_succ_cons, List.take_zero, load1_iptr, loadN_iptr, List.length_cons, List.length_nil, Nat.le_refl, if_true, List.getElem?_cons_zero, List.getElem?_cons_succ, List.getD_cons_zero, List.getD_cons_succ, extrF_tup, binF_add, binF_sub, binF_mul, binF_eql, binF_neq, binF_lss, binF_leq, binF_gtr, binF_geq, true_and]
    refine condA_t (fun hc => ?_) (fun hc => ?_)
    · have : falls Y ≠ [] := fun h => by
        have := falls_nil.1 h i (by omega)
        omega
      have hk := hk i
      rw [if_neg this] at hk
      exact endK_ret hk
    · refine ⟨⟨i + 1, rfl, by omega, rfl, fun j hj => ?_⟩, by simp [iv]; omega⟩
      by_cases he : j = i
      · subst he; omega
      · exact hn j (by omega)
  · have : falls Y = [] := falls_nil.2 fun j hj => hn j (by omega)
    have hk := hk 0
    rw [if_pos this] at hk
    exact endK_ret hk
theorem b59 (a b : Nat) : buildF Tryd.prog 59 [(0, .int .i64 (a : Int)), (1, .int .i64 (b : Int))] = some (.agg (prC (a, b))) := by
  rw [buildF_of (show buildPlan Tryd.prog 59 = some ([.int .i64 0, .int .i64 0], [(0, 1), (1, 1)]) by kernel_rfl)]
  simp [fillA, splice, prC]
theorem l57_1 (p : Nat × Nat) : literalF Tryd.prog 57 1 [(0, .agg (prC p))] = some (prC p) := by
  rw [literalF_of (show literalPlan Tryd.prog 57 = some ([.int .i64 0, .int .i64 0], 2) by kernel_rfl) (by decide) (by simp)]
  simp [fillA, splice, rowOf, prC]
theorem l57_3 (p q r : Nat × Nat) : literalF Tryd.prog 57 3 [(0, .agg (prC p)), (1, .agg (prC q)), (2, .agg (prC r))] = some (prC p ++ prC q ++ prC r) := by
  rw [literalF_of (show literalPlan Tryd.prog 57 = some ([.int .i64 0, .int .i64 0], 2) by kernel_rfl) (by decide) (by simp)]
  simp [fillA, splice, rowOf, prC, List.range_succ]
theorem l35_1 (a : Int) : literalF Tryd.prog 35 1 [(0, .int .i64 a)] = some (ints [a]) := l35 cellsOf?_int
/-- reignsWork -/
theorem c22 {H : Heap} {K : AV → Heap → Prop} (hk : K (.bool true) H) : ACalls Tryd.prog 22 [] H K := by
  apply W22_ok
  unfold W22
  have b1 := b59 3 1
  have b2 := b59 1 1
  have b3 := b59 2 1
  simp only [Int.cast_ofNat_Int, Int.natCast_one] at b1 b2 b3
  simp only [letO_some, b1, b2, b3, l57_3]
  refine c20 (Y := [3, 1, 2]) (ReadsC.imm rfl) (by decide) (by decide) (by decide) ?_
  have hs : (shS [3, 1, 2].length (falls [3, 1, 2])).1 = [0] := by decide +kernel
  rw [hs]
  have e0 : ((0 : Int) == 0) = true := rfl
  simp only [letO_some, cellsOf?_agg, cellsOf?_int, cellsOf?_bool, cellsOf?_imm, cellsOf?_ref, cellsOf?_nils, faddr_iptr, faddr_ptr, List.drop_succ_cons, List.drop_zero, List.take_succ_cons, List.take_zero, load1_iptr, loadN_iptr, List.length_cons, List.length_nil, Nat.le_refl, if_true, List.getElem?_cons_zero, List.getElem?_cons_succ, List.getD_cons_zero, List.getD_cons_succ, extrF_tup, binF_add, binF_sub, binF_mul, binF_eql, binF_neq, binF_lss, binF_leq, binF_gtr, binF_geq, true_and, e0, gval_bool, Int.reduceBNe, Int.reduceBEq, pickF_true, pickF_false, reduceIte, Bool.true_eq_false, Bool.false_eq_true, if_false, condA_tt, condA_ff, condG_tt, condG_ff, condG_tt', condG_ff', condG_undef, gval_undef, l35_1, Option.map_some]
  refine exJ (c24 ?_)
  try simp only [letO_some, cellsOf?_agg, cellsOf?_int, cellsOf?_bool, cellsOf?_imm, cellsOf?_ref, cellsOf?_nils, faddr_iptr, faddr_ptr, List.drop_succ_cons, List.drop_zero, List.take_succ_cons, List.take_zero, load1_iptr, loadN_iptr, List.length_cons, List.length_nil, Nat.le_refl, if_true, List.getElem?_cons_zero, List.getElem?_cons_succ, List.getD_cons_zero, List.getD_cons_succ, extrF_tup, binF_add, binF_sub, binF_mul, binF_eql, binF_neq, binF_lss, binF_leq, binF_gtr, binF_geq, true_and, gval_bool, Int.reduceBNe, Int.reduceBEq, pickF_true, pickF_false, reduceIte, Bool.true_eq_false, Bool.false_eq_true, if_false, condA_tt, condA_ff, condG_tt, condG_ff, condG_tt', condG_ff', condG_undef, gval_undef]
  refine exJ (c14 (a := up [0]) (b := [0]) (Reads.sl _ _) ⟨rfl, rfl⟩ (by decide) (by decide) ?_)
  have e2 : decide (up [0] = [0]) = true := by decide
  simp only [letO_some, cellsOf?_agg, cellsOf?_int, cellsOf?_bool, cellsOf?_imm, cellsOf?_ref, cellsOf?_nils, faddr_iptr, faddr_ptr, List.drop_succ_cons, List.drop_zero, List.take_succ_cons, List.take_zero, load1_iptr, loadN_iptr, List.length_cons, List.length_nil, Nat.le_refl, if_true, List.getElem?_cons_zero, List.getElem?_cons_succ, List.getD_cons_zero, List.getD_cons_succ, extrF_tup, binF_add, binF_sub, binF_mul, binF_eql, binF_neq, binF_lss, binF_leq, binF_gtr, binF_geq, true_and, e2, gval_bool, Int.reduceBNe, Int.reduceBEq, pickF_true, pickF_false, reduceIte, Bool.true_eq_false, Bool.false_eq_true, if_false, condA_tt, condA_ff, condG_tt, condG_ff, condG_tt', condG_ff', condG_undef, gval_undef]
  refine exJ (c18 ?_)
  try simp only [letO_some, cellsOf?_agg, cellsOf?_int, cellsOf?_bool, cellsOf?_imm, cellsOf?_ref, cellsOf?_nils, faddr_iptr, faddr_ptr, List.drop_succ_cons, List.drop_zero, List.take_succ_cons, List.take_zero, load1_iptr, loadN_iptr, List.length_cons, List.length_nil, Nat.le_refl, if_true, List.getElem?_cons_zero, List.getElem?_cons_succ, List.getD_cons_zero, List.getD_cons_succ, extrF_tup, binF_add, binF_sub, binF_mul, binF_eql, binF_neq, binF_lss, binF_leq, binF_gtr, binF_geq, true_and, gval_bool, Int.reduceBNe, Int.reduceBEq, pickF_true, pickF_false, reduceIte, Bool.true_eq_false, Bool.false_eq_true, if_false, condA_tt, condA_ff, condG_tt, condG_ff, condG_tt', condG_ff', condG_undef, gval_undef]
  exact endK_ret hk
theorem flat_drop (R : List (Nat × Nat)) (k : Nat) : (R.flatMap prC).drop (k * 2) = (R.drop k).flatMap prC := by
  induction R generalizing k with
  | nil => simp
  | cons s S ih =>
    cases k with
    | zero => rfl
    | succ k =>
      rw [List.drop_succ_cons, List.flatMap_cons, ← ih k]
      rw [show (k + 1) * 2 = (prC s).length + k * 2 by rw [prC_len]; omega, List.drop_length_add_append]
/-- The last pairs. -/
theorem slcPd {H : Heap} {v : AV} {R : List (Nat × Nat)} {k : Nat} (h : RP H v R) (hk : k ≤ R.length) : ∃ v', slc 2 v (some (.int .i64 (k : Int))) none none = some v' ∧ RP H v' (R.drop k) := by
  have n1 : ∀ d, natOf none d = some d := fun d => rfl
  have n2 : ∀ d, natOf (some (.int .i64 (k : Int))) d = some k := fun d => by simp [natOf]
  have hft := flat_drop R k
  obtain ⟨h0, h⟩ := h
  have hln : (R.drop k).length = R.length - k := List.length_drop
  have hrl : ((R.drop k).flatMap prC).length = (R.length - k) * 2 := by rw [rows_len prC_len, hln]
  cases v <;> simp only at h <;> try exact h.elim
  · have : R = [] := List.eq_nil_of_length_eq_zero h
    subst this
    have : k = 0 := by simpa using hk
    subst this
    simp only [slc, n1, n2, Option.bind_some]
    exact ⟨_, rfl, rfl, rfl⟩
  · obtain ⟨rfl, rfl⟩ := h
    simp only [slc, n1, n2, Option.bind_some]
    rw [if_pos ⟨hk, Nat.le_refl _⟩]
    refine ⟨_, rfl, by rw [hrl, hln], ?_, ?_⟩
    · rw [hln]
    · rw [hft, List.take_of_length_le (by omega)]
  · rename_i s b off n cp
    obtain ⟨rfl, rfl, cs, hb, hc, ht⟩ := h
    simp only [slc, n1, n2, Option.bind_some]
    by_cases hlt : k = 0 ∨ k < R.length
    · rw [if_pos ⟨by trivial, hk, by omega, hlt⟩]
      refine ⟨_, rfl, by rw [hrl, hln], rfl, by rw [hln], cs, hb, by rw [hln]; omega, ?_⟩
      rw [hln, ← hft, ← ht, List.drop_take, List.drop_drop, ← Nat.sub_mul]
    · rw [if_neg (by omega), if_pos ⟨by omega, by omega⟩]
      have : R.drop k = [] := List.drop_of_length_le (by omega)
      rw [this]
      exact ⟨_, rfl, rfl, rfl, rfl⟩
theorem fa_snoc (Y : List Nat) (i k : Nat) : (List.range (k + 1)).filterMap (faF Y i) = (List.range k).filterMap (faF Y i) ++ (faF Y i k).toList := by
  rw [List.range_succ, List.filterMap_append]
  congr 1
theorem fa_len (Y : List Nat) (i k : Nat) : ((List.range k).filterMap (faF Y i)).length ≤ k := by
  have := List.length_filterMap_le (faF Y i) (List.range k)
  simpa using this
theorem eqb4 (a b : Bool) : binF Tryd.prog .eql 4 (.bool a) (.bool b) = some (.bool (a == b)) := by
  have h : Tryd.prog.underlying 4 = some .bool := by kernel_rfl
  show (eqF Tryd.prog 4 (.bool a) (.bool b)).map AV.bool = _
  simp only [eqF, h]; rfl
/-- TopFalling -/
theorem c6 {y : Nat} {a : List Nat} {H : Heap} {K : AV → Heap → Prop} (hy : y < 256) (ha : a.length = 8) (ha2 : ∀ x ∈ a, x < 256) (hk : K (.bool true) H) :
    ACalls Tryd.prog 6 [.int .u8 (y : Int), .agg (u8a a)] H K := by
  apply W6_ok
  unfold W6
  have hm5 : y % 5 < 5 := Nat.mod_lt _ (by omega)
  have hrem2 : binF Tryd.prog .rem 3 (.int .i64 (y : Int)) (.int .i64 5) = some (.int .i64 ((y % 5 : Nat) : Int)) := rem_nat (b := 5) (by omega)
  have hc1 : cellsOf? (.agg (u8a a)) = some (u8a a) := rfl
  have hadd : IntKind.i64.wrap (1 + ((y % 5 : Nat) : Int)) = ((1 + y % 5 : Nat) : Int) := by rw [wrap_i64 (by omega) (by omega)]; omega
  generalize hmm : 1 + y % 5 = m at *
  have hsl : slcArr 8 1 (.iptr (u8a a)) none (some (.int .i64 (m : Int))) none = some (.imm m (m == 8) ((u8a a).take m)) := by
    have n1 : ∀ d, natOf none d = some d := fun d => rfl
    have n2 : ∀ d, natOf (some (.int .i64 (m : Int))) d = some m := fun d => by simp [natOf]
    simp only [slcArr, n1, n2, Option.bind_some]
    rw [if_pos ⟨by omega, by omega⟩]
    simp
  have hln : lenA (.imm m (m == 8) ((u8a a).take m)) = some (.int .i64 m) := rfl
  have hrd : ∀ H', ReadsC 1 H' (.imm m (m == 8) ((u8a a).take m)) m ((u8a a).take m) := fun H' => ⟨by rw [List.length_take, u8a_len]; omega, rfl, rfl⟩
  simp only [letO_some, hc1, conv53 (n := (y : Int)) (by omega), hrem2, binF_add, hadd, hsl, hln, true_and]
  have hkl : ∀ i, ((a.take i).map (· % 101)).length ≤ i := fun i => by rw [List.length_map, List.length_take]; omega
  refine ⟨fun L H' => ∃ (i : Nat) (X : AV), eqt L [X, .int .i64 (i : Int)] ∧ i ≤ m ∧ Grow 2 H H' X (srs ((a.take i).map (· % 101))).length ((srs ((a.take i).map (· % 101))).flatMap prC),
    fun L _ => (m - iv L 1).toNat, ⟨0, .nils, rfl, by omega, Grow.nils 2 H⟩, ?_⟩
  rintro L H1 ⟨i, X, rfl, hi, hg⟩
  try simp only [letO_some, cellsOf?_agg, cellsOf?_int, cellsOf?_bool, cellsOf?_imm, cellsOf?_ref, cellsOf?_nils, faddr_iptr, faddr_ptr, List.drop_succ_cons, List.drop_zero, List.take_succ_cons, List.take_zero, load1_iptr, loadN_iptr, List.length_cons, List.length_nil, Nat.le_refl, if_true, List.getElem?_cons_zero, List.getElem?_cons_succ, List.getD_cons_zero, List.getD_cons_succ, extrF_tup, binF_add, binF_sub, binF_mul, binF_eql, binF_neq, binF_lss, binF_leq, binF_gtr, binF_geq, true_and]
  refine condA_t (fun hlt => ?_) (fun hge => ?_)
  · have a1 : i < a.length := by omega
    have htk : (a.take (i + 1)).map (· % 101) = (a.take i).map (· % 101) ++ [a[i] % 101] := by
      rw [List.take_add_one, List.getElem?_eq_getElem a1, Option.toList_some, List.map_append]; rfl
    refine ReadsC.get (Heap.le_refl _) (hrd H1) (x := .int .u8 (a[i] : Int)) (by omega) (by omega) (by rw [Int.toNat_natCast, List.getElem?_take_of_lt (by omega)]; simp [u8a, a1]) ?_
    have hai := ha2 _ (List.getElem_mem a1)
    have hkl := hkl i
    generalize (a.take i).map (· % 101) = pg at *
    generalize a[i] = z at *
    have hrem4 : binF Tryd.prog .rem 3 (.int .i64 (z : Int)) (.int .i64 101) = some (.int .i64 ((z % 101 : Nat) : Int)) := rem_nat (b := 101) (by omega)
    have hb1 := b59 (z % 101) 1
    simp only [Int.natCast_one] at hb1
    simp only [letO_some, conv53 (n := (z : Int)) (by omega), hrem4, hb1, l57_1]
    refine appendA_growR hg (m := 1) (new := prC (z % 101, 1)) (by simp [srcOf, prC]) rfl rfl (by omega) (by rw [srs_len]; omega) (by rw [srs_len]; omega) fun v' H7 hg7 ho7 => ?_
    try simp only [letO_some, binF_add]
    rw [wrap_i64 (by omega) (by omega)]
    refine ⟨⟨i + 1, v', rfl, by omega, ?_⟩, by simp [iv]; omega⟩
    have hs : srs (pg ++ [z % 101]) = srs pg ++ [(z % 101, 1)] := by simp [srs]
    rw [htk, hs, l24_dec, List.length_append]
    exact hg7
  have hie : i = m := by omega
  subst hie
  have hYl : ((a.take i).map (· % 101)).length = i := by rw [List.length_map, List.length_take]; omega
  have hY : ∀ p ∈ (a.take i).map (· % 101), p ≤ 100 := fun p hp => by
    obtain ⟨q, _, rfl⟩ := List.mem_map.1 hp
    have := Nat.mod_lt q (show 0 < 101 by omega)
    omega
  generalize (a.take i).map (· % 101) = Y at *
  have hXr : RP H1 X (srs Y) := hg.readsC
  have hXl := hg.len
  rw [srs_len] at hXl
  have hle1 := hg.le
  clear hg
  have hF := falls_fd (Y := Y) (by omega) (by omega)
  have hten := falls_ten (Y := Y) (by omega)
  have h5 : Y.length ≤ 5 := by omega
  have hlen10 : ∀ j, j ≤ Y.length → ((List.range j).flatMap (faP Y)).length ≤ 10 := fun j hj => by
    have := hten j hj
    have h20 : Y.length * (Y.length - 1) ≤ 5 * 4 := Nat.mul_le_mul h5 (by omega)
    omega
  simp only [hXl, b27n (x := .int .i64 (Y.length : Int)) rfl, letO_some]
  refine alloc_store (cs := [.int .i64 (Y.length : Int), .nils]) rfl rfl rfl rfl fun b7 hb7 => ?_
  have hle7 := Heap.le_new (c := [.int .i64 (Y.length : Int), .nils]) hb7
  have h7 : (H1.put b7 [.int .i64 (Y.length : Int), .nils]) b7 = some [.int .i64 (Y.length : Int), .nils] := Heap.put_same
  generalize H1.put b7 [.int .i64 (Y.length : Int), .nils] = H7 at *
  have f7 : faddr 1 (.ptr b7 0) = some (.ptr b7 1) := rfl
  have fz : ∀ b, faddr 0 (.ptr b 0) = some (.ptr b 0) := fun b => rfl
  try simp only [hXl, letO_some]
  refine ⟨fun L H' => ∃ (i : Nat) (Z : AV) (Hg : Heap), eqt L [.int .i64 (i : Int)] ∧ i ≤ Y.length ∧ Grow 2 Hg H' Z ((List.range i).flatMap (faP Y)).length (((List.range i).flatMap (faP Y)).flatMap prC) ∧ Hg b7 = some [.int .i64 (Y.length : Int), Z] ∧ H1.le Hg,
    fun L _ => (Y.length - iv L 0).toNat, ⟨0, .nils, H7, rfl, by omega, Grow.nils 2 H7, h7, hle7⟩, ?_⟩
  rintro L H8 ⟨j, Z, Hg, rfl, hj, hg, g7, hle8⟩
  have hcpi := hlen10 j (by omega)
  try simp only [letO_some, cellsOf?_agg, cellsOf?_int, cellsOf?_bool, cellsOf?_imm, cellsOf?_ref, cellsOf?_nils, faddr_iptr, faddr_ptr, List.drop_succ_cons, List.drop_zero, List.take_succ_cons, List.take_zero, load1_iptr, loadN_iptr, List.length_cons, List.length_nil, Nat.le_refl, if_true, List.getElem?_cons_zero, List.getElem?_cons_succ, List.getD_cons_zero, List.getD_cons_succ, extrF_tup, binF_add, binF_sub, binF_mul, binF_eql, binF_neq, binF_lss, binF_leq, binF_gtr, binF_geq, true_and]
  refine condA_t (fun hlt => ?_) (fun hge2 => ?_)
  · have j1 : j < Y.length := by omega
    have hle18 := Heap.le_trans hle8 hg.le
    refine ReadsC.getN hle18 hXr (by omega) (by rw [srs_len]; omega) ?_
    rw [Int.toNat_natCast, rows_get prC_len (srs_get j1)]
    have hsn : (List.range (j + 1)).flatMap (faP Y) = (List.range j).flatMap (faP Y) ++ (List.range (Y.length - (j + 1))).filterMap (faF Y j) := by
      rw [List.range_succ, List.flatMap_append]; simp [faP]
    have hjx : ∀ k, faF Y j k = if Y.getD (j + 1 + k) 0 < Y.getD j 0 then some (j, j + 1 + k) else none := fun k => rfl
    have hpy : Y.getD j 0 ≤ 100 := by
      rw [List.getD_eq_getElem?_getD, List.getElem?_eq_getElem j1]; exact hY _ (List.getElem_mem j1)
    generalize Y.getD j 0 = p at *
    refine alloc_store (cs := prC (p, 1)) rfl rfl rfl rfl fun b9 hb9 => ?_
    have h9 : (H8.put b9 (prC (p, 1))) b9 = some (prC (p, 1)) := Heap.put_same
    have hg9 : Grow 2 (Hg.put b9 (prC (p, 1))) (H8.put b9 (prC (p, 1))) Z _ _ := alloc_grow hg hb9
    have hln := Heap.le_new (c := prC (p, 1)) (none_of_le hg.le hb9)
    have hle9 : H1.le (Hg.put b9 (prC (p, 1))) := Heap.le_trans hle8 hln
    have g79 := hln _ _ g7
    have g99 : (Hg.put b9 (prC (p, 1))) b9 = some (prC (p, 1)) := Heap.put_same
    have hne79 : b7 ≠ b9 := by rintro rfl; rw [hg.le _ _ g7] at hb9; cases hb9
    generalize H8.put b9 (prC (p, 1)) = H9 at *
    generalize Hg.put b9 (prC (p, 1)) = Hg9 at *
    have hb7H : H1 b7 = none := hb7
    obtain ⟨v', s1, s2⟩ := slcPd hXr (k := j + 1) (by rw [srs_len]; omega)
    have hv'l := ReadsC.len s2
    rw [List.length_drop, srs_len] at hv'l
    have wj : IntKind.i64.wrap ((j : Int) + 1) = ((j + 1 : Nat) : Int) := by rw [wrap_i64 (by omega) (by omega)]; omega
    simp only [letO_some, binF_add, wj, s1, hv'l]
    refine ⟨fun L H' => ∃ (k : Nat) (Z : AV) (Hg : Heap), eqt L [.int .i64 (k : Int)] ∧ k ≤ Y.length - (j + 1) ∧ Grow 2 Hg H' Z ((List.range j).flatMap (faP Y) ++ (List.range k).filterMap (faF Y j)).length (((List.range j).flatMap (faP Y) ++ (List.range k).filterMap (faF Y j)).flatMap prC) ∧
        Hg b7 = some [.int .i64 (Y.length : Int), Z] ∧ Hg b9 = some (prC (p, 1)) ∧ H1.le Hg,
      fun L _ => (Y.length - (j + 1) - iv L 0).toNat, ⟨0, Z, Hg9, rfl, by omega, by simpa using hg9, g79, g99, hle9⟩, ?_⟩
    rintro L H10 ⟨k, Z2, Hg10, rfl, hk2, hg10, g710, g910, hle10⟩
    have hcl := fa_len Y j k
    try simp only [letO_some, cellsOf?_agg, cellsOf?_int, cellsOf?_bool, cellsOf?_imm, cellsOf?_ref, cellsOf?_nils, faddr_iptr, faddr_ptr, List.drop_succ_cons, List.drop_zero, List.take_succ_cons, List.take_zero, load1_iptr, loadN_iptr, List.length_cons, List.length_nil, Nat.le_refl, if_true, List.getElem?_cons_zero, List.getElem?_cons_succ, List.getD_cons_zero, List.getD_cons_succ, extrF_tup, binF_add, binF_sub, binF_mul, binF_eql, binF_neq, binF_lss, binF_leq, binF_gtr, binF_geq, true_and]
    refine condA_t (fun hlt2 => ?_) (fun hge3 => ?_)
    · have k1 : k < Y.length - (j + 1) := by omega
      refine ⟨fun L H' => eqt L [] ∧ ∃ (Z : AV) (Hg : Heap), Grow 2 Hg H' Z ((List.range j).flatMap (faP Y) ++ (List.range (k + 1)).filterMap (faF Y j)).length (((List.range j).flatMap (faP Y) ++ (List.range (k + 1)).filterMap (faF Y j)).flatMap prC) ∧
        Hg b7 = some [.int .i64 (Y.length : Int), Z] ∧ Hg b9 = some (prC (p, 1)) ∧ H1.le Hg, ?_, ?_⟩
      · refine ReadsC.getN (Heap.le_trans hle10 hg10.le) s2 (by omega) (by rw [List.length_drop, srs_len]; omega) ?_
        have hgk : ((srs Y).drop (j + 1))[k]? = some (Y.getD (j + 1 + k) 0, 1) := by
          rw [List.getElem?_drop]; exact srs_get (by omega)
        rw [Int.toNat_natCast, rows_get prC_len hgk]
        rw [fa_snoc, ← List.append_assoc, hjx k]
        have hqy : Y.getD (j + 1 + k) 0 ≤ 100 := by
          rw [List.getD_eq_getElem?_getD, List.getElem?_eq_getElem (by omega)]; exact hY _ (List.getElem_mem _)
        generalize Y.getD (j + 1 + k) 0 = q at *
        have hlen0 : ((List.range j).flatMap (faP Y) ++ (List.range k).filterMap (faF Y j)).length ≤ 100 := by rw [List.length_append]; omega
        generalize (List.range j).flatMap (faP Y) ++ (List.range k).filterMap (faF Y j) = R at *
        refine alloc_store (cs := prC (q, 1)) rfl rfl rfl rfl fun b11 hb11 => ?_
        have h11 : (H10.put b11 (prC (q, 1))) b11 = some (prC (q, 1)) := Heap.put_same
        have hg11 : Grow 2 (Hg10.put b11 (prC (q, 1))) (H10.put b11 (prC (q, 1))) Z2 _ _ := alloc_grow hg10 hb11
        have hln2 := Heap.le_new (c := prC (q, 1)) (none_of_le hg10.le hb11)
        have hle11 : H1.le (Hg10.put b11 (prC (q, 1))) := Heap.le_trans hle10 hln2
        have g711 := hln2 _ _ g710
        have g911 := hln2 _ _ g910
        generalize H10.put b11 (prC (q, 1)) = H11 at *
        generalize Hg10.put b11 (prC (q, 1)) = Hg11 at *
        have l90 : load1 (.ptr b9 0) H11 = some (.int .i64 (p : Int)) := load1_at (hg11.le _ _ g911) rfl
        have l110 : load1 (.ptr b11 0) H11 = some (.int .i64 (q : Int)) := load1_at h11 rfl
        have hgt : decide ((p : Int) > (q : Int)) = decide (q < p) := by rw [decide_eq_decide]; omega
        have lZ : load1 (.ptr b7 1) H11 = some Z2 := load1_at (hg11.le _ _ g711) rfl
        have wk : IntKind.i64.wrap (((j + 1 : Nat) : Int) + (k : Int)) = ((j + 1 + k : Nat) : Int) := by rw [wrap_i64 (by omega) (by omega)]; omega
        simp only [letO_some, fz, l90, l110, binF_gtr, hgt]
        by_cases hcc : q < p
        · rw [decide_eq_true hcc, if_pos hcc]
          simp only [condA_tt, letO_some, f7, lZ, binF_add, wj, wk, b30, l24_1, Option.toList_some]
          refine appendA_growR hg11 (m := 1) (new := prC (j, j + 1 + k)) (by simp [srcOf, prC]) rfl rfl (by omega) (by omega) (by omega) fun v2 H12 hg12 ho12 => ?_
          try simp only [f7, letO_some]
          refine storeA_of (cs := [v2]) (hg12.le _ _ g711) hg12.cells (by simp [hg12.scalar]) rfl (by simp) ?_
          have hspl : splice [.int .i64 (Y.length : Int), Z2] 1 [v2] = [.int .i64 (Y.length : Int), v2] := rfl
          rw [hspl]
          have hg13 := hg12.put g711 (y := [.int .i64 (Y.length : Int), v2])
          refine ⟨rfl, v2, Hg11.put b7 [.int .i64 (Y.length : Int), v2], ?_, Heap.put_same, by rw [Heap.put_ne (Ne.symm hne79)]; exact g911, Heap.le_put hle11 hb7H⟩
          rw [l24_dec, List.length_append]
          exact hg13
        · rw [decide_eq_false hcc, if_neg hcc]
          simp only [condA_ff, Option.toList_none, List.append_nil]
          exact ⟨rfl, Z2, Hg11, hg11, g711, g911, hle11⟩
      · rintro L H11 ⟨rfl, Z3, Hg11, hg11, g711, g911, hle11⟩
        try simp only [letO_some, cellsOf?_agg, cellsOf?_int, cellsOf?_bool, cellsOf?_imm, cellsOf?_ref, cellsOf?_nils, faddr_iptr, faddr_ptr, List.drop_succ_cons, List.drop_zero, List.take_succ_cons, List.take_zero, load1_iptr, loadN_iptr, List.length_cons, List.length_nil, Nat.le_refl, if_true, List.getElem?_cons_zero, List.getElem?_cons_succ, List.getD_cons_zero, List.getD_cons_succ, extrF_tup, binF_add, binF_sub, binF_mul, binF_eql, binF_neq, binF_lss, binF_leq, binF_gtr, binF_geq, true_and]
        rw [wrap_i64 (by omega) (by omega)]
        exact ⟨⟨k + 1, Z3, Hg11, rfl, by omega, hg11, g711, g911, hle11⟩, by simp [iv]; omega⟩
    · have hke : k = Y.length - (j + 1) := by omega
      subst hke
      exact ⟨⟨j + 1, Z2, Hg10, rfl, by omega, by rw [hsn]; exact hg10, g710, hle10⟩, by simp [iv]; omega⟩
  have hje : j = Y.length := by omega
  subst hje
  have hcfl : (List.range Y.length).flatMap (faP Y) = falls Y := rfl
  rw [hcfl] at hg hcpi
  have hZ : RP H8 Z (falls Y) := hg.readsC
  have hZl := hg.len
  have l7 : loadN 2 (.ptr b7 0) H8 = some (.agg [.int .i64 (Y.length : Int), Z]) := loadN_at (cells := [.int .i64 (Y.length : Int), Z]) (hg.le _ _ g7)
  have lZ : load1 (.ptr b7 1) H8 = some Z := load1_at (hg.le _ _ g7) rfl
  have hle9 := Heap.le_trans hle8 hg.le
  have hXr8 := hXr.le hle9
  try simp only [letO_some]
  refine c20 hXr8 (by omega) (by omega) hY ?_
  simp only [letO_some, cellsOf?_agg, cellsOf?_int, cellsOf?_bool, cellsOf?_imm, cellsOf?_ref, cellsOf?_nils, faddr_iptr, faddr_ptr, List.drop_succ_cons, List.drop_zero, List.take_succ_cons, List.take_zero, load1_iptr, loadN_iptr, List.length_cons, List.length_nil, Nat.le_refl, if_true, List.getElem?_cons_zero, List.getElem?_cons_succ, List.getD_cons_zero, List.getD_cons_succ, extrF_tup, binF_add, binF_sub, binF_mul, binF_eql, binF_neq, binF_lss, binF_leq, binF_gtr, binF_geq, true_and, l7]
  refine c10 hF hZ ?_
  try simp only [letO_some, cellsOf?_agg, cellsOf?_int, cellsOf?_bool, cellsOf?_imm, cellsOf?_ref, cellsOf?_nils, faddr_iptr, faddr_ptr, List.drop_succ_cons, List.drop_zero, List.take_succ_cons, List.take_zero, load1_iptr, loadN_iptr, List.length_cons, List.length_nil, Nat.le_refl, if_true, List.getElem?_cons_zero, List.getElem?_cons_succ, List.getD_cons_zero, List.getD_cons_succ, extrF_tup, binF_add, binF_sub, binF_mul, binF_eql, binF_neq, binF_lss, binF_leq, binF_gtr, binF_geq, true_and]
  refine c21 hXr8 (by omega) (by omega) hY fun i' => ?_
  have e0 : ((0 : Int) == 0) = true := rfl
  have hls := (sh_len (falls Y) (List.range (2 ^ Y.length))).1
  have hls' : (shS Y.length (falls Y)).1.length ≤ 7 := hls
  simp only [letO_some, cellsOf?_agg, cellsOf?_int, cellsOf?_bool, cellsOf?_imm, cellsOf?_ref, cellsOf?_nils, faddr_iptr, faddr_ptr, List.drop_succ_cons, List.drop_zero, List.take_succ_cons, List.take_zero, load1_iptr, loadN_iptr, List.length_cons, List.length_nil, Nat.le_refl, if_true, List.getElem?_cons_zero, List.getElem?_cons_succ, List.getD_cons_zero, List.getD_cons_succ, extrF_tup, binF_add, binF_sub, binF_mul, binF_eql, binF_neq, binF_lss, binF_leq, binF_gtr, binF_geq, true_and, e0, gval_bool, Int.reduceBNe, Int.reduceBEq, pickF_true, pickF_false, reduceIte, Bool.true_eq_false, Bool.false_eq_true, if_false, condA_tt, condA_ff, condG_tt, condG_ff, condG_tt', condG_ff', condG_undef, gval_undef]
  refine exJ (c14 (Reads.sl _ _) (Reads.sl _ _) (by rw [up_length]; omega) (by rw [up_length]; omega) ?_)
  have e1 : decide (up (shS Y.length (falls Y)).1 = up (shS Y.length (falls Y)).1) = true := decide_eq_true rfl
  have e2 : (((if falls Y = [] then (13 : Int) else 0) == 13) == (((falls Y).length : Int) == 0)) = true := by
    cases hfy : falls Y with
    | nil => rfl
    | cons r l =>
      have : (((r :: l).length : Int) == 0) = false := by rw [beq_eq_false_iff_ne]; simp; omega
      rw [this, if_neg (by simp)]; rfl
  rw [e1]
  simp only [gval_bool, Int.reduceBNe, Int.reduceBEq, pickF_true, pickF_false, reduceIte, Bool.true_eq_false, Bool.false_eq_true, if_false, condA_tt, condA_ff, condG_tt, condG_ff, condG_tt', condG_ff', condG_undef, gval_undef, letO_some, binF_eql, f7, lZ, hZl, eqb4, e2]
  refine exJ (c22 ?_)
  try simp only [letO_some, cellsOf?_agg, cellsOf?_int, cellsOf?_bool, cellsOf?_imm, cellsOf?_ref, cellsOf?_nils, faddr_iptr, faddr_ptr, List.drop_succ_cons, List.drop_zero, List.take_succ_cons, List.take_zero, load1_iptr, loadN_iptr, List.length_cons, List.length_nil, Nat.le_refl, if_true, List.getElem?_cons_zero, List.getElem?_cons_succ, List.getD_cons_zero, List.getD_cons_succ, extrF_tup, binF_add, binF_sub, binF_mul, binF_eql, binF_neq, binF_lss, binF_leq, binF_gtr, binF_geq, true_and, gval_bool, Int.reduceBNe, Int.reduceBEq, pickF_true, pickF_false, reduceIte, Bool.true_eq_false, Bool.false_eq_true, if_false, condA_tt, condA_ff, condG_tt, condG_ff, condG_tt', condG_ff', condG_undef, gval_undef]
  exact endK_pub (Pub.drop (Heap.le_trans hle1 hle9)) (endK_ret hk)
namespace topFalling
theorem law {b0 : Nat} {g : List Nat} (h : b0 < 256) (h0 : g.length = 8) (h1 : ∀ x ∈ g, x < 256) : ACalls Tryd.prog 6 [.int .u8 (b0 : Int), .agg (g.map fun (x : Nat) => .int .u8 (x : Int))] Heap.none fun r _ => r = .bool true :=
  c6 h h0 h1 rfl
end topFalling
end Go.Proofs.YtmmfelpgcdlgfaaDoor

namespace Go.Proofs.YtmmfelpgcdlgfaaDoor
open Go.Av
set_option linter.unusedVariables false
set_option linter.unusedSimpArgs false
set_option maxRecDepth 8000

/-- The cut in which each volume has as many articles as it can. -/
def fil (A : List (Nat × Nat)) (r : Nat) : Nat → Nat → Nat → List Nat → Option (List Nat)
  | 0, _, _, o => some (o ++ [A.length])
  | k + 1, e, b, o => if r < sm Prod.snd A e - sm Prod.snd A (e - 1) then none else if r < sm Prod.snd A e - sm Prod.snd A b then fil A r k (e + 1) (e - 1) (o ++ [e - 1]) else fil A r k (e + 1) b o
/-- lines.filled -/
theorem c80 {v : AV} {A : List (Nat × Nat)} {r : Nat} {H : Heap} {K : AV → Heap → Prop} (hl : A.length ≤ 12) (hf : ∀ p ∈ A, Prod.snd p ≤ 30) (hv : Reads H v (up (cnt Prod.snd A)))
    (hk : K (match fil A r A.length 1 0 [] with | none => .nils | some o => sl (up o)) H) : ACalls Tryd.prog 80 [v, .int .i64 (r : Int)] H K := by
  apply W80_ok
  unfold W80
  have hlen := hv.len
  have hcl : (up (cnt Prod.snd A)).length = A.length + 1 := by rw [up_length, cnt_len]
  rw [hcl] at hlen
  simp only [letO_some, cellsOf?_agg, cellsOf?_int, cellsOf?_bool, cellsOf?_imm, cellsOf?_ref, cellsOf?_nils, faddr_iptr, faddr_ptr, List.drop_succ_cons, List.drop_zero, List.take_succ_cons, List.take_zero, load1_iptr, loadN_iptr, List.length_cons, List.length_nil, Nat.le_refl, if_true, List.getElem?_cons_zero, List.getElem?_cons_succ, List.getD_cons_zero, List.getD_cons_succ, extrF_tup, binF_add, binF_sub, binF_mul, binF_eql, binF_neq, binF_lss, binF_leq, binF_gtr, binF_geq, true_and, hlen]
  refine ⟨fun L H' => ∃ (k e b : Nat) (o : List Nat) (X : AV), eqt L [.int .i64 (b : Int), X, .int .i64 (e : Int)] ∧ Grow 1 H H' X o.length (ints (up o)) ∧ e + k = A.length + 1 ∧ 1 ≤ e ∧ b < e ∧ o.length < e ∧ eqt (fil A r k e b o) (fil A r A.length 1 0 []), fun L _ => (A.length + 1 - iv L 2).toNat,
    ⟨A.length, 1, 0, [], .nils, rfl, Grow.nils 1 H, by omega, by omega, by omega, by simp, rfl⟩, ?_⟩
  rintro L H' ⟨k, e, b, o, X, rfl, hg, hek, he1, hbe, hoe, hfl⟩
  have w1 : IntKind.i64.wrap ((e : Int) - 1) = ((e - 1 : Nat) : Int) := by rw [wrap_i64 (by omega) (by omega)]; omega
  have w2 : IntKind.i64.wrap ((e : Int) + 1) = ((e + 1 : Nat) : Int) := by rw [wrap_i64 (by omega) (by omega)]; omega
  simp only [letO_some, cellsOf?_agg, cellsOf?_int, cellsOf?_bool, cellsOf?_imm, cellsOf?_ref, cellsOf?_nils, faddr_iptr, faddr_ptr, List.drop_succ_cons, List.drop_zero, List.take_succ_cons, List.take_zero, load1_iptr, loadN_iptr, List.length_cons, List.length_nil, Nat.le_refl, if_true, List.getElem?_cons_zero, List.getElem?_cons_succ, List.getD_cons_zero, List.getD_cons_succ, extrF_tup, binF_add, binF_sub, binF_mul, binF_eql, binF_neq, binF_lss, binF_leq, binF_gtr, binF_geq, true_and]
  refine condA_t (fun hlt => ?_) (fun hge => ?_)
  · obtain ⟨k', rfl⟩ : ∃ k', k = k' + 1 := ⟨k - 1, by omega⟩
    have hfl' : fil A r (k' + 1) e b o = fil A r A.length 1 0 [] := hfl
    have m1 := sm_mono (f := Prod.snd) (A := A) (show e - 1 ≤ e by omega)
    have m2 := sm_mono (f := Prod.snd) (A := A) (show b ≤ e by omega)
    refine ⟨fun L H11 => ∃ (b' : Nat) (o' : List Nat) (X' : AV), eqt L [.int .i64 (b' : Int), X'] ∧ Grow 1 H H11 X' o'.length (ints (up o')) ∧ b' < e + 1 ∧ o'.length < e + 1 ∧ eqt (fil A r k' (e + 1) b' o') (fil A r A.length 1 0 []), ?_, ?_⟩
    · simp only [letO_some, cellsOf?_agg, cellsOf?_int, cellsOf?_bool, cellsOf?_imm, cellsOf?_ref, cellsOf?_nils, faddr_iptr, faddr_ptr, List.drop_succ_cons, List.drop_zero, List.take_succ_cons, List.take_zero, load1_iptr, loadN_iptr, List.length_cons, List.length_nil, Nat.le_refl, if_true, List.getElem?_cons_zero, List.getElem?_cons_succ, List.getD_cons_zero, List.getD_cons_succ, extrF_tup, binF_add, binF_sub, binF_mul, binF_eql, binF_neq, binF_lss, binF_leq, binF_gtr, binF_geq, true_and, w1]
      refine c79 (hv.le hg.le) hl hf (by omega) (by omega) ?_
      simp only [letO_some, cellsOf?_agg, cellsOf?_int, cellsOf?_bool, cellsOf?_imm, cellsOf?_ref, cellsOf?_nils, faddr_iptr, faddr_ptr, List.drop_succ_cons, List.drop_zero, List.take_succ_cons, List.take_zero, load1_iptr, loadN_iptr, List.length_cons, List.length_nil, Nat.le_refl, if_true, List.getElem?_cons_zero, List.getElem?_cons_succ, List.getD_cons_zero, List.getD_cons_succ, extrF_tup, binF_add, binF_sub, binF_mul, binF_eql, binF_neq, binF_lss, binF_leq, binF_gtr, binF_geq, true_and]
      refine condA_t (fun h1 => ?_) (fun h1 => ?_)
      · rw [fil, if_pos (by omega)] at hfl'
        rw [← hfl'] at hk
        exact endK_all hg.le 0 hk
      · rw [fil, if_neg (by omega)] at hfl'
        refine c79 (hv.le hg.le) hl hf (by omega) (by omega) ?_
        simp only [letO_some, cellsOf?_agg, cellsOf?_int, cellsOf?_bool, cellsOf?_imm, cellsOf?_ref, cellsOf?_nils, faddr_iptr, faddr_ptr, List.drop_succ_cons, List.drop_zero, List.take_succ_cons, List.take_zero, load1_iptr, loadN_iptr, List.length_cons, List.length_nil, Nat.le_refl, if_true, List.getElem?_cons_zero, List.getElem?_cons_succ, List.getD_cons_zero, List.getD_cons_succ, extrF_tup, binF_add, binF_sub, binF_mul, binF_eql, binF_neq, binF_lss, binF_leq, binF_gtr, binF_geq, true_and]
        refine condA_t (fun h2 => ?_) (fun h2 => ?_)
        · rw [if_pos (by omega)] at hfl'
          simp only [letO_some, cellsOf?_agg, cellsOf?_int, cellsOf?_bool, cellsOf?_imm, cellsOf?_ref, cellsOf?_nils, faddr_iptr, faddr_ptr, List.drop_succ_cons, List.drop_zero, List.take_succ_cons, List.take_zero, load1_iptr, loadN_iptr, List.length_cons, List.length_nil, Nat.le_refl, if_true, List.getElem?_cons_zero, List.getElem?_cons_succ, List.getD_cons_zero, List.getD_cons_succ, extrF_tup, binF_add, binF_sub, binF_mul, binF_eql, binF_neq, binF_lss, binF_leq, binF_gtr, binF_geq, true_and, w1, l35 cellsOf?_int]
          refine appendA_one hg (by omega) fun v' H9 hg9 => ?_
          try simp only [letO_some]
          refine ⟨e - 1, o ++ [e - 1], v', rfl, ?_, by omega, by simp; omega, hfl'⟩
          have : up (o ++ [e - 1]) = up o ++ [((e - 1 : Nat) : Int)] := by simp [up]
          rw [this]
          simpa using hg9
        · rw [if_neg (by omega)] at hfl'
          exact ⟨b, o, X, rfl, hg, by omega, by omega, hfl'⟩
    · rintro L H11 ⟨b', o', X', rfl, hg', hb', ho', hfl2⟩
      simp only [letO_some, cellsOf?_agg, cellsOf?_int, cellsOf?_bool, cellsOf?_imm, cellsOf?_ref, cellsOf?_nils, faddr_iptr, faddr_ptr, List.drop_succ_cons, List.drop_zero, List.take_succ_cons, List.take_zero, load1_iptr, loadN_iptr, List.length_cons, List.length_nil, Nat.le_refl, if_true, List.getElem?_cons_zero, List.getElem?_cons_succ, List.getD_cons_zero, List.getD_cons_succ, extrF_tup, binF_add, binF_sub, binF_mul, binF_eql, binF_neq, binF_lss, binF_leq, binF_gtr, binF_geq, true_and, w2]
      exact ⟨⟨k', e + 1, b', o', X', rfl, hg', by omega, by omega, hb', ho', hfl2⟩, by simp [iv] <;> omega⟩
  · have hk0 : k = 0 := by omega
    subst hk0
    have hfl' : fil A r 0 e b o = fil A r A.length 1 0 [] := hfl
    rw [fil] at hfl'
    rw [← hfl'] at hk
    have w3 : IntKind.i64.wrap (((A.length + 1 : Nat) : Int) - 1) = (A.length : Int) := by rw [wrap_i64 (by omega) (by omega)]; omega
    simp only [letO_some, cellsOf?_agg, cellsOf?_int, cellsOf?_bool, cellsOf?_imm, cellsOf?_ref, cellsOf?_nils, faddr_iptr, faddr_ptr, List.drop_succ_cons, List.drop_zero, List.take_succ_cons, List.take_zero, load1_iptr, loadN_iptr, List.length_cons, List.length_nil, Nat.le_refl, if_true, List.getElem?_cons_zero, List.getElem?_cons_succ, List.getD_cons_zero, List.getD_cons_succ, extrF_tup, binF_add, binF_sub, binF_mul, binF_eql, binF_neq, binF_lss, binF_leq, binF_gtr, binF_geq, true_and, w3, l35 cellsOf?_int]
    refine appendA_one hg (by omega) fun v' H9 hg9 => ?_
    try simp only [letO_some]
    refine hg9.end1 ?_
    have : up (o ++ [A.length]) = up o ++ [((A.length : Nat) : Int)] := by simp [up]
    simpa [sl, this] using hk
theorem neqs {n : Nat} {f : Bool} {c : AV} {cs : List AV} : binF Tryd.prog .neq 35 (.imm n f (c :: cs)) .nils = some (.bool true) := by
  have h : (match Tryd.prog.underlying 35 with | some (.slice _) => true | _ => false) = true := by kernel_rfl
  split at h
  · rename_i e he
    simp only [binF, eqF, he]
    rfl
  · cases h
def exA : List (Nat × Nat) := [(1, 3), (1, 4), (1, 2)]
/-- volume.Level, of the example -/
theorem c52 {v : AV} {H : Heap} {K : AV → Heap → Prop} (hv : RP H v exA) (hk : K (.tup [.int .i64 6, .int .i64 0]) H) : ACalls Tryd.prog 52 [bk v 7 0, .int .i64 2] H K := by
  apply W52_ok
  unfold W52
  have e0 : ((0 : Int) != 0) = false := rfl
  have hlen : lenA v = some (.int .i64 3) := ReadsC.len hv
  have hV : Vb exA 7 0 := ⟨by decide, by decide, by decide, by decide, by decide, by decide⟩
  have hl3 : loadN 3 (.iptr [v, .int .i64 ((7 : Nat) : Int), .int .i64 ((0 : Nat) : Int)]) H = some (bk v 7 0) := rfl
  simp only [bk, cellsOf?_agg, letO_some, hl3]
  refine c27 hV hv ?_
  have d1 : decide ((2 : Int) < 1) = false := rfl
  have d2 : decide ((3 : Int) < 2) = false := rfl
  simp only [letO_some, binF_neq, e0, condA_ff, binF_lss, d1, gval_bool, if_true, faddr_iptr, List.drop_zero, load1_iptr, List.getElem?_cons_zero, hlen, binF_gtr, d2, pickF_bool, Bool.false_eq_true, if_false, hl3]
  refine c54 is78 (A := exA) (by decide) hV.snd hv ?_
  have hc4 : lenA (sl (up (cnt Prod.snd exA))) = some (.int .i64 4) := rfl
  have w1 : IntKind.i64.wrap (4 - 1) = 3 := rfl
  have hix : idx 1 (sl (up (cnt Prod.snd exA))) (.int .i64 3) = some (.iptr [.int .i64 9]) := rfl
  simp only [letO_some, cellsOf?_agg, cellsOf?_int, cellsOf?_bool, cellsOf?_imm, cellsOf?_ref, cellsOf?_nils, faddr_iptr, faddr_ptr, List.drop_succ_cons, List.drop_zero, List.take_succ_cons, List.take_zero, load1_iptr, loadN_iptr, List.length_cons, List.length_nil, Nat.le_refl, if_true, List.getElem?_cons_zero, List.getElem?_cons_succ, List.getD_cons_zero, List.getD_cons_succ, extrF_tup, binF_add, binF_sub, binF_mul, binF_eql, binF_neq, binF_lss, binF_leq, binF_gtr, binF_geq, true_and, hc4, w1, hix]
  refine ⟨fun L H' => (eqt L [.int .i64 9, .int .i64 1] ∨ eqt L [.int .i64 9, .int .i64 6] ∨ eqt L [.int .i64 7, .int .i64 6] ∨ eqt L [.int .i64 6, .int .i64 6]) ∧ eqt H' H, fun L _ => (iv L 0 - iv L 1).toNat, ⟨.inl rfl, rfl⟩, ?_⟩
  have f5 : fil exA 5 exA.length 1 0 [] = some [1, 2, 3] := by decide +kernel
  have f7 : fil exA 7 exA.length 1 0 [] = some [2, 3] := by decide +kernel
  have f6 : fil exA 6 exA.length 1 0 [] = some [1, 3] := by decide +kernel
  have g5 : binF Tryd.prog .neq 35 (sl (up [1, 2, 3])) .nils = some (.bool true) := neqs
  have g7 : binF Tryd.prog .neq 35 (sl (up [2, 3])) .nils = some (.bool true) := neqs
  have g6 : binF Tryd.prog .neq 35 (sl (up [1, 3])) .nils = some (.bool true) := neqs
  have k5 : lenA (sl (up [1, 2, 3])) = some (.int .i64 3) := rfl
  have k7 : lenA (sl (up [2, 3])) = some (.int .i64 2) := rfl
  have k6 : lenA (sl (up [1, 3])) = some (.int .i64 2) := rfl
  rintro L H' ⟨rfl | rfl | rfl | rfl, rfl⟩
  · have a1 : decide ((1 : Int) < 9) = true := rfl
    have a2 : binF Tryd.prog .quo 3 (.int .i64 (IntKind.i64.wrap (1 + 9))) (.int .i64 2) = some (.int .i64 ((5 : Nat) : Int)) := rfl
    simp only [letO_some, cellsOf?_agg, cellsOf?_int, cellsOf?_bool, cellsOf?_imm, cellsOf?_ref, cellsOf?_nils, faddr_iptr, faddr_ptr, List.drop_succ_cons, List.drop_zero, List.take_succ_cons, List.take_zero, load1_iptr, loadN_iptr, List.length_cons, List.length_nil, Nat.le_refl, if_true, List.getElem?_cons_zero, List.getElem?_cons_succ, List.getD_cons_zero, List.getD_cons_succ, extrF_tup, binF_add, binF_sub, binF_mul, binF_eql, binF_neq, binF_lss, binF_leq, binF_gtr, binF_geq, true_and, a1, condA_tt, a2]
    refine c80 (by decide) hV.snd (Reads.sl _ _) ?_
    have a3 : decide ((3 : Int) ≤ 2) = false := rfl
    have a4 : IntKind.i64.wrap (((5 : Nat) : Int) + 1) = 6 := rfl
    simp only [f5, g5, k5, letO_some, cellsOf?_agg, cellsOf?_int, cellsOf?_bool, cellsOf?_imm, cellsOf?_ref, cellsOf?_nils, faddr_iptr, faddr_ptr, List.drop_succ_cons, List.drop_zero, List.take_succ_cons, List.take_zero, load1_iptr, loadN_iptr, List.length_cons, List.length_nil, Nat.le_refl, if_true, List.getElem?_cons_zero, List.getElem?_cons_succ, List.getD_cons_zero, List.getD_cons_succ, extrF_tup, binF_add, binF_sub, binF_mul, binF_eql, binF_neq, binF_lss, binF_leq, binF_gtr, binF_geq, true_and, gval_bool, Int.reduceBNe, Int.reduceBEq, pickF_true, pickF_false, reduceIte, Bool.true_eq_false, Bool.false_eq_true, if_false, condA_tt, condA_ff, condG_tt, condG_ff, condG_tt', condG_ff', condG_undef, gval_undef, a3, a4]
    exact ⟨⟨.inr (.inl rfl), rfl⟩, by decide⟩
  · have a1 : decide ((6 : Int) < 9) = true := rfl
    have a2 : binF Tryd.prog .quo 3 (.int .i64 (IntKind.i64.wrap (6 + 9))) (.int .i64 2) = some (.int .i64 ((7 : Nat) : Int)) := rfl
    simp only [letO_some, cellsOf?_agg, cellsOf?_int, cellsOf?_bool, cellsOf?_imm, cellsOf?_ref, cellsOf?_nils, faddr_iptr, faddr_ptr, List.drop_succ_cons, List.drop_zero, List.take_succ_cons, List.take_zero, load1_iptr, loadN_iptr, List.length_cons, List.length_nil, Nat.le_refl, if_true, List.getElem?_cons_zero, List.getElem?_cons_succ, List.getD_cons_zero, List.getD_cons_succ, extrF_tup, binF_add, binF_sub, binF_mul, binF_eql, binF_neq, binF_lss, binF_leq, binF_gtr, binF_geq, true_and, a1, condA_tt, a2]
    refine c80 (by decide) hV.snd (Reads.sl _ _) ?_
    have a3 : decide ((2 : Int) ≤ 2) = true := rfl
    simp only [f7, g7, k7, letO_some, cellsOf?_agg, cellsOf?_int, cellsOf?_bool, cellsOf?_imm, cellsOf?_ref, cellsOf?_nils, faddr_iptr, faddr_ptr, List.drop_succ_cons, List.drop_zero, List.take_succ_cons, List.take_zero, load1_iptr, loadN_iptr, List.length_cons, List.length_nil, Nat.le_refl, if_true, List.getElem?_cons_zero, List.getElem?_cons_succ, List.getD_cons_zero, List.getD_cons_succ, extrF_tup, binF_add, binF_sub, binF_mul, binF_eql, binF_neq, binF_lss, binF_leq, binF_gtr, binF_geq, true_and, gval_bool, Int.reduceBNe, Int.reduceBEq, pickF_true, pickF_false, reduceIte, Bool.true_eq_false, Bool.false_eq_true, if_false, condA_tt, condA_ff, condG_tt, condG_ff, condG_tt', condG_ff', condG_undef, gval_undef, a3]
    exact ⟨⟨.inr (.inr (.inl rfl)), rfl⟩, by decide⟩
  · have a1 : decide ((6 : Int) < 7) = true := rfl
    have a2 : binF Tryd.prog .quo 3 (.int .i64 (IntKind.i64.wrap (6 + 7))) (.int .i64 2) = some (.int .i64 ((6 : Nat) : Int)) := rfl
    simp only [letO_some, cellsOf?_agg, cellsOf?_int, cellsOf?_bool, cellsOf?_imm, cellsOf?_ref, cellsOf?_nils, faddr_iptr, faddr_ptr, List.drop_succ_cons, List.drop_zero, List.take_succ_cons, List.take_zero, load1_iptr, loadN_iptr, List.length_cons, List.length_nil, Nat.le_refl, if_true, List.getElem?_cons_zero, List.getElem?_cons_succ, List.getD_cons_zero, List.getD_cons_succ, extrF_tup, binF_add, binF_sub, binF_mul, binF_eql, binF_neq, binF_lss, binF_leq, binF_gtr, binF_geq, true_and, a1, condA_tt, a2]
    refine c80 (by decide) hV.snd (Reads.sl _ _) ?_
    have a3 : decide ((2 : Int) ≤ 2) = true := rfl
    simp only [f6, g6, k6, letO_some, cellsOf?_agg, cellsOf?_int, cellsOf?_bool, cellsOf?_imm, cellsOf?_ref, cellsOf?_nils, faddr_iptr, faddr_ptr, List.drop_succ_cons, List.drop_zero, List.take_succ_cons, List.take_zero, load1_iptr, loadN_iptr, List.length_cons, List.length_nil, Nat.le_refl, if_true, List.getElem?_cons_zero, List.getElem?_cons_succ, List.getD_cons_zero, List.getD_cons_succ, extrF_tup, binF_add, binF_sub, binF_mul, binF_eql, binF_neq, binF_lss, binF_leq, binF_gtr, binF_geq, true_and, gval_bool, Int.reduceBNe, Int.reduceBEq, pickF_true, pickF_false, reduceIte, Bool.true_eq_false, Bool.false_eq_true, if_false, condA_tt, condA_ff, condG_tt, condG_ff, condG_tt', condG_ff', condG_undef, gval_undef, a3]
    exact ⟨⟨.inr (.inr (.inr rfl)), rfl⟩, by decide⟩
  · have a1 : decide ((6 : Int) < 6) = false := rfl
    simp only [letO_some, cellsOf?_agg, cellsOf?_int, cellsOf?_bool, cellsOf?_imm, cellsOf?_ref, cellsOf?_nils, faddr_iptr, faddr_ptr, List.drop_succ_cons, List.drop_zero, List.take_succ_cons, List.take_zero, load1_iptr, loadN_iptr, List.length_cons, List.length_nil, Nat.le_refl, if_true, List.getElem?_cons_zero, List.getElem?_cons_succ, List.getD_cons_zero, List.getD_cons_succ, extrF_tup, binF_add, binF_sub, binF_mul, binF_eql, binF_neq, binF_lss, binF_leq, binF_gtr, binF_geq, true_and, a1, condA_ff]
    exact endK_ret hk
theorem b67 (a b : Int) : buildF Tryd.prog 67 [(0, .int .i64 a), (1, .int .i64 b)] = some (.agg [.int .i64 a, .int .i64 b]) := by
  rw [buildF_of (show buildPlan Tryd.prog 67 = some ([.int .i64 0, .int .i64 0], [(0, 1), (1, 1)]) by kernel_rfl)]
  simp [fillA, splice]
theorem l62_3 (p q r : Nat × Nat) : literalF Tryd.prog 62 3 [(0, .agg (prC p)), (1, .agg (prC q)), (2, .agg (prC r))] = some (prC p ++ prC q ++ prC r) := by
  rw [literalF_of (show literalPlan Tryd.prog 62 = some ([.int .i64 0, .int .i64 0], 2) by kernel_rfl) (by decide) (by simp)]
  simp [fillA, splice, rowOf, prC, List.range_succ]
theorem b64 {x y : AV} (hx : cellsOf? x = some [x]) (hy : cellsOf? y = some [y]) : buildF Tryd.prog 64 [(0, x), (1, y)] = some (.agg [x, y, .int .i64 0]) := by
  rw [buildF_of (show buildPlan Tryd.prog 64 = some ([.nils, .int .i64 0, .int .i64 0], [(0, 1), (1, 1), (2, 1)]) by kernel_rfl)]
  simp [fillA, hx, hy, splice]
/-- volumesWork -/
theorem c28 {H : Heap} {K : AV → Heap → Prop} (hk : K (.bool true) H) : ACalls Tryd.prog 28 [] H K := by
  apply W28_ok
  unfold W28
  have b1 : buildF Tryd.prog 67 [(0, .int .i64 1), (1, .int .i64 3)] = some (.agg (prC (1, 3))) := b67 1 3
  have b2 : buildF Tryd.prog 67 [(0, .int .i64 1), (1, .int .i64 4)] = some (.agg (prC (1, 4))) := b67 1 4
  have b3 : buildF Tryd.prog 67 [(0, .int .i64 1), (1, .int .i64 2)] = some (.agg (prC (1, 2))) := b67 1 2
  simp only [letO_some, b1, b2, b3, l62_3, b64 cellsOf?_imm cellsOf?_int]
  show ACalls Tryd.prog 52 [bk (.imm 3 true (prC (1, 3) ++ prC (1, 4) ++ prC (1, 2))) 7 0, .int .i64 2] H _
  refine c52 (ReadsC.imm rfl) ?_
  have e0 : ((0 : Int) == 0) = true := rfl
  have e6 : ((6 : Int) == 6) = true := rfl
  simp only [letO_some, cellsOf?_agg, cellsOf?_int, cellsOf?_bool, cellsOf?_imm, cellsOf?_ref, cellsOf?_nils, faddr_iptr, faddr_ptr, List.drop_succ_cons, List.drop_zero, List.take_succ_cons, List.take_zero, load1_iptr, loadN_iptr, List.length_cons, List.length_nil, Nat.le_refl, if_true, List.getElem?_cons_zero, List.getElem?_cons_succ, List.getD_cons_zero, List.getD_cons_succ, extrF_tup, binF_add, binF_sub, binF_mul, binF_eql, binF_neq, binF_lss, binF_leq, binF_gtr, binF_geq, true_and, e0, e6, gval_bool, Int.reduceBNe, Int.reduceBEq, pickF_true, pickF_false, reduceIte, Bool.true_eq_false, Bool.false_eq_true, if_false, condA_tt, condA_ff, condG_tt, condG_ff, condG_tt', condG_ff', condG_undef, gval_undef]
  refine exJ (c22 ?_)
  try simp only [letO_some, cellsOf?_agg, cellsOf?_int, cellsOf?_bool, cellsOf?_imm, cellsOf?_ref, cellsOf?_nils, faddr_iptr, faddr_ptr, List.drop_succ_cons, List.drop_zero, List.take_succ_cons, List.take_zero, load1_iptr, loadN_iptr, List.length_cons, List.length_nil, Nat.le_refl, if_true, List.getElem?_cons_zero, List.getElem?_cons_succ, List.getD_cons_zero, List.getD_cons_succ, extrF_tup, binF_add, binF_sub, binF_mul, binF_eql, binF_neq, binF_lss, binF_leq, binF_gtr, binF_geq, true_and, gval_bool, Int.reduceBNe, Int.reduceBEq, pickF_true, pickF_false, reduceIte, Bool.true_eq_false, Bool.false_eq_true, if_false, condA_tt, condA_ff, condG_tt, condG_ff, condG_tt', condG_ff', condG_undef, gval_undef]
  exact endK_ret hk
end Go.Proofs.YtmmfelpgcdlgfaaDoor

namespace Go.Proofs.YtmmfelpgcdlgfaaDoor
open Go.Av
set_option linter.unusedVariables false
set_option linter.unusedSimpArgs false
set_option maxRecDepth 8000

/- The steps that a volume may take, one by one. -/
def okB (A : List (Nat × Nat)) (room floor : Nat) (p : Nat × Nat) : Bool := decide (sm Prod.snd A p.2 - sm Prod.snd A p.1 ≤ room) && decide (floor ≤ sm Prod.fst A p.2 - sm Prod.fst A p.1)
def allQ (n b j : Nat) : List (Nat × Nat) := ((List.range b).flatMap fun b' => (List.range (n - b')).map fun i => (b', b' + i + 1)) ++ (List.range j).map fun i => (b, b + i + 1)
theorem allQ_succ (n b j : Nat) : allQ n b (j + 1) = allQ n b j ++ [(b, b + j + 1)] := by
  simp [allQ, List.range_succ]
theorem allQ_next (n b : Nat) : allQ n (b + 1) 0 = allQ n b (n - b) := by
  simp [allQ, List.range_succ]
theorem allQ_len (n b j : Nat) : (allQ n b j).length ≤ b * n + j := by
  have h : ∀ b, ((List.range b).flatMap fun b' => (List.range (n - b')).map fun i => (b', b' + i + 1)).length ≤ b * n := by
    intro b
    induction b with
    | zero => simp
    | succ b ih =>
      rw [List.range_succ, List.flatMap_append, List.length_append, Nat.succ_mul]
      simp only [List.flatMap_cons, List.flatMap_nil, List.append_nil, List.length_map, List.length_range]
      omega
  have := h b
  rw [allQ, List.length_append, List.length_map, List.length_range]
  omega
theorem allQ_mem {n b e : Nat} : (b, e) ∈ allQ n n 0 ↔ b < e ∧ e ≤ n := by
  simp only [allQ, List.range_zero, List.map_nil, List.append_nil, List.mem_flatMap, List.mem_range, List.mem_map, Prod.mk.injEq]
  constructor
  · rintro ⟨a, ha, i, hi, rfl, rfl⟩
    omega
  · rintro ⟨h1, h2⟩
    exact ⟨b, by omega, e - b - 1, by omega, rfl, by omega⟩
theorem allQ_nd {n : Nat} (h : n ≤ 5) : (allQ n n 0).Pairwise (· ≠ ·) ∧ (allQ n n 0).length ≤ 15 := by
  have : n = 0 ∨ n = 1 ∨ n = 2 ∨ n = 3 ∨ n = 4 ∨ n = 5 := by omega
  rcases this with rfl | rfl | rfl | rfl | rfl | rfl <;> decide +kernel
def stS (A : List (Nat × Nat)) (room floor b j : Nat) : List (Nat × Nat) := (allQ A.length b j).filter (okB A room floor)
theorem stS_succ (A : List (Nat × Nat)) (room floor b j : Nat) : stS A room floor b (j + 1) = if okB A room floor (b, b + j + 1) then stS A room floor b j ++ [(b, b + j + 1)] else stS A room floor b j := by
  rw [stS, allQ_succ, List.filter_append, ← stS]
  cases h : okB A room floor (b, b + j + 1)
  · simp [h]
  · simp [h]
theorem stS_next (A : List (Nat × Nat)) (room floor b : Nat) : stS A room floor (b + 1) 0 = stS A room floor b (A.length - b) := by
  rw [stS, allQ_next, ← stS]
theorem stS_len (A : List (Nat × Nat)) (room floor b j : Nat) : (stS A room floor b j).length ≤ b * A.length + j := Nat.le_trans (List.length_filter_le _ _) (allQ_len _ _ _)
theorem stS_mem {A : List (Nat × Nat)} {room floor : Nat} (b e : Nat) : (b, e) ∈ stS A room floor A.length 0 ↔ okS A room floor (b, e) := by
  rw [stS, List.mem_filter, allQ_mem, okB, okS, Bool.and_eq_true, decide_eq_true_iff, decide_eq_true_iff]
  constructor
  · rintro ⟨⟨h1, h2⟩, h3, h4⟩; exact ⟨h1, h2, h3, h4⟩
  · rintro ⟨h1, h2, h3, h4⟩; exact ⟨⟨h1, h2⟩, h3, h4⟩
theorem stS_vd {A : List (Nat × Nat)} {room floor : Nat} (h : A.length ≤ 5) : Vd (A.length + 1) (stS A room floor A.length 0) := by
  obtain ⟨h1, h2⟩ := allQ_nd h
  refine ⟨by omega, by omega, fun r hr => ?_, fun r hr => ?_, List.Pairwise.filter _ h1, ?_⟩
  · have := (stS_mem r.1 r.2).1 hr
    have h3 := this.1
    have h4 := this.2.1
    simp only at h3 h4
    omega
  · have := (stS_mem r.1 r.2).1 hr
    have h3 := this.1
    simp only at h3
    omega
  · have := List.length_filter_le (okB A room floor) (allQ A.length A.length 0)
    rw [← stS] at this
    omega
theorem stS_up {A : List (Nat × Nat)} {room floor : Nat} (h : A.length ≤ 5) : Upw (stS A room floor A.length 0) := fun p hp => by
  have := (stS_mem p.1 p.2).1 hp
  have h3 := this.1
  have h4 := this.2.1
  simp only at h3 h4
  omega
theorem pth_pw {R : List (Nat × Nat)} {w g : Nat} (hw : w ≤ 7) (hg : g < w) (hR : ∀ p ∈ R, p.1 < w ∧ p.2 < w) : ∀ {k x : Nat}, Ds R w g k x → Pw R g x (pth R w g k x)
  | 0, x, h => nr_0.1 h.1
  | k + 1, x, h => by
    obtain ⟨_, _, h3, h4, _⟩ := nxt_spec hw hg hR h
    exact ⟨h3, pth_pw hw hg hR h4⟩
/-- A pair's numbers. -/
theorem rp_at {H : Heap} {v : AV} {A : List (Nat × Nat)} {i : Nat} (h : RP H v A) (hi : i < A.length) :
    ∃ p q0 q1, idx 2 v (.int .i64 (i : Int)) = some p ∧ faddr 0 p = some q0 ∧ faddr 1 p = some q1 ∧ ∀ H', H.le H' → load1 q0 H' = some (.int .i64 (A[i].1 : Int)) ∧ load1 q1 H' = some (.int .i64 (A[i].2 : Int)) := by
  obtain ⟨h0, h⟩ := h
  have g0 : (A.flatMap prC)[i * 2 + 0]? = some (.int .i64 (A[i].1 : Int)) := by rw [rows_at prC_len (x := A[i]) (by simp [hi]) (by omega)]; rfl
  have g1 : (A.flatMap prC)[i * 2 + 1]? = some (.int .i64 (A[i].2 : Int)) := by rw [rows_at prC_len (x := A[i]) (by simp [hi]) (by omega)]; rfl
  cases v <;> simp only at h <;> try exact h.elim
  · omega
  · obtain ⟨rfl, rfl⟩ := h
    refine ⟨_, _, _, idx_imm hi, rfl, rfl, fun H' hl => ⟨?_, ?_⟩⟩
    · rw [load1_iptr, List.drop_drop, List.getElem?_drop]; exact g0
    · rw [load1_iptr, List.drop_drop, List.getElem?_drop]; exact g1
  · rename_i s b off m cp
    obtain ⟨rfl, rfl, cs, h1, h2, h3⟩ := h
    refine ⟨_, _, _, idx_ref hi, rfl, rfl, fun H' hl => ⟨load1_at (hl _ _ h1) ?_, load1_at (hl _ _ h1) ?_⟩⟩
    · rw [← h3, List.getElem?_take_of_lt (by omega), List.getElem?_drop] at g0
      rw [Nat.add_assoc]; exact g0
    · rw [← h3, List.getElem?_take_of_lt (by omega), List.getElem?_drop] at g1
      rw [Nat.add_assoc]; exact g1
theorem b64r {x : AV} (hx : cellsOf? x = some [x]) : buildF Tryd.prog 64 [(1, x)] = some (.agg [.nils, x, .int .i64 0]) := by
  rw [buildF_of (show buildPlan Tryd.prog 64 = some ([.nils, .int .i64 0, .int .i64 0], [(0, 1), (1, 1), (2, 1)]) by kernel_rfl)]
  simp [fillA, hx, splice]
theorem l62_1 (p : Nat × Nat) : literalF Tryd.prog 62 1 [(0, .agg (prC p))] = some (prC p) := by
  rw [literalF_of (show literalPlan Tryd.prog 62 = some ([.int .i64 0, .int .i64 0], 2) by kernel_rfl) (by decide) (by simp)]
  simp [fillA, splice, rowOf, prC]
/-- An article. -/
def arP (p : Nat × Nat) : Nat × Nat := (1 + p.1 % 15, 1 + p.1 % 15 + p.2 % 8)
theorem arP_ok (p : Nat × Nat) : 1 ≤ (arP p).1 ∧ (arP p).1 ≤ (arP p).2 ∧ (arP p).2 ≤ 30 := by
  simp only [arP]
  omega
end Go.Proofs.YtmmfelpgcdlgfaaDoor

namespace Go.Proofs.YtmmfelpgcdlgfaaDoor
open Go.Av
set_option linter.unusedVariables false
set_option linter.unusedSimpArgs false
set_option maxRecDepth 8000

/-- The set of a list. -/
def accS (l : List Nat) : Nat := l.foldl (fun a x => a ||| 2 ^ x) 0
theorem acc_ls : ∀ s : Fin 128, accS (lsN s.val) = s.val := by decide +kernel
theorem acc_lt : ∀ s : Fin 128, ∀ i : Fin 8, accS ((lsN s.val).take i.val) < 128 := by decide +kernel
theorem ls_asc : ∀ s : Fin 128, ∀ i : Fin 7, i.val < (lsN s.val).length → (lsN s.val).getD i.val 0 < 7 ∧ (if i.val = 0 then (-1 : Int) else (((lsN s.val).getD (i.val - 1) 0 : Nat) : Int)) < (((lsN s.val).getD i.val 0 : Nat) : Int) := by decide +kernel
/-- fact.Valid of a list in order -/
theorem c13 {v w : AV} {n s : Nat} {R : List (Nat × Nat)} {H : Heap} {K : AV → Heap → Prop} (h : Fd n R) (hv : RP H v R) (hw : Reads H w (up (lsN s))) (hs : s < 2 ^ n) (hk : K (.int .i64 (if expl R s then 0 else 21)) H) :
    ACalls Tryd.prog 13 [.agg [.int .i64 (n : Int), v], w] H K := by
  apply W13_ok
  unfold W13
  have hn7 := h.n7
  have hc := ReadsC.cells hv
  have e0 : ((0 : Int) != 0) = false := rfl
  have e21 : ((21 : Int) != 0) = true := rfl
  have h2n : 2 ^ n ≤ 2 ^ 7 := Nat.pow_le_pow_right (by omega) hn7
  have hld : ∀ H', loadN 2 (.iptr [.int .i64 (n : Int), v]) H' = some (.agg [.int .i64 (n : Int), v]) := fun _ => rfl
  have hlen := hw.len
  rw [up_length] at hlen
  have hl7 := ls_len s
  simp only [letO_some, cellsOf?_agg, cellsOf?_int, cellsOf?_bool, cellsOf?_imm, cellsOf?_ref, cellsOf?_nils, faddr_iptr, faddr_ptr, List.drop_succ_cons, List.drop_zero, List.take_succ_cons, List.take_zero, load1_iptr, loadN_iptr, List.length_cons, List.length_nil, Nat.le_refl, if_true, List.getElem?_cons_zero, List.getElem?_cons_succ, List.getD_cons_zero, List.getD_cons_succ, extrF_tup, binF_add, binF_sub, binF_mul, binF_eql, binF_neq, binF_lss, binF_leq, binF_gtr, binF_geq, true_and, hld]
  refine c36 h hv ?_
  simp only [letO_some, cellsOf?_agg, cellsOf?_int, cellsOf?_bool, cellsOf?_imm, cellsOf?_ref, cellsOf?_nils, faddr_iptr, faddr_ptr, List.drop_succ_cons, List.drop_zero, List.take_succ_cons, List.take_zero, load1_iptr, loadN_iptr, List.length_cons, List.length_nil, Nat.le_refl, if_true, List.getElem?_cons_zero, List.getElem?_cons_succ, List.getD_cons_zero, List.getD_cons_succ, extrF_tup, binF_add, binF_sub, binF_mul, binF_eql, binF_neq, binF_lss, binF_leq, binF_gtr, binF_geq, true_and, e0, condA_ff, hlen]
  refine ⟨fun L H' => ∃ i : Nat, eqt L [.int .u64 (accS ((lsN s).take i) : Nat), .int .i64 (if i = 0 then (-1 : Int) else (((lsN s).getD (i - 1) 0 : Nat) : Int)), .int .i64 i] ∧ i ≤ (lsN s).length ∧ eqt H' H, fun L _ => ((lsN s).length - iv L 2).toNat, ⟨0, rfl, by omega, rfl⟩, ?_⟩
  rintro L H1 ⟨i, rfl, hi, rfl⟩
  try simp only [letO_some, cellsOf?_agg, cellsOf?_int, cellsOf?_bool, cellsOf?_imm, cellsOf?_ref, cellsOf?_nils, faddr_iptr, faddr_ptr, List.drop_succ_cons, List.drop_zero, List.take_succ_cons, List.take_zero, load1_iptr, loadN_iptr, List.length_cons, List.length_nil, Nat.le_refl, if_true, List.getElem?_cons_zero, List.getElem?_cons_succ, List.getD_cons_zero, List.getD_cons_succ, extrF_tup, binF_add, binF_sub, binF_mul, binF_eql, binF_neq, binF_lss, binF_leq, binF_gtr, binF_geq, true_and]
  refine condA_t (fun hlt => ?_) (fun hge => ?_)
  · have a1 : i < (lsN s).length := by omega
    obtain ⟨o1, o2⟩ := ls_asc ⟨s, by omega⟩ ⟨i, by omega⟩ a1
    simp only at o1 o2
    have hmem : (lsN s).getD i 0 ∈ lsN s := by
      rw [List.getD_eq_getElem?_getD, List.getElem?_eq_getElem a1]; exact List.getElem_mem a1
    have hb : (lsN s).getD i 0 < n := bit_lt hs (ls_mem.1 hmem).2
    have hacc := acc_lt ⟨s, by omega⟩ ⟨i, by omega⟩
    simp only at hacc
    have htk : accS ((lsN s).take (i + 1)) = accS ((lsN s).take i) ||| 2 ^ (lsN s).getD i 0 := by
      rw [List.take_add_one, List.getElem?_eq_getElem a1, List.getD_eq_getElem?_getD, List.getElem?_eq_getElem a1, accS, accS, Option.toList_some, List.foldl_append]
      rfl
    refine Reads.get (Heap.le_refl _) hw (by omega) (by rw [up_length]; omega) ?_
    rw [Int.toNat_natCast, up_getD]
    have hgi : (if i + 1 = 0 then (-1 : Int) else (((lsN s).getD (i + 1 - 1) 0 : Nat) : Int)) = (((lsN s).getD i 0 : Nat) : Int) := by simp
    rw [← hgi] 
    rw [hgi]
    generalize (lsN s).getD i 0 = x at *
    have e1 : decide ((x : Int) < 0) = false := decide_eq_false (by omega)
    have e2 : decide ((n : Int) ≤ (x : Int)) = false := decide_eq_false (by omega)
    have e3 : decide ((x : Int) ≤ (if i = 0 then (-1 : Int) else (((lsN s).getD (i - 1) 0 : Nat) : Int))) = false := decide_eq_false (by omega)
    have p2 : 2 ^ x < 2 ^ 63 := Nat.pow_lt_pow_right (by omega) (by omega)
    have p63 : (2 : Nat) ^ 63 = 9223372036854775808 := by decide
    simp only [letO_some, cellsOf?_agg, cellsOf?_int, cellsOf?_bool, cellsOf?_imm, cellsOf?_ref, cellsOf?_nils, faddr_iptr, faddr_ptr, List.drop_succ_cons, List.drop_zero, List.take_succ_cons, List.take_zero, load1_iptr, loadN_iptr, List.length_cons, List.length_nil, Nat.le_refl, if_true, List.getElem?_cons_zero, List.getElem?_cons_succ, List.getD_cons_zero, List.getD_cons_succ, extrF_tup, binF_add, binF_sub, binF_mul, binF_eql, binF_neq, binF_lss, binF_leq, binF_gtr, binF_geq, true_and, e1, e2, e3, gval_bool, Int.reduceBNe, Int.reduceBEq, pickF_true, pickF_false, reduceIte, Bool.true_eq_false, Bool.false_eq_true, if_false, condA_tt, condA_ff, condG_tt, condG_ff, condG_tt', condG_ff', condG_undef, gval_undef, condA_ff, u64_shl (show x < 8 by omega), u64_or (a := accS ((lsN s).take i)) (b := 2 ^ x) (by omega) p2]
    rw [wrap_i64 (by omega) (by omega)]
    refine ⟨⟨i + 1, ?_, by omega, rfl⟩, by simp [iv]; omega⟩
    rw [htk, hgi]; rfl
  · have hie : i = (lsN s).length := by omega
    subst hie
    rw [List.take_length]
    have := acc_ls ⟨s, by omega⟩
    simp only at this
    simp only [this, hld, letO_some]
    refine c39 h hv (by omega) ?_
    cases he : expl R s
    · rw [he] at hk
      simp only [not_v, Bool.not_false, letO_some, condA_tt]
      exact endK_ret hk
    · rw [he] at hk
      simp only [not_v, Bool.not_true, letO_some, condA_ff]
      exact endK_ret hk
/-- One pair more, by numbers. -/
def quP (n : Nat) (x : Nat × Nat) : Nat × Nat := (min (x.1 % n) (x.2 % n), max (x.1 % n) (x.2 % n))
def quF (n : Nat) (out : List (Nat × Nat)) (x : Nat × Nat) : List (Nat × Nat) := if x.1 % n ≠ x.2 % n ∧ quP n x ∉ out then out ++ [quP n x] else out
def quS (n : Nat) (E : List (Nat × Nat)) : List (Nat × Nat) := E.foldl (quF n) []
theorem qu_ok {n : Nat} (hn : 0 < n) (E : List (Nat × Nat)) : (∀ r ∈ quS n E, r.1 < r.2 ∧ r.2 < n) ∧ (quS n E).Pairwise (· ≠ ·) ∧ (quS n E).length ≤ E.length := by
  induction E using snoc_ind with
  | h0 => simp [quS]
  | h1 E x ih =>
    obtain ⟨i1, i2, i3⟩ := ih
    have e : quS n (E ++ [x]) = quF n (quS n E) x := by simp [quS]
    rw [e, quF]
    split
    · rename_i h
      have m1 := Nat.mod_lt x.1 hn
      have m2 := Nat.mod_lt x.2 hn
      refine ⟨fun r hr => ?_, ?_, by simp; omega⟩
      · rcases List.mem_append.1 hr with hr | hr
        · exact i1 r hr
        · simp at hr; subst hr
          simp only [quP]
          have := h.1
          omega
      · rw [List.pairwise_append]
        refine ⟨i2, by simp, fun a ha b hb => ?_⟩
        simp at hb; subst hb
        exact fun h2 => h.2 (h2 ▸ ha)
    · exact ⟨i1, i2, by simp; omega⟩
/-- quarrel -/
theorem c8 {n : Nat} {E : List (Nat × Nat)} {H : Heap} {K : AV → Heap → Prop} (hn : 0 < n) (hn7 : n ≤ 7) (hE : E.length = 8) (hE2 : ∀ x ∈ E, x.1 < 256 ∧ x.2 < 256) (hk : K (.imm (quS n E).length false ((quS n E).flatMap prC)) H) :
    ACalls Tryd.prog 8 [.int .i64 (n : Int), .int .i64 8, .agg (E.flatMap pr8)] H K := by
  apply W8_ok
  unfold W8
  have hfl : (E.flatMap pr8).length = 16 := by rw [rows_len pr8_len, hE]
  have hs : slcArr 8 2 (.iptr (E.flatMap pr8)) none (some (.int .i64 8)) none = some (.imm 8 true (E.flatMap pr8)) := by
    have n1 : ∀ d, natOf none d = some d := fun d => rfl
    have n2 : ∀ d, natOf (some (.int .i64 8)) d = some 8 := fun d => rfl
    simp only [slcArr, n1, n2, Option.bind_some]
    rw [if_pos ⟨by omega, by omega⟩]
    simp only [Nat.sub_zero, Nat.zero_mul, List.drop_zero]
    rw [List.take_of_length_le (by omega)]
    rfl
  have hl : lenA (.imm 8 true (E.flatMap pr8)) = some (.int .i64 8) := rfl
  have hrd : ∀ H', ReadsC 2 H' (.imm 8 true (E.flatMap pr8)) 8 (E.flatMap pr8) := fun H' => ReadsC.imm (by omega)
  simp only [letO_some, cellsOf?_agg, cellsOf?_int, cellsOf?_bool, cellsOf?_imm, cellsOf?_ref, cellsOf?_nils, faddr_iptr, faddr_ptr, List.drop_succ_cons, List.drop_zero, List.take_succ_cons, List.take_zero, load1_iptr, loadN_iptr, List.length_cons, List.length_nil, Nat.le_refl, if_true, List.getElem?_cons_zero, List.getElem?_cons_succ, List.getD_cons_zero, List.getD_cons_succ, extrF_tup, binF_add, binF_sub, binF_mul, binF_eql, binF_neq, binF_lss, binF_leq, binF_gtr, binF_geq, true_and, hs, hl]
  refine ⟨fun L H' => ∃ (i : Nat) (X : AV) (Hg : Heap), eqt L [X, .int .i64 (i : Int)] ∧ i ≤ 8 ∧ H.le Hg ∧ Grow 2 Hg H' X (quS n (E.take i)).length ((quS n (E.take i)).flatMap prC), fun L _ => (8 - iv L 1).toNat, ⟨0, .nils, H, rfl, by omega, Heap.le_refl _, Grow.nils 2 H⟩, ?_⟩
  rintro L H1 ⟨i, X, Hg, rfl, hi, hle, hg⟩
  obtain ⟨-, -, q3⟩ := qu_ok hn (E.take i)
  rw [List.length_take, hE] at q3
  try simp only [letO_some, cellsOf?_agg, cellsOf?_int, cellsOf?_bool, cellsOf?_imm, cellsOf?_ref, cellsOf?_nils, faddr_iptr, faddr_ptr, List.drop_succ_cons, List.drop_zero, List.take_succ_cons, List.take_zero, load1_iptr, loadN_iptr, List.length_cons, List.length_nil, Nat.le_refl, if_true, List.getElem?_cons_zero, List.getElem?_cons_succ, List.getD_cons_zero, List.getD_cons_succ, extrF_tup, binF_add, binF_sub, binF_mul, binF_eql, binF_neq, binF_lss, binF_leq, binF_gtr, binF_geq, true_and]
  refine condA_t (fun hlt => ?_) (fun hge => ?_)
  · have a1 : i < E.length := by omega
    have htk : quS n (E.take (i + 1)) = quF n (quS n (E.take i)) E[i] := by
      rw [List.take_add_one, List.getElem?_eq_getElem a1, quS, quS, Option.toList_some, List.foldl_append]; rfl
    refine ⟨fun L H' => ∃ (X' : AV) (Hg' : Heap), eqt L [X'] ∧ H.le Hg' ∧ Grow 2 Hg' H' X' (quS n (E.take (i + 1))).length ((quS n (E.take (i + 1))).flatMap prC), ?_, ?_⟩
    · rw [htk]
      generalize quS n (E.take i) = R at *
      refine ReadsC.getN (Heap.le_refl _) (hrd H1) (by omega) (by omega) ?_
      rw [Int.toNat_natCast, rows_get pr8_len (x := E[i]) (by simp [a1])]
      obtain ⟨r1, r2⟩ := hE2 _ (List.getElem_mem a1)
      generalize hp : E[i] = p at *
      refine alloc_store (cs := pr8 p) rfl rfl rfl rfl fun b4 hb4 => ?_
      have h4 : (H1.put b4 (pr8 p)) b4 = some (pr8 p) := Heap.put_same
      have hg4 : Grow 2 (Hg.put b4 (pr8 p)) (H1.put b4 (pr8 p)) X R.length (R.flatMap prC) := alloc_grow hg hb4
      have hle4 : H.le (Hg.put b4 (pr8 p)) := Heap.le_trans hle (Heap.le_new (none_of_le hg.le hb4))
      generalize H1.put b4 (pr8 p) = H2 at *
      generalize Hg.put b4 (pr8 p) = Hg2 at *
      have x0 : idxArr 2 1 (.ptr b4 0) (.int .i64 0) = some (.ptr b4 0) := rfl
      have x1 : idxArr 2 1 (.ptr b4 0) (.int .i64 1) = some (.ptr b4 1) := rfl
      have l0 : load1 (.ptr b4 0) H2 = some (.int .u8 (p.1 : Int)) := load1_at h4 rfl
      have l1 : load1 (.ptr b4 1) H2 = some (.int .u8 (p.2 : Int)) := load1_at h4 rfl
      have m1 := Nat.mod_lt p.1 hn
      have m2 := Nat.mod_lt p.2 hn
      have hmin : min2F (.int .i64 ((p.1 % n : Nat) : Int)) (.int .i64 ((p.2 % n : Nat) : Int)) = some (.int .i64 ((min (p.1 % n) (p.2 % n) : Nat) : Int)) := by
        show some (AV.int .i64 (if ((p.2 % n : Nat) : Int) < ((p.1 % n : Nat) : Int) then ((p.2 % n : Nat) : Int) else ((p.1 % n : Nat) : Int))) = _
        congr 2; split <;> omega
      have hmax : max2F (.int .i64 ((p.1 % n : Nat) : Int)) (.int .i64 ((p.2 % n : Nat) : Int)) = some (.int .i64 ((max (p.1 % n) (p.2 % n) : Nat) : Int)) := by
        show some (AV.int .i64 (if ((p.2 % n : Nat) : Int) > ((p.1 % n : Nat) : Int) then ((p.2 % n : Nat) : Int) else ((p.1 % n : Nat) : Int))) = _
        congr 2; split <;> omega
      simp only [letO_some, cellsOf?_agg, cellsOf?_int, cellsOf?_bool, cellsOf?_imm, cellsOf?_ref, cellsOf?_nils, faddr_iptr, faddr_ptr, List.drop_succ_cons, List.drop_zero, List.take_succ_cons, List.take_zero, load1_iptr, loadN_iptr, List.length_cons, List.length_nil, Nat.le_refl, if_true, List.getElem?_cons_zero, List.getElem?_cons_succ, List.getD_cons_zero, List.getD_cons_succ, extrF_tup, binF_add, binF_sub, binF_mul, binF_eql, binF_neq, binF_lss, binF_leq, binF_gtr, binF_geq, true_and, x0, x1, l0, l1, conv53 (n := (p.1 : Int)) (by omega), conv53 (n := (p.2 : Int)) (by omega), rem_nat hn, hmin, hmax, b30]
      refine alloc_store (cs := prC (quP n p)) rfl rfl rfl rfl fun b5 hb5 => ?_
      have h5 : (H2.put b5 (prC (quP n p))) b5 = some (prC (quP n p)) := Heap.put_same
      have hg5 : Grow 2 (Hg2.put b5 (prC (quP n p))) (H2.put b5 (prC (quP n p))) X R.length (R.flatMap prC) := alloc_grow hg4 hb5
      have hle5 : H.le (Hg2.put b5 (prC (quP n p))) := Heap.le_trans hle4 (Heap.le_new (none_of_le hg4.le hb5))
      generalize H2.put b5 (prC (quP n p)) = H3 at *
      generalize Hg2.put b5 (prC (quP n p)) = Hg3 at *
      have lN : loadN 2 (.ptr b5 0) H3 = some (.agg (prC (quP n p))) := by simp [loadN, cellsAt?, h5, prC]
      rw [quF]
      by_cases hne : p.1 % n = p.2 % n
      · have e : (((p.1 % n : Nat) : Int) != ((p.2 % n : Nat) : Int)) = false := by rw [hne]; simp
        simp only [letO_some, cellsOf?_agg, cellsOf?_int, cellsOf?_bool, cellsOf?_imm, cellsOf?_ref, cellsOf?_nils, faddr_iptr, faddr_ptr, List.drop_succ_cons, List.drop_zero, List.take_succ_cons, List.take_zero, load1_iptr, loadN_iptr, List.length_cons, List.length_nil, Nat.le_refl, if_true, List.getElem?_cons_zero, List.getElem?_cons_succ, List.getD_cons_zero, List.getD_cons_succ, extrF_tup, binF_add, binF_sub, binF_mul, binF_eql, binF_neq, binF_lss, binF_leq, binF_gtr, binF_geq, true_and, e, gval_bool, Int.reduceBNe, Int.reduceBEq, pickF_true, pickF_false, reduceIte, Bool.true_eq_false, Bool.false_eq_true, if_false, condA_tt, condA_ff, condG_tt, condG_ff, condG_tt', condG_ff', condG_undef, gval_undef]
        rw [if_neg (by simp [hne])]
        refine exU ?_
        try simp only [gval_bool, Int.reduceBNe, Int.reduceBEq, pickF_true, pickF_false, reduceIte, Bool.true_eq_false, Bool.false_eq_true, if_false, condA_tt, condA_ff, condG_tt, condG_ff, condG_tt', condG_ff', condG_undef, gval_undef, letO_some]
        exact ⟨X, Hg3, rfl, hle5, hg5⟩
      · have e : (((p.1 % n : Nat) : Int) != ((p.2 % n : Nat) : Int)) = true := by rw [bne_iff_ne]; omega
        simp only [letO_some, cellsOf?_agg, cellsOf?_int, cellsOf?_bool, cellsOf?_imm, cellsOf?_ref, cellsOf?_nils, faddr_iptr, faddr_ptr, List.drop_succ_cons, List.drop_zero, List.take_succ_cons, List.take_zero, load1_iptr, loadN_iptr, List.length_cons, List.length_nil, Nat.le_refl, if_true, List.getElem?_cons_zero, List.getElem?_cons_succ, List.getD_cons_zero, List.getD_cons_succ, extrF_tup, binF_add, binF_sub, binF_mul, binF_eql, binF_neq, binF_lss, binF_leq, binF_gtr, binF_geq, true_and, e, gval_bool, Int.reduceBNe, Int.reduceBEq, pickF_true, pickF_false, reduceIte, Bool.true_eq_false, Bool.false_eq_true, if_false, condA_tt, condA_ff, condG_tt, condG_ff, condG_tt', condG_ff', condG_undef, gval_undef, lN]
        refine exJ (c30 (p := quP n p) (R := R) hg5.readsC (by omega) ?_)
        by_cases hin : quP n p ∈ R
        · rw [decide_eq_true hin, if_neg (by simp [hin])]
          simp only [not_v, Bool.not_true, gval_bool, Int.reduceBNe, Int.reduceBEq, pickF_true, pickF_false, reduceIte, Bool.true_eq_false, Bool.false_eq_true, if_false, condA_tt, condA_ff, condG_tt, condG_ff, condG_tt', condG_ff', condG_undef, gval_undef, letO_some]
          exact ⟨X, Hg3, rfl, hle5, hg5⟩
        · rw [decide_eq_false hin, if_pos ⟨hne, hin⟩]
          simp only [not_v, Bool.not_false, gval_bool, Int.reduceBNe, Int.reduceBEq, pickF_true, pickF_false, reduceIte, Bool.true_eq_false, Bool.false_eq_true, if_false, condA_tt, condA_ff, condG_tt, condG_ff, condG_tt', condG_ff', condG_undef, gval_undef, letO_some, lN, l24_1]
          refine appendA_growR hg5 (m := 1) (new := prC (quP n p)) (by simp [srcOf, prC]) rfl rfl (by omega) (by omega) (by omega) fun v' H7 hg7 ho7 => ?_
          try simp only [letO_some]
          refine ⟨v', Hg3, rfl, hle5, ?_⟩
          rw [l24_dec, List.length_append]
          exact hg7
    · rintro L H2 ⟨X', Hg', rfl, hle', hg'⟩
      simp only [letO_some, cellsOf?_agg, cellsOf?_int, cellsOf?_bool, cellsOf?_imm, cellsOf?_ref, cellsOf?_nils, faddr_iptr, faddr_ptr, List.drop_succ_cons, List.drop_zero, List.take_succ_cons, List.take_zero, load1_iptr, loadN_iptr, List.length_cons, List.length_nil, Nat.le_refl, if_true, List.getElem?_cons_zero, List.getElem?_cons_succ, List.getD_cons_zero, List.getD_cons_succ, extrF_tup, binF_add, binF_sub, binF_mul, binF_eql, binF_neq, binF_lss, binF_leq, binF_gtr, binF_geq, true_and]
      rw [wrap_i64 (by omega) (by omega)]
      exact ⟨⟨i + 1, X', Hg', rfl, by omega, hle', hg'⟩, by simp [iv]; omega⟩
  · have hie : i = 8 := by omega
    subst hie
    rw [List.take_of_length_le (by omega)] at hg
    refine endK_all (Heap.le_trans hle hg.le) 2 ?_
    rw [grow_pairs hg hle]
    exact hk
end Go.Proofs.YtmmfelpgcdlgfaaDoor

namespace Go.Proofs.YtmmfelpgcdlgfaaDoor
open Go.Av
set_option linter.unusedVariables false
set_option linter.unusedSimpArgs false
set_option maxRecDepth 8000

theorem both_snoc (P : List (Nat × Nat)) (p : Nat × Nat) : both (P ++ [p]) = both P ++ [p, (p.2, p.1)] := by simp [both]
theorem both_len (P : List (Nat × Nat)) : (both P).length = 2 * P.length := by
  induction P with
  | nil => rfl
  | cons p P ih => rw [both, List.flatMap_cons, List.length_append, ← both, ih]; simp; omega
theorem both_ok {n : Nat} {P : List (Nat × Nat)} (h : Fd n P) (hl : P.length ≤ 8) : Vd n (both P) := by
  refine ⟨h.n1, h.n7, ?_, ?_, ?_, by rw [both_len]; omega⟩
  · rintro ⟨a, b⟩ hr
    rcases mem_both.1 hr with h1 | h1
    · have := h.rng _ h1; simp only at this ⊢; omega
    · have := h.rng _ h1; simp only at this ⊢; omega
  · rintro ⟨a, b⟩ hr
    rcases mem_both.1 hr with h1 | h1
    · have := h.rng _ h1; simp only at this ⊢; omega
    · have := h.rng _ h1; simp only at this ⊢; omega
  · have hrng := h.rng
    have hnd := h.nd
    clear hl h
    induction P with
    | nil => simp [both]
    | cons p P ih =>
      rw [List.pairwise_cons] at hnd
      have hp := hrng p (by simp)
      have ih := ih (fun r hr => hrng r (List.mem_cons_of_mem _ hr)) hnd.2
      have e : both (p :: P) = p :: (p.2, p.1) :: both P := by simp [both]
      rw [e, List.pairwise_cons, List.pairwise_cons]
      obtain ⟨a, b⟩ := p
      simp only at hp
      have no : ∀ q ∈ both P, q ≠ (a, b) ∧ q ≠ (b, a) := by
        rintro ⟨x, y⟩ hq
        rcases mem_both.1 hq with h1 | h1
        · have r := hrng _ (List.mem_cons_of_mem _ h1)
          have ne := hnd.1 _ h1
          simp only [ne_eq, Prod.mk.injEq] at r ne ⊢
          omega
        · have r := hrng _ (List.mem_cons_of_mem _ h1)
          have ne := hnd.1 _ h1
          simp only [ne_eq, Prod.mk.injEq] at r ne ⊢
          omega
      refine ⟨fun q hq => ?_, fun q hq => fun h => (no q hq).2 h.symm, ih⟩
      rcases List.mem_cons.1 hq with rfl | hq
      · simp only [ne_eq, Prod.mk.injEq]; omega
      · exact fun h => (no q hq).1 h.symm
theorem b29n {x : AV} (hx : cellsOf? x = some [x]) : buildF Tryd.prog 29 [(0, x)] = some (.agg [x, .nils]) := by
  rw [buildF_of (show buildPlan Tryd.prog 29 = some ([.int .i64 0, .nils], [(0, 1), (1, 1)]) by kernel_rfl)]
  simp [fillA, hx, splice]
theorem up_mem {a s : Nat} (h : a < 7) : decide ((a : Int) ∈ up (lsN s)) = s.testBit a := by
  have : (a : Int) ∈ up (lsN s) ↔ s.testBit a = true := by
    simp only [up, List.mem_map]
    constructor
    · rintro ⟨x, hx, he⟩
      have : x = a := by omega
      subst this
      exact (ls_mem.1 hx).2
    · intro hb
      exact ⟨a, ls_mem.2 ⟨h, hb⟩, rfl⟩
  by_cases hb : s.testBit a = true
  · rw [hb]; exact decide_eq_true (this.2 hb)
  · rw [Bool.not_eq_true] at hb
    rw [hb]; exact decide_eq_false fun h => by rw [this.1 h] at hb; cases hb
theorem up_inj {a b : List Nat} : up a = up b ↔ a = b := by
  constructor
  · intro h
    have := congrArg (List.map Int.toNat) h
    simpa [up, List.map_map, Function.comp_def] using this
  · rintro rfl; rfl
/-- TopMutual -/
theorem c3 {x : Nat} {E : List (Nat × Nat)} {H : Heap} {K : AV → Heap → Prop} (hx : x < 256) (hE : E.length = 8) (hE2 : ∀ x ∈ E, x.1 < 256 ∧ x.2 < 256) (hk : K (.bool true) H) :
    ACalls Tryd.prog 3 [.int .u8 (x : Int), .agg (E.flatMap pr8)] H K := by
  apply W3_ok
  unfold W3
  have hfl : (E.flatMap pr8).length = 16 := by rw [rows_len pr8_len, hE]
  have hld : (16 ≤ (E.flatMap pr8).length) = True := by simp [hfl]
  have htk16 : (E.flatMap pr8).take 16 = E.flatMap pr8 := List.take_of_length_le (by omega)
  have hm7 : x % 7 < 7 := Nat.mod_lt _ (by omega)
  have hadd : IntKind.i64.wrap (1 + ((x % 7 : Nat) : Int)) = ((1 + x % 7 : Nat) : Int) := by rw [wrap_i64 (by omega) (by omega)]; omega
  have hrem : binF Tryd.prog .rem 3 (.int .i64 (x : Int)) (.int .i64 7) = some (.int .i64 ((x % 7 : Nat) : Int)) := rem_nat (b := 7) (by omega)
  have hc16 : cellsOf? (.agg (E.flatMap pr8)) = some (E.flatMap pr8) := rfl
  simp only [letO_some, cellsOf?_agg, cellsOf?_int, cellsOf?_bool, cellsOf?_imm, cellsOf?_ref, cellsOf?_nils, faddr_iptr, faddr_ptr, List.drop_succ_cons, List.drop_zero, List.take_succ_cons, List.take_zero, load1_iptr, loadN_iptr, List.length_cons, List.length_nil, Nat.le_refl, if_true, List.getElem?_cons_zero, List.getElem?_cons_succ, List.getD_cons_zero, List.getD_cons_succ, extrF_tup, binF_add, binF_sub, binF_mul, binF_eql, binF_neq, binF_lss, binF_leq, binF_gtr, binF_geq, true_and, conv53 (n := (x : Int)) (by omega), hrem, hadd, hld, htk16]
  generalize hn : 1 + x % 7 = n at *
  have hn1 : 0 < n := by omega
  have hn7 : n ≤ 7 := by omega
  obtain ⟨q1, q2, q3⟩ := qu_ok hn1 E
  refine c8 hn1 hn7 hE hE2 ?_
  generalize quS n E = R at *
  rw [hE] at q3
  have hF : Fd n R := ⟨by omega, hn7, q1, q2, by omega⟩
  have hV := both_ok hF q3
  have h12 := kern_le hn7 q1
  have hv : ∀ H, RP H (.imm R.length false (R.flatMap prC)) R := fun H => ReadsC.imm (by rw [rows_len prC_len])
  have hvc : cellsOf? (.imm R.length false (R.flatMap prC)) = some [.imm R.length false (R.flatMap prC)] := rfl
  generalize AV.imm R.length false (R.flatMap prC) = v at *
  have hvs : isScalar v = true := ReadsC.scalar (hv H)
  have hvl : lenA v = some (.int .i64 R.length) := ReadsC.len (hv H)
  simp only [b27 (x := .int .i64 (n : Int)) (y := v) rfl hvc, b29n (x := .int .i64 (n : Int)) rfl, letO_some]
  refine alloc_store (cs := [.int .i64 (n : Int), v]) rfl (by rw [List.all_cons, List.all_cons, hvs]; rfl) rfl rfl fun b6 hb6 => ?_
  have hle6 := Heap.le_new (c := [.int .i64 (n : Int), v]) hb6
  have h6 : (H.put b6 [.int .i64 (n : Int), v]) b6 = some [.int .i64 (n : Int), v] := Heap.put_same
  generalize H.put b6 [.int .i64 (n : Int), v] = H6 at *
  refine alloc_store (cs := [.int .i64 (n : Int), .nils]) rfl rfl rfl rfl fun b7 hb7 => ?_
  have hle7 := Heap.le_new (c := [.int .i64 (n : Int), .nils]) hb7
  have h7 : (H6.put b7 [.int .i64 (n : Int), .nils]) b7 = some [.int .i64 (n : Int), .nils] := Heap.put_same
  have h67 := hle7 _ _ h6
  have hne : b6 ≠ b7 := by rintro rfl; rw [h6] at hb7; cases hb7
  have hbH : H b7 = none := none_of_le hle6 hb7
  have hleH := Heap.le_trans hle6 hle7
  generalize H6.put b7 [.int .i64 (n : Int), .nils] = H7 at *
  have f6 : ∀ b, faddr 1 (.ptr b 0) = some (.ptr b 1) := fun b => rfl
  have l6 : load1 (.ptr b6 1) H7 = some v := load1_at h67 rfl
  simp only [f6, l6, letO_some, hvl]
  refine ⟨fun L H' => ∃ (i : Nat) (X : AV) (Hg : Heap), eqt L [.int .i64 (i : Int)] ∧ i ≤ R.length ∧ Grow 2 Hg H' X (both (R.take i)).length ((both (R.take i)).flatMap prC) ∧ Hg b7 = some [.int .i64 (n : Int), X] ∧ Hg b6 = some [.int .i64 (n : Int), v] ∧ H.le Hg,
    fun L _ => (R.length - iv L 0).toNat, ⟨0, .nils, H7, rfl, by omega, Grow.nils 2 H7, h7, h67, hleH⟩, ?_⟩
  rintro L H8 ⟨i, X, Hg, rfl, hi, hg, g7, g6, hle⟩
  try simp only [letO_some, cellsOf?_agg, cellsOf?_int, cellsOf?_bool, cellsOf?_imm, cellsOf?_ref, cellsOf?_nils, faddr_iptr, faddr_ptr, List.drop_succ_cons, List.drop_zero, List.take_succ_cons, List.take_zero, load1_iptr, loadN_iptr, List.length_cons, List.length_nil, Nat.le_refl, if_true, List.getElem?_cons_zero, List.getElem?_cons_succ, List.getD_cons_zero, List.getD_cons_succ, extrF_tup, binF_add, binF_sub, binF_mul, binF_eql, binF_neq, binF_lss, binF_leq, binF_gtr, binF_geq, true_and]
  refine condA_t (fun hlt => ?_) (fun hge => ?_)
  · have a1 : i < R.length := by omega
    have hl16 : (both (R.take i)).length ≤ 16 := by rw [both_len, List.length_take]; omega
    refine ReadsC.getN (Heap.le_refl _) (hv H8) (by omega) (by omega) ?_
    rw [Int.toNat_natCast, rows_get prC_len (x := R[i]) (by simp [a1])]
    have htk : both (R.take (i + 1)) = both (R.take i) ++ [R[i], (R[i].2, R[i].1)] := by
      rw [List.take_add_one, List.getElem?_eq_getElem a1, Option.toList_some, both_snoc]
    generalize R[i] = p at *
    refine alloc_store (cs := prC p) rfl rfl rfl rfl fun b9 hb9 => ?_
    have h9 : (H8.put b9 (prC p)) b9 = some (prC p) := Heap.put_same
    have hg9 : Grow 2 (Hg.put b9 (prC p)) (H8.put b9 (prC p)) X _ _ := alloc_grow hg hb9
    have hln := Heap.le_new (c := prC p) (none_of_le hg.le hb9)
    have hle9 : H.le (Hg.put b9 (prC p)) := Heap.le_trans hle hln
    have g79 := hln _ _ g7
    have g69 := hln _ _ g6
    generalize H8.put b9 (prC p) = H9 at *
    generalize Hg.put b9 (prC p) = Hg9 at *
    have x0 : idxArr 2 1 (.ptr b9 0) (.int .i64 0) = some (.ptr b9 0) := rfl
    have x1 : idxArr 2 1 (.ptr b9 0) (.int .i64 1) = some (.ptr b9 1) := rfl
    have l0 : load1 (.ptr b9 0) H9 = some (.int .i64 (p.1 : Int)) := load1_at h9 rfl
    have l1 : load1 (.ptr b9 1) H9 = some (.int .i64 (p.2 : Int)) := load1_at h9 rfl
    have lN : loadN 2 (.ptr b9 0) H9 = some (.agg (prC p)) := by simp [loadN, cellsAt?, h9, prC]
    have lX : load1 (.ptr b7 1) H9 = some X := load1_at (hg9.le _ _ g79) rfl
    simp only [x0, x1, l0, l1, lN, lX, f6, letO_some, b30, l24_2]
    refine appendA_growR hg9 (m := 2) (new := prC p ++ prC (p.2, p.1)) (by simp [srcOf, prC]) rfl rfl (by omega) (by omega) (by omega) fun v' H10 hg10 ho10 => ?_
    try simp only [f6, letO_some]
    refine storeA_of (cs := [v']) (hg10.le _ _ g79) hg10.cells (by simp [hg10.scalar]) rfl (by simp) ?_
    have hsp : splice [.int .i64 (n : Int), X] 1 [v'] = [.int .i64 (n : Int), v'] := rfl
    rw [hsp]
    try simp only [letO_some, binF_add]
    rw [wrap_i64 (by omega) (by omega)]
    have hg11 := hg10.put g79 (y := [.int .i64 (n : Int), v'])
    refine ⟨⟨i + 1, v', Hg9.put b7 [.int .i64 (n : Int), v'], rfl, by omega, ?_, Heap.put_same, by rw [Heap.put_ne hne]; exact g69, Heap.le_put hle9 hbH⟩, by simp [iv]; omega⟩
    rw [htk]
    have e1 : ((both (R.take i) ++ [p, (p.2, p.1)]).flatMap prC) = (both (R.take i)).flatMap prC ++ (prC p ++ prC (p.2, p.1)) := by simp
    have e2 : (both (R.take i) ++ [p, (p.2, p.1)]).length = (both (R.take i)).length + 2 := by simp
    rw [e1, e2]
    exact hg11
  · have hie : i = R.length := by omega
    subst hie
    rw [List.take_length] at hg
    have hX : RP H8 X (both R) := hg.readsC
    have l7 : loadN 2 (.ptr b7 0) H8 = some (.agg [.int .i64 (n : Int), X]) := loadN_at (hg.le _ _ g7)
    have l6 : loadN 2 (.ptr b6 0) H8 = some (.agg [.int .i64 (n : Int), v]) := loadN_at (hg.le _ _ g6)
    have h68 := hg.le _ _ g6
    have hle8 := Heap.le_trans hle hg.le
    clear hg
    simp only [l7, letO_some]
    refine c9 hV hX h12 fun Ks hp => ?_
    simp only [letO_some, cellsOf?_agg, cellsOf?_int, cellsOf?_bool, cellsOf?_imm, cellsOf?_ref, cellsOf?_nils, faddr_iptr, faddr_ptr, List.drop_succ_cons, List.drop_zero, List.take_succ_cons, List.take_zero, load1_iptr, loadN_iptr, List.length_cons, List.length_nil, Nat.le_refl, if_true, List.getElem?_cons_zero, List.getElem?_cons_succ, List.getD_cons_zero, List.getD_cons_succ, extrF_tup, binF_add, binF_sub, binF_mul, binF_eql, binF_neq, binF_lss, binF_leq, binF_gtr, binF_geq, true_and, l6]
    refine c10 hF (hv _) ?_
    simp only [letO_some, cellsOf?_agg, cellsOf?_int, cellsOf?_bool, cellsOf?_imm, cellsOf?_ref, cellsOf?_nils, faddr_iptr, faddr_ptr, List.drop_succ_cons, List.drop_zero, List.take_succ_cons, List.take_zero, load1_iptr, loadN_iptr, List.length_cons, List.length_nil, Nat.le_refl, if_true, List.getElem?_cons_zero, List.getElem?_cons_succ, List.getD_cons_zero, List.getD_cons_succ, extrF_tup, binF_add, binF_sub, binF_mul, binF_eql, binF_neq, binF_lss, binF_leq, binF_gtr, binF_geq, true_and, l6]
    refine c11 hF (hv _) ?_
    have hme := mu_end hn7 q1 hp
    have hKl : Ks.length ≤ 12 := by rw [hp.length_eq]; exact h12
    have hKm : ∀ s ∈ Ks, s < 2 ^ n ∧ judE n (both R) s = 0 := by
      intro s hs
      have := hp.mem_iff.1 hs
      rw [kern, List.mem_filter, List.mem_range, beq_iff_eq] at this
      exact this
    have hcov : ∀ s ∈ Ks, expl R (oth n s) = true := fun s hs => (expl_oth q1 (hKm s hs).1).2 ((kern_iff q1 (hKm s hs).1).1 (hKm s hs).2).1
    have hll7 : (shS n R).1.length ≤ 7 := by have := hme.2; omega
    have e0 : ((0 : Int) != 0) = false := rfl
    have hlK : lenA (tl Ks) = some (.int .i64 Ks.length) := rfl
    simp only [letO_some, cellsOf?_agg, cellsOf?_int, cellsOf?_bool, cellsOf?_imm, cellsOf?_ref, cellsOf?_nils, faddr_iptr, faddr_ptr, List.drop_succ_cons, List.drop_zero, List.take_succ_cons, List.take_zero, load1_iptr, loadN_iptr, List.length_cons, List.length_nil, Nat.le_refl, if_true, List.getElem?_cons_zero, List.getElem?_cons_succ, List.getD_cons_zero, List.getD_cons_succ, extrF_tup, binF_add, binF_sub, binF_mul, binF_eql, binF_neq, binF_lss, binF_leq, binF_gtr, binF_geq, true_and, e0, gval_bool, Int.reduceBNe, Int.reduceBEq, pickF_true, pickF_false, reduceIte, Bool.true_eq_false, Bool.false_eq_true, if_false, condA_tt, condA_ff, condG_tt, condG_ff, condG_tt', condG_ff', condG_undef, gval_undef, hlK]
    generalize hl : (shS n R).1 = l at *
    generalize hm : (shS n R).2 = m at *
    have h2n : 2 ^ n ≤ 2 ^ 7 := Nat.pow_le_pow_right (by omega) hn7
    refine ⟨fun L H' => ∃ (i : Nat), eqt L [.int .i64 (((Ks.take i).foldl (muF n l) (0, 0, false)).1 : Nat), .int .i64 (((Ks.take i).foldl (muF n l) (0, 0, false)).2.1 : Nat), .bool ((Ks.take i).foldl (muF n l) (0, 0, false)).2.2, .int .i64 (i : Int)] ∧ i ≤ Ks.length ∧ H8.le H',
      fun L _ => (Ks.length - iv L 3).toNat, ⟨0, rfl, by omega, Heap.le_refl _⟩, ?_⟩
    rintro L H11 ⟨i, rfl, hi, hle11⟩
    have hmu : ∀ (L : List Nat), (L.foldl (muF n l) (0, 0, false)).1 ≤ 7 ∧ (L.foldl (muF n l) (0, 0, false)).2.1 ≤ L.length := by
      intro L
      obtain ⟨i1, i2, i3, i4⟩ := mu_inv n l L
      refine ⟨?_, ?_⟩
      · rcases i4 with h | ⟨s, hs, h⟩
        · omega
        · have := ls_len s; omega
      · rw [i2]; exact List.countP_le_length
    obtain ⟨w1, w2⟩ := hmu (Ks.take i)
    rw [List.length_take] at w2
    try simp only [letO_some, cellsOf?_agg, cellsOf?_int, cellsOf?_bool, cellsOf?_imm, cellsOf?_ref, cellsOf?_nils, faddr_iptr, faddr_ptr, List.drop_succ_cons, List.drop_zero, List.take_succ_cons, List.take_zero, load1_iptr, loadN_iptr, List.length_cons, List.length_nil, Nat.le_refl, if_true, List.getElem?_cons_zero, List.getElem?_cons_succ, List.getD_cons_zero, List.getD_cons_succ, extrF_tup, binF_add, binF_sub, binF_mul, binF_eql, binF_neq, binF_lss, binF_leq, binF_gtr, binF_geq, true_and]
    refine condA_t (fun hlt => ?_) (fun hge => ?_)
    · have a1 : i < Ks.length := by omega
      have htk : (Ks.take (i + 1)).foldl (muF n l) (0, 0, false) = muF n l ((Ks.take i).foldl (muF n l) (0, 0, false)) Ks[i] := by
        rw [List.take_add_one, List.getElem?_eq_getElem a1, Option.toList_some, List.foldl_append]; rfl
      have hmem := List.getElem_mem a1
      have hs2 := (hKm _ hmem).1
      have hcv := hcov _ hmem
      refine ⟨fun L H' => eqt L [.int .i64 (((Ks.take (i + 1)).foldl (muF n l) (0, 0, false)).1 : Nat), .int .i64 (((Ks.take (i + 1)).foldl (muF n l) (0, 0, false)).2.1 : Nat), .bool ((Ks.take (i + 1)).foldl (muF n l) (0, 0, false)).2.2] ∧ H8.le H', ?_, ?_⟩
      · rw [htk]
        generalize (Ks.take i).foldl (muF n l) (0, 0, false) = st at *
        obtain ⟨most, many, found⟩ := st
        simp only at w1 w2
        refine ReadsC.get (v := tl Ks) (Heap.le_refl H11) (n := Ks.length) (cells := Ks.map kl) ⟨by simp, rfl, rfl⟩ (x := kl Ks[i]) (by omega) (by omega) (by rw [Int.toNat_natCast]; simp [a1]) ?_
        generalize Ks[i] = s at *
        have hls := ls_len s
        have hlk : lenA (kl s) = some (.int .i64 ((lsN s).length : Nat)) := by simp [kl, sl, lenA]
        rw [muF]
        simp only [letO_some]
        refine ⟨fun L H' => eqt L (if most < (lsN s).length then [.int .i64 ((lsN s).length : Nat), .int .i64 0, .bool false] else [.int .i64 (most : Nat), .int .i64 (many : Nat), .bool found]) ∧ eqt H' H11, ?_, ?_⟩
        · simp only [hlk, letO_some, letO_some, cellsOf?_agg, cellsOf?_int, cellsOf?_bool, cellsOf?_imm, cellsOf?_ref, cellsOf?_nils, faddr_iptr, faddr_ptr, List.drop_succ_cons, List.drop_zero, List.take_succ_cons, List.take_zero, load1_iptr, loadN_iptr, List.length_cons, List.length_nil, Nat.le_refl, if_true, List.getElem?_cons_zero, List.getElem?_cons_succ, List.getD_cons_zero, List.getD_cons_succ, extrF_tup, binF_add, binF_sub, binF_mul, binF_eql, binF_neq, binF_lss, binF_leq, binF_gtr, binF_geq, true_and]
          refine condA_t (fun hc => ?_) (fun hc => ?_)
          · rw [if_pos (by omega)]; exact ⟨rfl, rfl⟩
          · rw [if_neg (by omega)]; exact ⟨rfl, rfl⟩
        · rintro L H12 ⟨rfl, rfl⟩
          have hst : ∃ (m2 k2 : Nat) (f2 : Bool), (if most < (lsN s).length then [AV.int .i64 ((lsN s).length : Nat), .int .i64 0, .bool false] else [.int .i64 (most : Nat), .int .i64 (many : Nat), .bool found]) = [AV.int .i64 (m2 : Int), .int .i64 (k2 : Int), .bool f2] ∧ m2 ≤ 7 ∧ k2 ≤ 12 ∧
              (if most < (lsN s).length then ((lsN s).length, 1, decide (lsN (oth n s) = l)) else if (lsN s).length < most then (most, many, found) else (most, many + 1, found || decide (lsN (oth n s) = l))) = (if (lsN s).length < m2 then (m2, k2, f2) else (m2, k2 + 1, f2 || decide (lsN (oth n s) = l))) := by
            by_cases hc : most < (lsN s).length
            · refine ⟨(lsN s).length, 0, false, by rw [if_pos hc]; rfl, by omega, by omega, ?_⟩
              rw [if_pos hc, if_neg (by omega)]; simp
            · refine ⟨most, many, found, by rw [if_neg hc], by omega, by omega, ?_⟩
              rw [if_neg hc]
          obtain ⟨m2, k2, f2, t1, t2, t3, t4⟩ := hst
          rw [t1, t4]
          simp only [hlk, letO_some, letO_some, cellsOf?_agg, cellsOf?_int, cellsOf?_bool, cellsOf?_imm, cellsOf?_ref, cellsOf?_nils, faddr_iptr, faddr_ptr, List.drop_succ_cons, List.drop_zero, List.take_succ_cons, List.take_zero, load1_iptr, loadN_iptr, List.length_cons, List.length_nil, Nat.le_refl, if_true, List.getElem?_cons_zero, List.getElem?_cons_succ, List.getD_cons_zero, List.getD_cons_succ, extrF_tup, binF_add, binF_sub, binF_mul, binF_eql, binF_neq, binF_lss, binF_leq, binF_gtr, binF_geq, true_and]
          refine condA_t (fun hc => ?_) (fun hc => ?_)
          · rw [if_pos (by omega)]; exact ⟨rfl, hle11⟩
          · rw [if_neg (by omega)]
            have hoth := oth_list ⟨n, by omega⟩ ⟨s, by omega⟩ hs2
            simp only at hoth
            have hflen : ∀ a, a ≤ n → ((List.range a).filter fun a => !s.testBit a).length ≤ a := fun a _ => by
              have := List.length_filter_le (fun a => !s.testBit a) (List.range a)
              simpa using this
            rw [wrap_i64 (by omega) (by omega)]
            refine ⟨fun L H' => ∃ (a : Nat) (Y : AV), eqt L [Y, .int .i64 (a : Int)] ∧ a ≤ n ∧ Grow 1 H12 H' Y ((List.range a).filter fun a => !s.testBit a).length (ints (up ((List.range a).filter fun a => !s.testBit a))), fun L _ => (n - iv L 1).toNat, ⟨0, .nils, rfl, by omega, Grow.nils 1 H12⟩, ?_⟩
            rintro L H13 ⟨a, Y, rfl, ha, hgY⟩
            have hfa := hflen a ha
            try simp only [letO_some, cellsOf?_agg, cellsOf?_int, cellsOf?_bool, cellsOf?_imm, cellsOf?_ref, cellsOf?_nils, faddr_iptr, faddr_ptr, List.drop_succ_cons, List.drop_zero, List.take_succ_cons, List.take_zero, load1_iptr, loadN_iptr, List.length_cons, List.length_nil, Nat.le_refl, if_true, List.getElem?_cons_zero, List.getElem?_cons_succ, List.getD_cons_zero, List.getD_cons_succ, extrF_tup, binF_add, binF_sub, binF_mul, binF_eql, binF_neq, binF_lss, binF_leq, binF_gtr, binF_geq, true_and]
            refine condA_t (fun hlt2 => ?_) (fun hge2 => ?_)
            · have ha1 : a < n := by omega
              have hr : (List.range (a + 1)).filter (fun a => !s.testBit a) = (List.range a).filter (fun a => !s.testBit a) ++ [a].filter (fun a => !s.testBit a) := by rw [List.range_succ, List.filter_append]
              refine ⟨fun L H' => ∃ Y', eqt L [Y'] ∧ Grow 1 H12 H' Y' ((List.range (a + 1)).filter fun a => !s.testBit a).length (ints (up ((List.range (a + 1)).filter fun a => !s.testBit a))), ?_, ?_⟩
              · refine c12 (Reads.sl _ _) (by rw [up_length]; omega) ?_
                rw [up_mem (by omega)]
                cases hb : s.testBit a
                · have hf : [a].filter (fun a => !s.testBit a) = [a] := by simp [hb]
                  rw [hr, hf]
                  simp only [not_v, Bool.not_false, condA_tt, letO_some, l35 cellsOf?_int]
                  refine appendA_oneR hgY (by omega) fun v' H14 hg14 ho14 => ?_
                  try simp only [letO_some]
                  refine ⟨v', rfl, ?_⟩
                  have e1 : up ((List.range a).filter (fun a => !s.testBit a) ++ [a]) = up ((List.range a).filter (fun a => !s.testBit a)) ++ [(a : Int)] := by simp [up]
                  rw [e1, List.length_append]
                  exact hg14
                · have hf : [a].filter (fun a => !s.testBit a) = [] := by simp [hb]
                  rw [hr, hf, List.append_nil]
                  simp only [not_v, Bool.not_true, condA_ff, letO_some]
                  exact ⟨Y, rfl, hgY⟩
              · rintro L H14 ⟨Y', rfl, hgY'⟩
                simp only [letO_some, cellsOf?_agg, cellsOf?_int, cellsOf?_bool, cellsOf?_imm, cellsOf?_ref, cellsOf?_nils, faddr_iptr, faddr_ptr, List.drop_succ_cons, List.drop_zero, List.take_succ_cons, List.take_zero, load1_iptr, loadN_iptr, List.length_cons, List.length_nil, Nat.le_refl, if_true, List.getElem?_cons_zero, List.getElem?_cons_succ, List.getD_cons_zero, List.getD_cons_succ, extrF_tup, binF_add, binF_sub, binF_mul, binF_eql, binF_neq, binF_lss, binF_leq, binF_gtr, binF_geq, true_and]
                rw [wrap_i64 (by omega) (by omega)]
                exact ⟨⟨a + 1, Y', rfl, by omega, hgY'⟩, by simp [iv]; omega⟩
            · have han : a = n := by omega
              subst han
              rw [← hoth] at hgY
              have hYr := hgY.reads
              have hle13 := Heap.le_trans hle11 hgY.le
              have l6 : loadN 2 (.ptr b6 0) H13 = some (.agg [.int .i64 (a : Int), v]) := loadN_at (hle13 _ _ h68)
              simp only [l6, letO_some]
              refine c13 hF (hv _) hYr (oth_lt hs2) ?_
              rw [hcv]
              have e0' : (((if true = true then (0 : Int) else 21)) != 0) = false := rfl
              simp only [letO_some, binF_neq, e0', condA_ff]
              have ec : ((k2 : Int) + 1) = ((k2 + 1 : Nat) : Int) := by omega
              rw [ec]
              cases f2
              · simp only [gval_bool, Int.reduceBNe, Int.reduceBEq, pickF_true, pickF_false, reduceIte, Bool.true_eq_false, Bool.false_eq_true, if_false, condA_tt, condA_ff, condG_tt, condG_ff, condG_tt', condG_ff', condG_undef, gval_undef, letO_some]
                refine exJ (c14 hYr (Reads.sl _ _) (by rw [up_length]; have := ls_len (oth a s); omega) (by rw [up_length]; omega) ?_)
                have : decide (up (lsN (oth a s)) = up l) = decide (lsN (oth a s) = l) := by rw [decide_eq_decide]; exact up_inj
                rw [this]
                simp only [gval_bool, Int.reduceBNe, Int.reduceBEq, pickF_true, pickF_false, reduceIte, Bool.true_eq_false, Bool.false_eq_true, if_false, condA_tt, condA_ff, condG_tt, condG_ff, condG_tt', condG_ff', condG_undef, gval_undef, letO_some, Bool.false_or]
                exact ⟨rfl, hle13⟩
              · simp only [gval_bool, Int.reduceBNe, Int.reduceBEq, pickF_true, pickF_false, reduceIte, Bool.true_eq_false, Bool.false_eq_true, if_false, condA_tt, condA_ff, condG_tt, condG_ff, condG_tt', condG_ff', condG_undef, gval_undef, letO_some]
                refine exU ?_
                simp only [gval_bool, Int.reduceBNe, Int.reduceBEq, pickF_true, pickF_false, reduceIte, Bool.true_eq_false, Bool.false_eq_true, if_false, condA_tt, condA_ff, condG_tt, condG_ff, condG_tt', condG_ff', condG_undef, gval_undef, letO_some, Bool.true_or]
                exact ⟨rfl, hle13⟩
      · rintro L H12 ⟨rfl, hle12⟩
        simp only [letO_some, cellsOf?_agg, cellsOf?_int, cellsOf?_bool, cellsOf?_imm, cellsOf?_ref, cellsOf?_nils, faddr_iptr, faddr_ptr, List.drop_succ_cons, List.drop_zero, List.take_succ_cons, List.take_zero, load1_iptr, loadN_iptr, List.length_cons, List.length_nil, Nat.le_refl, if_true, List.getElem?_cons_zero, List.getElem?_cons_succ, List.getD_cons_zero, List.getD_cons_succ, extrF_tup, binF_add, binF_sub, binF_mul, binF_eql, binF_neq, binF_lss, binF_leq, binF_gtr, binF_geq, true_and]
        rw [wrap_i64 (by omega) (by omega)]
        exact ⟨⟨i + 1, rfl, by omega, hle12⟩, by simp [iv]; omega⟩
    · have hie : i = Ks.length := by omega
      subst hie
      rw [List.take_length, hme.1]
      have hsub : IntKind.i64.wrap ((n : Int) - ((n - l.length : Nat) : Int)) = (l.length : Int) := by
        have := hme.2
        rw [wrap_i64 (by omega) (by omega)]; omega
      have hll : lenA (sl (up l)) = some (.int .i64 (l.length : Int)) := by simp [sl, lenA]
      have em : ((m : Int) == (m : Int)) = true := by simp
      have el : ((l.length : Int) == (l.length : Int)) = true := by simp
      simp only [letO_some, cellsOf?_agg, cellsOf?_int, cellsOf?_bool, cellsOf?_imm, cellsOf?_ref, cellsOf?_nils, faddr_iptr, faddr_ptr, List.drop_succ_cons, List.drop_zero, List.take_succ_cons, List.take_zero, load1_iptr, loadN_iptr, List.length_cons, List.length_nil, Nat.le_refl, if_true, List.getElem?_cons_zero, List.getElem?_cons_succ, List.getD_cons_zero, List.getD_cons_succ, extrF_tup, binF_add, binF_sub, binF_mul, binF_eql, binF_neq, binF_lss, binF_leq, binF_gtr, binF_geq, true_and, gval_bool, Int.reduceBNe, Int.reduceBEq, pickF_true, pickF_false, reduceIte, Bool.true_eq_false, Bool.false_eq_true, if_false, condA_tt, condA_ff, condG_tt, condG_ff, condG_tt', condG_ff', condG_undef, gval_undef, em, hll, hsub, el]
      refine exJ (c15 ?_)
      try simp only [letO_some, cellsOf?_agg, cellsOf?_int, cellsOf?_bool, cellsOf?_imm, cellsOf?_ref, cellsOf?_nils, faddr_iptr, faddr_ptr, List.drop_succ_cons, List.drop_zero, List.take_succ_cons, List.take_zero, load1_iptr, loadN_iptr, List.length_cons, List.length_nil, Nat.le_refl, if_true, List.getElem?_cons_zero, List.getElem?_cons_succ, List.getD_cons_zero, List.getD_cons_succ, extrF_tup, binF_add, binF_sub, binF_mul, binF_eql, binF_neq, binF_lss, binF_leq, binF_gtr, binF_geq, true_and, gval_bool, Int.reduceBNe, Int.reduceBEq, pickF_true, pickF_false, reduceIte, Bool.true_eq_false, Bool.false_eq_true, if_false, condA_tt, condA_ff, condG_tt, condG_ff, condG_tt', condG_ff', condG_undef, gval_undef]
      exact endK_pub (Pub.drop (Heap.le_trans hle8 hle11)) (endK_ret hk)
end Go.Proofs.YtmmfelpgcdlgfaaDoor

namespace Go.Proofs.YtmmfelpgcdlgfaaDoor
open Go.Av
set_option linter.unusedVariables false

/-- Numbers, two by two. -/
theorem pairs_of : ∀ (k : Nat) (l : List Nat), l.length = 2 * k → (∀ x ∈ l, x < 256) → ∃ E : List (Nat × Nat), E.length = k ∧ (l.map fun (x : Nat) => AV.int .u8 (x : Int)) = E.flatMap pr8 ∧ ∀ x ∈ E, x.1 < 256 ∧ x.2 < 256
  | 0, l, h, _ => ⟨[], rfl, by have : l = [] := List.eq_nil_of_length_eq_zero (by omega); subst this; rfl, by simp⟩
  | k + 1, l, h, hx => by
    match l, h, hx with
    | a :: b :: l, h, hx =>
      obtain ⟨E, e1, e2, e3⟩ := pairs_of k l (by simp at h; omega) (fun x hm => hx x (by simp [hm]))
      refine ⟨(a, b) :: E, by simp [e1], ?_, fun x hm => ?_⟩
      · rw [List.flatMap_cons, ← e2]; rfl
      · rcases List.mem_cons.1 hm with rfl | hm
        · exact ⟨hx _ (by simp), hx _ (by simp)⟩
        · exact e3 x hm
namespace topMutual
theorem law {b : Nat} {g : List Nat} (h : b < 256) (h0 : g.length = 16) (h1 : ∀ x ∈ g, x < 256) : ACalls Tryd.prog 3 [.int .u8 (b : Int), .agg (g.map fun (x : Nat) => .int .u8 (x : Int))] Heap.none fun r _ => r = .bool true := by
  obtain ⟨E, e1, e2, e3⟩ := pairs_of 8 g h0 h1
  rw [e2]
  exact c3 h e1 e3 rfl
end topMutual
end Go.Proofs.YtmmfelpgcdlgfaaDoor
