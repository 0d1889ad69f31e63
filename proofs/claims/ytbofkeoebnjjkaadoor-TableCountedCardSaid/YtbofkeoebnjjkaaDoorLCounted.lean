import Derived.Test.YtbofkeoebnjjkaaDoorLCountedP1
import Derived.Test.YtbofkeoebnjjkaaDoorConB
import Derived.Test.YtbofkeoebnjjkaaDoorAvB
import Derived.Test.YtbofkeoebnjjkaaDoorBase
import Derived.Test.YtbofkeoebnjjkaaDoorRows
import Derived.MakeChecks
import Derived.LaidLaws
import Derived.Deep.DeepLaidRun
import Derived.LaidHandle
import Derived.Test.YtbofkeoebnjjkaaDoorTie
import Derived.Test.YtbofkeoebnjjkaaDoorCards
import Derived.SevenTiedAt
/- TableCounted: for every input the law returns true, and the input reads as before. No conditions. -/
namespace Go.Proofs.YtbofkeoebnjjkaaDoor
open Go.Av Tab
set_option linter.unusedVariables false
set_option linter.unusedSimpArgs false
set_option maxRecDepth 4000

theorem least_take {t : Tb} (hc : chkT t = 0) {p : List Nat} (hp : isPlan t.length p) (x : Int) : leastK (takeT t (up p) x) (up p) t.length = leastK t (up p) t.length - x := by
  have n1 := (chkT_ok hc).1
  have hcell : ∀ r, r < t.length → cell (takeT t (up p) x) r (p.getD r 0) = cell t r (p.getD r 0) - x := fun r hr => by
    rw [takeT_cell (hp.fit hc) hr, if_pos ⟨by rw [up_length, hp.1]; exact hr, by rw [up_getN]⟩]
  obtain ⟨r1, q1, q2⟩ := leastK_in (t := takeT t (up p) x) (p := up p) t.length n1
  obtain ⟨r2, q3, q4⟩ := leastK_in (t := t) (p := up p) t.length n1
  have q5 := leastK_le (t := takeT t (up p) x) (p := up p) t.length r2 q3
  have q6 := leastK_le (t := t) (p := up p) t.length r1 q1
  rw [up_getN] at q2 q4 q5 q6
  rw [hcell r1 q1] at q2
  rw [hcell r2 q3] at q5
  omega
theorem prod_least {t : Tb} (hc : chkT t = 0) {p : List Nat} (hp : isPlan t.length p) : prodZ t (up p) t.length = 0 ↔ leastK t (up p) t.length = 0 := by
  have n1 := (chkT_ok hc).1
  have h := least_zero hc (p := up p) (by rw [up_length, hp.1]; exact n1)
  rw [up_length, hp.1] at h
  rw [h, prodZ_zero, zeroAt_iff, up_length, hp.1]
  simp only [Nat.zero_add]
theorem least_sum {t : Tb} (hc : chkT t = 0) {p : List Nat} (hp : isPlan t.length p) : leastK t (up p) t.length ≤ rowS t 0 t.length := by
  have n1 := (chkT_ok hc).1
  have h1 := leastK_le (t := t) (p := up p) t.length 0 (by omega)
  rw [up_getN] at h1
  have h2 := rowS_ge hc t.length (p.getD 0 0) (hp.2 _ (getD_mem (by rw [hp.1]; omega)))
  omega
theorem takeK_full {t : Tb} {p : List Int} {x : Int} {n : Nat} (h : p.length = n) : takeK t p x n = takeT t p x := by subst h; rfl
/-- the closure of TableCounted -/
theorem c61 {B : Heap} {bo : Nat} {cells : List AV} {b6 b7 b8 n : Nat} {All : List (List Nat)} {A : AV} (h6 : B b6 = some [A]) (hA : ReadsC 1 B A All.length (All.map fun p => sl (up p))) (h7 : B b7 = some [.ref 1 bo 0 n none])
    (h8 : B b8 = some [.fn 61 [.ptr b6 0, .ptr b8 0, .ptr b7 0]]) (hAl : All.length ≤ 256) (hp : ∀ p ∈ All, isPlan n p) :
    ∀ (rest : List (List Nat)) (i : Nat) (left : Tb) (s : Nat) (H : Heap) (K : AV → Heap → Prop), All.drop i = rest → i ≤ All.length → chkT left = 0 → left.length = n → rowS left 0 n = s → s ≤ 6 → PT B H bo cells left →
      (∀ H', PT B H' bo cells left → K (.int .i64 (putL rest left s)) H') → ACalls Tryd.prog 61 [.int .i64 i, .int .i64 s, .ptr b6 0, .ptr b8 0, .ptr b7 0] H K := by
  intro rest
  induction rest with
  | nil =>
    intro i left s H K hd hi hc hll hs1 hs2 hP hk
    apply W61_ok
    unfold W61
    have hie : i = All.length := by
      have := congrArg List.length hd
      simp at this; omega
    subst hie
    have l6 : load1 (.ptr b6 0) H = some A := load_cell (hP.le _ _ h6)
    simp only [letO_some, cellsOf?_agg, cellsOf?_int, cellsOf?_bool, cellsOf?_imm, cellsOf?_ref, cellsOf?_nils, faddr_iptr, faddr_ptr, List.drop_succ_cons, List.drop_zero, List.take_succ_cons, List.take_zero, load1_iptr, loadN_iptr, List.length_cons, List.length_nil, Nat.le_refl, if_true, List.getElem?_cons_zero, List.getElem?_cons_succ, List.getD_cons_zero, List.getD_cons_succ, extrF_tup, binF_add, binF_sub, binF_mul, binF_eql, binF_neq, binF_lss, binF_leq, binF_gtr, binF_geq, true_and, l6, hA.len]
    by_cases h0 : (s : Int) = 0
    · have e : ((s : Int) == 0) = true := by rw [h0]; rfl
      simp only [e, condA_tt]
      have := hk _ hP
      rw [putL, if_pos h0] at this
      exact endK_ret this
    · have e : ((s : Int) == 0) = false := by rw [beq_eq_false_iff_ne]; exact h0
      simp only [e, condA_ff, beq_self_eq_true, condA_tt]
      have := hk _ hP
      rw [putL, if_neg h0] at this
      exact endK_ret this
  | cons p rest ih =>
    intro i left s H K hd hi hc hll hs1 hs2 hP hk
    apply W61_ok
    unfold W61
    have hil : i < All.length := by
      have := congrArg List.length hd
      simp at this; omega
    rw [List.drop_eq_getElem_cons hil] at hd
    obtain ⟨hpi, hrest⟩ := List.cons.inj hd
    have hpm : p ∈ All := by rw [← hpi]; exact List.getElem_mem hil
    have hpx : (All.map fun p => sl (up p))[i]? = some (sl (up p)) := by rw [List.getElem?_map, List.getElem?_eq_getElem hil, hpi]; rfl
    have hpl := hp p hpm
    have hplan : isPlan left.length p := by rw [hll]; exact hpl
    obtain ⟨n1, n2, hrows⟩ := chkT_ok hc
    have hrl : rest.length ≤ 256 := by
      have := congrArg List.length hrest
      rw [List.length_drop] at this; omega
    have l6 : ∀ {H : Heap}, B.le H → load1 (.ptr b6 0) H = some A := fun h => load_cell (h _ _ h6)
    have l7 : ∀ {H : Heap}, B.le H → load1 (.ptr b7 0) H = some (.ref 1 bo 0 n none) := fun h => load_cell (h _ _ h7)
    have l8 : ∀ {H : Heap}, B.le H → load1 (.ptr b8 0) H = some (.fn 61 [.ptr b6 0, .ptr b8 0, .ptr b7 0]) := fun h => load_cell (h _ _ h8)
    have hfit : fitP left (up p) := hplan.fit hc
    simp only [letO_some, cellsOf?_agg, cellsOf?_int, cellsOf?_bool, cellsOf?_imm, cellsOf?_ref, cellsOf?_nils, faddr_iptr, faddr_ptr, List.drop_succ_cons, List.drop_zero, List.take_succ_cons, List.take_zero, load1_iptr, loadN_iptr, List.length_cons, List.length_nil, Nat.le_refl, if_true, List.getElem?_cons_zero, List.getElem?_cons_succ, List.getD_cons_zero, List.getD_cons_succ, extrF_tup, binF_add, binF_sub, binF_mul, binF_eql, binF_neq, binF_lss, binF_leq, binF_gtr, binF_geq, true_and, l6 hP.le, hA.len]
    by_cases h0 : s = 0
    · have e : ((s : Int) == 0) = true := by rw [h0]; rfl
      simp only [e, condA_tt]
      have := hk _ hP
      rw [putL, if_pos (by omega)] at this
      exact endK_ret this
    have e : ((s : Int) == 0) = false := by rw [beq_eq_false_iff_ne]; omega
    have e2 : ((i : Int) == (All.length : Int)) = false := by rw [beq_eq_false_iff_ne]; omega
    simp only [e, condA_ff, e2]
    have hmost := most_least hc hplan
    have hls : leastK left (up p) left.length ≤ (s : Int) := by have := least_sum hc hplan; rw [← hs1, ← hll]; exact this
    obtain ⟨m1, m2, m3⟩ := mostK_le hc (p := p) p.length
    have hmm : mostK left p p.length = most left p := rfl
    rw [hmm] at m1 m2
    obtain ⟨M, hM⟩ : ∃ M : Nat, most left p = (M : Int) := ⟨(most left p).toNat, by omega⟩
    have hMs : M ≤ s := by omega
    have hbd := fun k => putK_bd rest p left (s : Int) k
    have hnum := hP_num (a := rest.length + 1 + 1) (s := (s : Int)) (by omega) (by omega)
    have hck : ∀ k : Nat, k ≤ M → chkT (takeT left (up p) (k : Int)) = 0 := fun k hk => chk_takeP hc hplan (by omega)
    have hrk : ∀ k : Nat, rowS (takeT left (up p) (k : Int)) 0 n = (s : Int) - k := fun k => by
      have := rowS_take (x := (k : Int)) hc hplan left.length (Nat.le_refl _)
      rw [hll, if_pos (hpl.2 _ (getD_mem (by rw [hpl.1]; omega))), hs1] at this
      exact this
    have hget : ∀ {H : Heap} (k : AV → Prop), B.le H → k (sl (up p)) → letO (idx 1 A (.int .i64 (i : Int))) fun q => letO (load1 q H) k := fun {H} k hle hk => hA.get hle (by omega) (by omega) (by rw [Int.toNat_natCast]; exact hpx) hk
    have hlen : lenA (sl (up p)) = some (.int .i64 (n : Int)) := by rw [(Reads.sl Heap.none _).len, up_length, hpl.1]
    -- numbers of a plan are changed, row by row
    refine ⟨fun L H' => eqt L [.int .i64 (putK rest p left (s : Int) M), .int .i64 M] ∧ PT B H' bo cells (takeT left (up p) M), ?_, ?_⟩
    · refine ⟨fun L H' => ∃ (k : Nat) (a : Int), eqt L [.int .i64 a, .int .i64 k] ∧ k ≤ M ∧ k < s ∧ PT B H' bo cells (takeT left (up p) k) ∧ a + putL rest (takeT left (up p) k) ((s : Int) - k) = putK rest p left s k ∧ 0 ≤ a ∧ a ≤ 1000000000000000000, fun L _ => (M - iv L 1).toNat,
        ⟨0, 0, rfl, by omega, by omega, by rw [show ((0 : Nat) : Int) = 0 from rfl, takeT_zero hfit]; exact hP, by rw [show ((0 : Nat) : Int) = 0 from rfl, takeT_zero hfit]; simp [putK], by omega, by omega⟩, ?_⟩
      rintro L H1 ⟨k, a, rfl, hkM, hks, hP1, ha, ha0, ha1⟩
      simp only [letO_some, cellsOf?_agg, cellsOf?_int, cellsOf?_bool, cellsOf?_imm, cellsOf?_ref, cellsOf?_nils, faddr_iptr, faddr_ptr, List.drop_succ_cons, List.drop_zero, List.take_succ_cons, List.take_zero, load1_iptr, loadN_iptr, List.length_cons, List.length_nil, Nat.le_refl, if_true, List.getElem?_cons_zero, List.getElem?_cons_succ, List.getD_cons_zero, List.getD_cons_succ, extrF_tup, binF_add, binF_sub, binF_mul, binF_eql, binF_neq, binF_lss, binF_leq, binF_gtr, binF_geq, true_and, l8 hP1.le]
      rw [wrap_i64 (n := (i : Int) + 1) (by omega) (by omega), show ((i : Int) + 1) = ((i + 1 : Nat) : Int) by omega, wrap_i64 (n := (s : Int) - k) (by omega) (by omega), show ((s : Int) - k) = ((s - k : Nat) : Int) by omega]
      simp only [callA_fn, List.cons_append, List.nil_append]
      refine ih (i + 1) _ (s - k) H1 _ hrest (by omega) (hck k hkM) (by rw [takeT_length]; exact hll) (by rw [hrk]; omega) (by omega) hP1 fun H2 hP2 => ?_
      have b1 := hbd k
      rw [show ((s - k : Nat) : Int) = (s : Int) - k by omega] at *
      simp only [letO_some, cellsOf?_agg, cellsOf?_int, cellsOf?_bool, cellsOf?_imm, cellsOf?_ref, cellsOf?_nils, faddr_iptr, faddr_ptr, List.drop_succ_cons, List.drop_zero, List.take_succ_cons, List.take_zero, load1_iptr, loadN_iptr, List.length_cons, List.length_nil, Nat.le_refl, if_true, List.getElem?_cons_zero, List.getElem?_cons_succ, List.getD_cons_zero, List.getD_cons_succ, extrF_tup, binF_add, binF_sub, binF_mul, binF_eql, binF_neq, binF_lss, binF_leq, binF_gtr, binF_geq, true_and, l7 hP2.le, l6 hP2.le]
      rw [ha, wrap_i64 (n := putK rest p left s k) (by omega) (by omega)]
      refine hget _ hP2.le ?_
      have hrt := hP2.rt none
      rw [takeT_length, hll] at hrt
      have hc2 := hck k hkM
      have hpl2 : isPlan (takeT left (up p) (k : Int)).length p := by rw [takeT_length]; exact hplan
      have hpr := prod_least hc2 hpl2
      have hlt2 := least_take hc hplan (k : Int)
      rw [takeT_length] at hpr
      rw [hlt2] at hpr
      refine c48 hrt (Reads.sl _ _) (by rw [up_length, hpl.1, takeT_length]; omega) (by rw [up_length, hpl.1]; omega) (fun r c => by have := cell_rng hc2 r c; omega) (fun r hr => by
        rw [up_length, hpl.1] at hr
        exact (hpl2.fit hc2).2 r (by rw [up_length, hpl.1]; exact hr)) ?_
      rw [up_length, hpl.1, ← hll]
      try simp only [letO_some, cellsOf?_agg, cellsOf?_int, cellsOf?_bool, cellsOf?_imm, cellsOf?_ref, cellsOf?_nils, faddr_iptr, faddr_ptr, List.drop_succ_cons, List.drop_zero, List.take_succ_cons, List.take_zero, load1_iptr, loadN_iptr, List.length_cons, List.length_nil, Nat.le_refl, if_true, List.getElem?_cons_zero, List.getElem?_cons_succ, List.getD_cons_zero, List.getD_cons_succ, extrF_tup, binF_add, binF_sub, binF_mul, binF_eql, binF_neq, binF_lss, binF_leq, binF_gtr, binF_geq, true_and]
      by_cases hkz : k = M
      · have e3 : (prodZ (takeT left (up p) (k : Int)) (up p) left.length == 0) = true := by
          rw [beq_iff_eq]; exact hpr.2 (by omega)
        simp only [e3, condA_tt]
        subst hkz
        exact ⟨rfl, hP2⟩
      · have e3 : (prodZ (takeT left (up p) (k : Int)) (up p) left.length == 0) = false := by
          rw [beq_eq_false_iff_ne]; intro h; have := hpr.1 h; omega
        simp only [e3, condA_ff, l6 hP2.le, letO_some]
        refine hget _ hP2.le ?_
        have hfk := hpl2.fit hc2
        simp only [hlen, letO_some]
        refine ⟨fun L H' => ∃ j : Nat, eqt L [.int .i64 j] ∧ j ≤ n ∧ PT B H' bo cells (takeK (takeT left (up p) (k : Int)) (up p) 1 j), fun L _ => (n - iv L 0).toNat, ⟨0, rfl, by omega, by rw [takeK_zero]; exact hP2⟩, ?_⟩
        rintro L H3 ⟨j, rfl, hj, hPj⟩
        try simp only [letO_some, cellsOf?_agg, cellsOf?_int, cellsOf?_bool, cellsOf?_imm, cellsOf?_ref, cellsOf?_nils, faddr_iptr, faddr_ptr, List.drop_succ_cons, List.drop_zero, List.take_succ_cons, List.take_zero, load1_iptr, loadN_iptr, List.length_cons, List.length_nil, Nat.le_refl, if_true, List.getElem?_cons_zero, List.getElem?_cons_succ, List.getD_cons_zero, List.getD_cons_succ, extrF_tup, binF_add, binF_sub, binF_mul, binF_eql, binF_neq, binF_lss, binF_leq, binF_gtr, binF_geq, true_and]
        refine condA_t (fun hltj => ?_) (fun hgej => ?_)
        · have b2 : j < n := by omega
          have hjl : j < (takeT left (up p) (k : Int)).length := by rw [takeT_length]; omega
          refine (Reads.sl H3 (up p)).get (Heap.le_refl _) (by omega) (by rw [up_length, hpl.1]; omega) ?_
          rw [Int.toNat_natCast, up_getD]
          simp only [letO_some, cellsOf?_agg, cellsOf?_int, cellsOf?_bool, cellsOf?_imm, cellsOf?_ref, cellsOf?_nils, faddr_iptr, faddr_ptr, List.drop_succ_cons, List.drop_zero, List.take_succ_cons, List.take_zero, load1_iptr, loadN_iptr, List.length_cons, List.length_nil, Nat.le_refl, if_true, List.getElem?_cons_zero, List.getElem?_cons_succ, List.getD_cons_zero, List.getD_cons_succ, extrF_tup, binF_add, binF_sub, binF_mul, binF_eql, binF_neq, binF_lss, binF_leq, binF_gtr, binF_geq, true_and, l7 hPj.le]
          have hfj := hfk.2 j (by rw [up_length, hpl.1]; exact b2)
          rw [up_getN] at hfj
          have hrow : (takeK (takeT left (up p) (k : Int)) (up p) 1 j).getD j [] = row (takeT left (up p) (k : Int)) j := by rw [takeK_get hjl, if_neg (by omega)]
          obtain ⟨w, q, q1, q2, q3, q4, q5⟩ := PT.cell none hPj (r := j) (c := p.getD j 0) (by simpa using hjl) (by rw [hrow]; exact hfj.2)
          rw [takeK_length, takeT_length, hll] at q1
          rw [hrow] at q4 q5
          rw [show (row (takeT left (up p) (k : Int)) j).getD (p.getD j 0) 0 = cell (takeT left (up p) (k : Int)) j (p.getD j 0) from rfl] at q4
          have hcb := cell_rng hc2 j (p.getD j 0)
          simp only [q1, q2, q3, q4, letO_some, cellsOf?_agg, cellsOf?_int, cellsOf?_bool, cellsOf?_imm, cellsOf?_ref, cellsOf?_nils, faddr_iptr, faddr_ptr, List.drop_succ_cons, List.drop_zero, List.take_succ_cons, List.take_zero, load1_iptr, loadN_iptr, List.length_cons, List.length_nil, Nat.le_refl, if_true, List.getElem?_cons_zero, List.getElem?_cons_succ, List.getD_cons_zero, List.getD_cons_succ, extrF_tup, binF_add, binF_sub, binF_mul, binF_eql, binF_neq, binF_lss, binF_leq, binF_gtr, binF_geq, true_and]
          rw [wrap_i64 (n := cell (takeT left (up p) (k : Int)) j (p.getD j 0) - 1) (by omega) (by omega)]
          refine q5 _ _ fun H4 hP4 => ?_
          rw [wrap_i64 (by omega) (by omega)]
          refine ⟨⟨j + 1, rfl, by omega, ?_⟩, by simp <;> omega⟩
          have hst := takeK_step (t := takeT left (up p) (k : Int)) (p := up p) (x := 1) (i := j) hjl
          rw [up_getN] at hst
          rw [hst] at hP4
          exact hP4
        · have hje : j = n := by omega
          subst hje
          have e4 : takeK (takeT left (up p) (k : Int)) (up p) 1 j = takeT left (up p) ((k + 1 : Nat) : Int) := by
            rw [takeK_full (by rw [up_length, hpl.1]), takeT_take hfit, Int.natCast_add]; rfl
          rw [e4] at hPj
          rw [wrap_i64 (by omega) (by omega), show ((k : Int) + 1) = ((k + 1 : Nat) : Int) by omega]
          have b3 := hbd (k + 1)
          have hsucc := putK_succ (rest := rest) (p := p) (t := left) (s := (s : Int)) (k := k)
          by_cases hk1 : k + 1 = s
          · have e5 : (((k + 1 : Nat) : Int) == (s : Int)) = true := by rw [hk1]; exact beq_self_eq_true _
            have hkM1 : k + 1 = M := by omega
            have hz : putL rest (takeT left (up p) ((k : Int) + 1)) ((s : Int) - k - 1) = 1 := by
              rw [show ((s : Int) - k - 1) = 0 by omega, putL_zero]
            simp only [e5, condA_tt, letO_some, cellsOf?_agg, cellsOf?_int, cellsOf?_bool, cellsOf?_imm, cellsOf?_ref, cellsOf?_nils, faddr_iptr, faddr_ptr, List.drop_succ_cons, List.drop_zero, List.take_succ_cons, List.take_zero, load1_iptr, loadN_iptr, List.length_cons, List.length_nil, Nat.le_refl, if_true, List.getElem?_cons_zero, List.getElem?_cons_succ, List.getD_cons_zero, List.getD_cons_succ, extrF_tup, binF_add, binF_sub, binF_mul, binF_eql, binF_neq, binF_lss, binF_leq, binF_gtr, binF_geq, true_and]
            rw [wrap_i64 (by omega) (by omega)]
            refine ⟨?_, by rw [← hkM1]; exact hPj⟩
            unfold eqt
            rw [← hkM1, hsucc, hz]
          · have e5 : (((k + 1 : Nat) : Int) == (s : Int)) = false := by rw [beq_eq_false_iff_ne]; omega
            simp only [e5, condA_ff]
            refine ⟨⟨k + 1, putK rest p left s k, rfl, by omega, by omega, hPj, ?_, by omega, by omega⟩, by simp <;> omega⟩
            rw [hsucc, show ((k + 1 : Nat) : Int) = (k : Int) + 1 by omega, show ((s : Int) - ((k : Int) + 1)) = (s : Int) - k - 1 by omega]
    · rintro L H1 ⟨rfl, hP1⟩
      simp only [letO_some, cellsOf?_agg, cellsOf?_int, cellsOf?_bool, cellsOf?_imm, cellsOf?_ref, cellsOf?_nils, faddr_iptr, faddr_ptr, List.drop_succ_cons, List.drop_zero, List.take_succ_cons, List.take_zero, load1_iptr, loadN_iptr, List.length_cons, List.length_nil, Nat.le_refl, if_true, List.getElem?_cons_zero, List.getElem?_cons_succ, List.getD_cons_zero, List.getD_cons_succ, extrF_tup, binF_add, binF_sub, binF_mul, binF_eql, binF_neq, binF_lss, binF_leq, binF_gtr, binF_geq, true_and, l6 hP1.le]
      refine hget _ hP1.le ?_
      have hc2 := hck M (Nat.le_refl _)
      have hpl2 : isPlan (takeT left (up p) (M : Int)).length p := by rw [takeT_length]; exact hplan
      have hfk := hpl2.fit hc2
      simp only [hlen, letO_some]
      refine ⟨fun L H' => ∃ j : Nat, eqt L [.int .i64 j] ∧ j ≤ n ∧ PT B H' bo cells (takeK (takeT left (up p) (M : Int)) (up p) (-(M : Int)) j), fun L _ => (n - iv L 0).toNat, ⟨0, rfl, by omega, by rw [takeK_zero]; exact hP1⟩, ?_⟩
      rintro L H3 ⟨j, rfl, hj, hPj⟩
      try simp only [letO_some, cellsOf?_agg, cellsOf?_int, cellsOf?_bool, cellsOf?_imm, cellsOf?_ref, cellsOf?_nils, faddr_iptr, faddr_ptr, List.drop_succ_cons, List.drop_zero, List.take_succ_cons, List.take_zero, load1_iptr, loadN_iptr, List.length_cons, List.length_nil, Nat.le_refl, if_true, List.getElem?_cons_zero, List.getElem?_cons_succ, List.getD_cons_zero, List.getD_cons_succ, extrF_tup, binF_add, binF_sub, binF_mul, binF_eql, binF_neq, binF_lss, binF_leq, binF_gtr, binF_geq, true_and]
      refine condA_t (fun hltj => ?_) (fun hgej => ?_)
      · have b2 : j < n := by omega
        have hjl : j < (takeT left (up p) (M : Int)).length := by rw [takeT_length]; omega
        refine (Reads.sl H3 (up p)).get (Heap.le_refl _) (by omega) (by rw [up_length, hpl.1]; omega) ?_
        rw [Int.toNat_natCast, up_getD]
        simp only [letO_some, cellsOf?_agg, cellsOf?_int, cellsOf?_bool, cellsOf?_imm, cellsOf?_ref, cellsOf?_nils, faddr_iptr, faddr_ptr, List.drop_succ_cons, List.drop_zero, List.take_succ_cons, List.take_zero, load1_iptr, loadN_iptr, List.length_cons, List.length_nil, Nat.le_refl, if_true, List.getElem?_cons_zero, List.getElem?_cons_succ, List.getD_cons_zero, List.getD_cons_succ, extrF_tup, binF_add, binF_sub, binF_mul, binF_eql, binF_neq, binF_lss, binF_leq, binF_gtr, binF_geq, true_and, l7 hPj.le]
        have hfj := hfk.2 j (by rw [up_length, hpl.1]; exact b2)
        rw [up_getN] at hfj
        have hrow : (takeK (takeT left (up p) (M : Int)) (up p) (-(M : Int)) j).getD j [] = row (takeT left (up p) (M : Int)) j := by rw [takeK_get hjl, if_neg (by omega)]
        obtain ⟨w, q, q1, q2, q3, q4, q5⟩ := PT.cell none hPj (r := j) (c := p.getD j 0) (by simpa using hjl) (by rw [hrow]; exact hfj.2)
        rw [takeK_length, takeT_length, hll] at q1
        rw [hrow] at q4 q5
        rw [show (row (takeT left (up p) (M : Int)) j).getD (p.getD j 0) 0 = cell (takeT left (up p) (M : Int)) j (p.getD j 0) from rfl] at q4
        have hcb := cell_rng hc2 j (p.getD j 0)
        simp only [q1, q2, q3, q4, letO_some, cellsOf?_agg, cellsOf?_int, cellsOf?_bool, cellsOf?_imm, cellsOf?_ref, cellsOf?_nils, faddr_iptr, faddr_ptr, List.drop_succ_cons, List.drop_zero, List.take_succ_cons, List.take_zero, load1_iptr, loadN_iptr, List.length_cons, List.length_nil, Nat.le_refl, if_true, List.getElem?_cons_zero, List.getElem?_cons_succ, List.getD_cons_zero, List.getD_cons_succ, extrF_tup, binF_add, binF_sub, binF_mul, binF_eql, binF_neq, binF_lss, binF_leq, binF_gtr, binF_geq, true_and]
        rw [wrap_i64 (n := cell (takeT left (up p) (M : Int)) j (p.getD j 0) + M) (by omega) (by omega)]
        refine q5 _ _ fun H4 hP4 => ?_
        rw [wrap_i64 (by omega) (by omega)]
        refine ⟨⟨j + 1, rfl, by omega, ?_⟩, by simp <;> omega⟩
        have hst := takeK_step (t := takeT left (up p) (M : Int)) (p := up p) (x := -(M : Int)) (i := j) hjl
        rw [up_getN, show cell (takeT left (up p) (M : Int)) j (p.getD j 0) - -(M : Int) = cell (takeT left (up p) (M : Int)) j (p.getD j 0) + M by omega] at hst
        rw [hst] at hP4
        exact hP4
      · have hje : j = n := by omega
        subst hje
        have e4 : takeK (takeT left (up p) (M : Int)) (up p) (-(M : Int)) j = left := by
          rw [takeK_full (by rw [up_length, hpl.1]), takeT_take hfit, Int.add_right_neg, takeT_zero hfit]
        rw [e4] at hPj
        have := hk _ hPj
        rw [putL, if_neg (by omega), hM, Int.toNat_natCast] at this
        exact endK_ret this
end Go.Proofs.YtbofkeoebnjjkaaDoor

namespace Go.Proofs.YtbofkeoebnjjkaaDoor
open Go.Av Tab
set_option linter.unusedVariables false
set_option linter.unusedSimpArgs false
set_option maxRecDepth 4000

theorem one_split : ∀ n : Fin 5, ∀ p ∈ plansS n.val, putL (plansS n.val) (takeT (zeroT n.val) (up p) (-1)) 1 = 1 := by decide +kernel
/-- The first numbers of a table are 1, the rest 0. -/
def onesK (n i j : Nat) : Tb := (List.range n).map fun k => (List.range n).map fun c => if k < i ∨ (k = i ∧ c < j) then 1 else 0
@[simp] theorem onesK_length (n i j : Nat) : (onesK n i j).length = n := by simp [onesK]
theorem onesK_get {n i j k : Nat} (hk : k < n) : (onesK n i j).getD k [] = (List.range n).map fun c => if k < i ∨ (k = i ∧ c < j) then 1 else 0 := by
  simp [onesK, List.getD_eq_getElem?_getD, hk]
theorem onesK_step {n i j : Nat} (hi : i < n) (hj : j < n) : (onesK n i j).set i (((onesK n i j).getD i []).set j 1) = onesK n i (j + 1) := by
  refine ext_T (by simp) fun k hk => ?_
  simp only [List.length_set, onesK_length] at hk
  rw [getT_set (by simpa using hi), onesK_get hk, onesK_get hk, onesK_get hi]
  by_cases h : k = i
  · subst h
    rw [if_pos rfl]
    refine List.ext_getElem (by simp) fun c h1 h2 => ?_
    rw [List.getElem_set]
    by_cases hc : j = c
    · subst hc; simp
    · rw [if_neg hc]
      simp only [List.getElem_map, List.getElem_range]
      by_cases hcj : c < j
      · rw [if_pos (.inr ⟨by trivial, hcj⟩), if_pos (.inr ⟨by trivial, by omega⟩)]
      · rw [if_neg (by omega), if_neg (by omega)]
  · rw [if_neg h]
    refine List.map_congr_left fun c _ => ?_
    by_cases hki : k < i
    · rw [if_pos (.inl hki), if_pos (.inl hki)]
    · rw [if_neg (by omega), if_neg (by omega)]
theorem onesK_next (n i : Nat) : onesK n i n = onesK n (i + 1) 0 := by
  refine List.map_congr_left fun k _ => List.map_congr_left fun c hc => ?_
  have := List.mem_range.1 hc
  by_cases h : k < i ∨ (k = i ∧ c < n)
  · rw [if_pos h, if_pos (by omega)]
  · rw [if_neg h, if_neg (by omega)]
theorem onesK_zero (n : Nat) : onesK n 0 0 = zeroT n := by
  refine ext_T (by simp [zeroT]) fun k hk => ?_
  rw [onesK_length] at hk
  rw [onesK_get hk]
  simp only [zeroT, List.getD_eq_getElem?_getD, List.getElem?_replicate, hk, if_true, Option.getD_some]
  refine List.ext_getElem (by simp) fun c h1 h2 => ?_
  simp
theorem ones_split : ∀ n : Fin 5, n.val ≠ 0 → splitsE (onesK n.val n.val 0) = ([1, 1, 2, 24].getD (n.val - 1) 0, 0) := by decide +kernel
theorem li4 {a b c d : Int} : literalF Tryd.prog 23 4 [(0, .int .i64 a), (1, .int .i64 b), (2, .int .i64 c), (3, .int .i64 d)] = some (ints [a, b, c, d]) := by
  rw [literalF_of (show literalPlan Tryd.prog 23 = some ([.int .i64 0], 1) by kernel_rfl) (by decide) (by simp)]
  rfl
/-- TableCounted -/
theorem c11 {g : List Nat} {H : Heap} {K : AV → Heap → Prop} (hg : Led g) (hk : K (.bool true) H) : ACalls Tryd.prog 11 [.agg (u8s g)] H K := by
  apply W11_ok
  unfold W11
  have hb := gsz_bd g
  simp only [letO_some, cellsOf?_agg, cellsOf?_int, cellsOf?_bool, cellsOf?_imm, cellsOf?_ref, cellsOf?_nils, faddr_iptr, faddr_ptr, List.drop_succ_cons, List.drop_zero, List.take_succ_cons, List.take_zero, load1_iptr, loadN_iptr, List.length_cons, List.length_nil, Nat.le_refl, if_true, List.getElem?_cons_zero, List.getElem?_cons_succ, List.getD_cons_zero, List.getD_cons_succ, extrF_tup, binF_add, binF_sub, binF_mul, binF_eql, binF_neq, binF_lss, binF_leq, binF_gtr, binF_geq, true_and, hg.all]
  refine c44 (most := 5) hg ⟨by omega, by omega⟩ ?_
  have hk5 : evenN g 5 ≤ 5 := by have := Nat.mod_lt (gv g 1) (show 5 + 1 > 0 by omega); unfold evenN; omega
  have hchk : chkT (evenT g 5) = 0 := evenK_chk g (by omega)
  have heven : evenE (evenT g 5) = (((evenN g 5 : Nat) : Int), 0) := evenK_even g (by omega)
  have hlen : (evenT g 5).length = gsz g := evenK_len g _
  have hrow0 : rowS (evenT g 5) 0 (gsz g) = (evenN g 5 : Nat) := (evenK_sums g _ 0 (by omega)).1
  have hone : evenN g 5 = 1 → putL (plansS (gsz g)) (evenT g 5) 1 = 1 := fun h => by
    have := one_split ⟨gsz g, by omega⟩ (pick g 0) (pick_mem g 0)
    unfold evenT
    rw [h]
    exact this
  have hrl : ∀ r, r < gsz g → (row (evenT g 5) r).length = gsz g := fun r hr => evenK_row g _ r hr
  have hvl := (RT.tl H (evenT g 5)).len
  generalize evenT g 5 = t at *
  generalize evenN g 5 = k at *
  generalize gsz g = n at *
  have hsl : ∀ l ∈ t, l.length < 2 ^ 63 := fun l hl => Nat.lt_of_le_of_lt (Nat.le_trans (Nat.le_of_eq ((chkT_ok hchk).2.2 l hl).1) (chkT_ok hchk).2.1) (by decide)
  simp only [letO_some, cellsOf?_agg, cellsOf?_int, cellsOf?_bool, cellsOf?_imm, cellsOf?_ref, cellsOf?_nils, faddr_iptr, faddr_ptr, List.drop_succ_cons, List.drop_zero, List.take_succ_cons, List.take_zero, load1_iptr, loadN_iptr, List.length_cons, List.length_nil, Nat.le_refl, if_true, List.getElem?_cons_zero, List.getElem?_cons_succ, List.getD_cons_zero, List.getD_cons_succ, extrF_tup, binF_add, binF_sub, binF_mul, binF_eql, binF_neq, binF_lss, binF_leq, binF_gtr, binF_geq, true_and, hvl, hlen]
  refine c45 hb ?_
  have hPl := plansS_len hb.2
  have hPm : ∀ p ∈ plansS n, isPlan n p := fun p hp => plansS_mem hp
  have htlP : tl ((plansS n).map up) = .imm (plansS n).length false ((plansS n).map fun p => sl (up p)) := by simp [tl, Function.comp_def]
  rw [htlP]
  have hsplit : splitsE t = (putL (plansS n) t k, 0) := by
    unfold splitsE
    rw [heven, if_neg (by simp), if_neg (by simp only; omega)]
    have h2 : (wkAll t).map (fun v => v.1) = withinS t := by rw [wkAll_eq hchk, List.map_map]; simp [Function.comp_def]
    have h3 := putL_filter hchk (plansS n) t k hchk rfl (fun p hp => by rw [hlen]; exact hPm p hp) (fun _ _ => Int.le_refl _)
    rw [h2, h3]
    unfold withinS
    rw [hlen]
  generalize hPP : plansS n = P at *
  -- all plans, in memory
  refine alloc_store (cs := [.imm P.length false (P.map fun p => sl (up p))]) rfl rfl rfl rfl fun b6 hb6 => ?_
  have hle6 := Heap.le_new (c := [.imm P.length false (P.map fun p => sl (up p))]) hb6
  have h6 : (H.put b6 [.imm P.length false (P.map fun p => sl (up p))]) b6 = some [.imm P.length false (P.map fun p => sl (up p))] := Heap.put_same
  generalize H.put b6 [.imm P.length false (P.map fun p => sl (up p))] = H5 at *
  try simp only [letO_some]
  refine c49 ⟨hb.1, by omega⟩ fun bo cells H6 hP0 => ?_
  refine alloc_store (cs := [.ref 1 bo 0 n none]) rfl rfl rfl rfl fun b7 hb7 => ?_
  have hP7 := PT.rebase (c := [.ref 1 bo 0 n none]) hP0 (Heap.le_refl _) hP0.le hP0.out (fun _ _ h _ => h) hb7
  have h7 : (H5.put b7 [.ref 1 bo 0 n none]) b7 = some [.ref 1 bo 0 n none] := Heap.put_same
  have hb7' := none_of_le hP0.le hb7
  have hle7 := Heap.le_new (c := [.ref 1 bo 0 n none]) hb7'
  have h67 := hle7 _ _ h6
  have hle07 := Heap.le_trans hle6 hle7
  generalize H6.put b7 [.ref 1 bo 0 n none] = H8 at *
  generalize H5.put b7 [.ref 1 bo 0 n none] = B7 at *
  rw [← hlen, ← cpT_zero] at hP7
  try simp only [letO_some, cellsOf?_agg, cellsOf?_int, cellsOf?_bool, cellsOf?_imm, cellsOf?_ref, cellsOf?_nils, faddr_iptr, faddr_ptr, List.drop_succ_cons, List.drop_zero, List.take_succ_cons, List.take_zero, load1_iptr, loadN_iptr, List.length_cons, List.length_nil, Nat.le_refl, if_true, List.getElem?_cons_zero, List.getElem?_cons_succ, List.getD_cons_zero, List.getD_cons_succ, extrF_tup, binF_add, binF_sub, binF_mul, binF_eql, binF_neq, binF_lss, binF_leq, binF_gtr, binF_geq, true_and]
  refine ⟨fun L H' => ∃ i : Nat, eqt L [.int .i64 i] ∧ i ≤ n ∧ PT B7 H' bo cells (cpT t i), fun L _ => (n - iv L 0).toNat, ⟨0, rfl, by omega, hP7⟩, ?_⟩
  rintro L H' ⟨i, rfl, hi, hP⟩
  try simp only [letO_some, cellsOf?_agg, cellsOf?_int, cellsOf?_bool, cellsOf?_imm, cellsOf?_ref, cellsOf?_nils, faddr_iptr, faddr_ptr, List.drop_succ_cons, List.drop_zero, List.take_succ_cons, List.take_zero, load1_iptr, loadN_iptr, List.length_cons, List.length_nil, Nat.le_refl, if_true, List.getElem?_cons_zero, List.getElem?_cons_succ, List.getD_cons_zero, List.getD_cons_succ, extrF_tup, binF_add, binF_sub, binF_mul, binF_eql, binF_neq, binF_lss, binF_leq, binF_gtr, binF_geq, true_and]
  refine condA_t (fun hlt => ?_) (fun hge => ?_)
  · have a1 : i < n := by omega
    have hgi : (cpT t i).getD i [] = List.replicate n 0 := by rw [cpT_get (by omega), if_neg (by omega), hlen]
    obtain ⟨d, hd, hcp⟩ := hP.copy (r := i) (by rw [cpT_length]; omega) (by rw [hgi]; intro h; have := congrArg List.length h; simp at this; omega)
    simp only [load_cell (hP.le _ _ h7), letO_some]
    rw [idx_ref a1]
    simp only [letO_some, hd]
    refine (RT.tl H' t).get (Heap.le_refl _) (by omega) (by omega) fun a ha => ?_
    rw [Int.toNat_natCast] at ha
    refine hcp a _ _ ha (by rw [hgi, show t.getD i [] = row t i from rfl, hrl i a1]; simp) fun H'' hP' => ?_
    rw [show t.getD i [] = row t i from rfl, cpT_step (by omega)] at hP'
    try simp only [letO_some, cellsOf?_agg, cellsOf?_int, cellsOf?_bool, cellsOf?_imm, cellsOf?_ref, cellsOf?_nils, faddr_iptr, faddr_ptr, List.drop_succ_cons, List.drop_zero, List.take_succ_cons, List.take_zero, load1_iptr, loadN_iptr, List.length_cons, List.length_nil, Nat.le_refl, if_true, List.getElem?_cons_zero, List.getElem?_cons_succ, List.getD_cons_zero, List.getD_cons_succ, extrF_tup, binF_add, binF_sub, binF_mul, binF_eql, binF_neq, binF_lss, binF_leq, binF_gtr, binF_geq, true_and]
    rw [wrap_i64 (by omega) (by omega)]
    exact ⟨⟨i + 1, rfl, by omega, hP'⟩, by simp <;> omega⟩
  have hie : i = n := by omega
  subst hie
  have hcpe : cpT t i = t := by rw [← hlen]; exact cpT_end t
  rw [hcpe] at hP
  intro b8 hb8
  try simp only [letO_some]
  refine storeA_of (cs := [.fn 61 [.ptr b6 0, .ptr b8 0, .ptr b7 0]]) Heap.put_same rfl rfl rfl (by simp) ?_
  have e1 : splice [AV.nilf] 0 [.fn 61 [.ptr b6 0, .ptr b8 0, .ptr b7 0]] = [.fn 61 [.ptr b6 0, .ptr b8 0, .ptr b7 0]] := rfl
  rw [e1, Heap.put_put]
  have hP8 := PT.rebase (c := [.fn 61 [.ptr b6 0, .ptr b8 0, .ptr b7 0]]) hP (Heap.le_refl _) hP.le hP.out (fun _ _ h _ => h) hb8
  have hb8' := none_of_le hP.le hb8
  have h8 : (B7.put b8 [.fn 61 [.ptr b6 0, .ptr b8 0, .ptr b7 0]]) b8 = some [.fn 61 [.ptr b6 0, .ptr b8 0, .ptr b7 0]] := Heap.put_same
  have hle8 := Heap.le_new (c := [.fn 61 [.ptr b6 0, .ptr b8 0, .ptr b7 0]]) hb8'
  have h78 := hle8 _ _ h7
  have h68 := hle8 _ _ h67
  have hle08 := Heap.le_trans hle07 hle8
  generalize H'.put b8 [.fn 61 [.ptr b6 0, .ptr b8 0, .ptr b7 0]] = H9 at *
  generalize B7.put b8 [.fn 61 [.ptr b6 0, .ptr b8 0, .ptr b7 0]] = B8 at *
  simp only [load_cell (hP8.le _ _ h8), letO_some, callA_fn, List.cons_append, List.nil_append]
  refine c61 (All := P) h68 ⟨by simp, rfl, rfl⟩ h78 h8 hPl hPm P 0 t k H9 _ rfl (by omega) hchk hlen hrow0 (by omega) hP8 fun H10 hP10 => ?_
  have hle10 := Heap.le_trans hle08 hP10.le
  try simp only [letO_some, cellsOf?_agg, cellsOf?_int, cellsOf?_bool, cellsOf?_imm, cellsOf?_ref, cellsOf?_nils, faddr_iptr, faddr_ptr, List.drop_succ_cons, List.drop_zero, List.take_succ_cons, List.take_zero, load1_iptr, loadN_iptr, List.length_cons, List.length_nil, Nat.le_refl, if_true, List.getElem?_cons_zero, List.getElem?_cons_succ, List.getD_cons_zero, List.getD_cons_succ, extrF_tup, binF_add, binF_sub, binF_mul, binF_eql, binF_neq, binF_lss, binF_leq, binF_gtr, binF_geq, true_and]
  refine c40 (RT.tl _ _) (by omega) hsl ?_
  rw [hsplit]
  have hsm : (k : Int) < 2 → putL P t (k : Int) = 1 := fun h => by
    have hk01 : k = 0 ∨ k = 1 := by omega
    rcases hk01 with rfl | rfl
    · exact putL_zero _ _
    · exact hone rfl
  simp only [letO_some, cellsOf?_agg, cellsOf?_int, cellsOf?_bool, cellsOf?_imm, cellsOf?_ref, cellsOf?_nils, faddr_iptr, faddr_ptr, List.drop_succ_cons, List.drop_zero, List.take_succ_cons, List.take_zero, load1_iptr, loadN_iptr, List.length_cons, List.length_nil, Nat.le_refl, if_true, List.getElem?_cons_zero, List.getElem?_cons_succ, List.getD_cons_zero, List.getD_cons_succ, extrF_tup, binF_add, binF_sub, binF_mul, binF_eql, binF_neq, binF_lss, binF_leq, binF_gtr, binF_geq, true_and, gval_bool, Int.reduceBNe, Int.reduceBEq, pickF_true, pickF_false, reduceIte, Bool.true_eq_false, Bool.false_eq_true, if_false, condA_tt, condA_ff, condG_tt, condG_ff, condG_tt', condG_ff', condG_undef, gval_undef, bne_self_eq_false]
  have hcond : ∀ (A C : Prop), C → letO (if decide ((k : Int) < 2) = true then some (AV.int .i64 (putL P t (k : Int))) else some (AV.tup [])) (fun t62 => letO (if decide ((k : Int) < 2) = true then binF Tryd.prog .neq 3 t62 (.int .i64 1) else some (AV.tup [])) (fun t63 => letO (pickF (.bool (decide ((k : Int) < 2))) t63 (.bool false)) fun t65 => condA t65 true A C)) := by
    intro A C hC
    by_cases h : (k : Int) < 2
    · simp only [h, decide_true, hsm h, gval_bool, Int.reduceBNe, Int.reduceBEq, pickF_true, pickF_false, reduceIte, Bool.true_eq_false, Bool.false_eq_true, if_false, condA_tt, condA_ff, condG_tt, condG_ff, condG_tt', condG_ff', condG_undef, gval_undef, letO_some, cellsOf?_agg, cellsOf?_int, cellsOf?_bool, cellsOf?_imm, cellsOf?_ref, cellsOf?_nils, faddr_iptr, faddr_ptr, List.drop_succ_cons, List.drop_zero, List.take_succ_cons, List.take_zero, load1_iptr, loadN_iptr, List.length_cons, List.length_nil, Nat.le_refl, if_true, List.getElem?_cons_zero, List.getElem?_cons_succ, List.getD_cons_zero, List.getD_cons_succ, extrF_tup, binF_add, binF_sub, binF_mul, binF_eql, binF_neq, binF_lss, binF_leq, binF_gtr, binF_geq, true_and, bne_self_eq_false]
      exact hC
    · simp only [h, decide_false, gval_bool, Int.reduceBNe, Int.reduceBEq, pickF_true, pickF_false, reduceIte, Bool.true_eq_false, Bool.false_eq_true, if_false, condA_tt, condA_ff, condG_tt, condG_ff, condG_tt', condG_ff', condG_undef, gval_undef, letO_some, cellsOf?_agg, cellsOf?_int, cellsOf?_bool, cellsOf?_imm, cellsOf?_ref, cellsOf?_nils, faddr_iptr, faddr_ptr, List.drop_succ_cons, List.drop_zero, List.take_succ_cons, List.take_zero, load1_iptr, loadN_iptr, List.length_cons, List.length_nil, Nat.le_refl, if_true, List.getElem?_cons_zero, List.getElem?_cons_succ, List.getD_cons_zero, List.getD_cons_succ, extrF_tup, binF_add, binF_sub, binF_mul, binF_eql, binF_neq, binF_lss, binF_leq, binF_gtr, binF_geq, true_and]
      exact hC
  refine hcond _ _ ?_
  refine c49 ⟨hb.1, by omega⟩ fun bo2 cells2 H11 hQ => ?_
  rw [← onesK_zero] at hQ
  try simp only [letO_some, cellsOf?_agg, cellsOf?_int, cellsOf?_bool, cellsOf?_imm, cellsOf?_ref, cellsOf?_nils, faddr_iptr, faddr_ptr, List.drop_succ_cons, List.drop_zero, List.take_succ_cons, List.take_zero, load1_iptr, loadN_iptr, List.length_cons, List.length_nil, Nat.le_refl, if_true, List.getElem?_cons_zero, List.getElem?_cons_succ, List.getD_cons_zero, List.getD_cons_succ, extrF_tup, binF_add, binF_sub, binF_mul, binF_eql, binF_neq, binF_lss, binF_leq, binF_gtr, binF_geq, true_and]
  refine ⟨fun L H' => ∃ r : Nat, eqt L [.int .i64 r] ∧ r ≤ i ∧ PT H10 H' bo2 cells2 (onesK i r 0), fun L _ => (i - iv L 0).toNat, ⟨0, rfl, by omega, hQ⟩, ?_⟩
  rintro L H12 ⟨r, rfl, hr, hQ⟩
  try simp only [letO_some, cellsOf?_agg, cellsOf?_int, cellsOf?_bool, cellsOf?_imm, cellsOf?_ref, cellsOf?_nils, faddr_iptr, faddr_ptr, List.drop_succ_cons, List.drop_zero, List.take_succ_cons, List.take_zero, load1_iptr, loadN_iptr, List.length_cons, List.length_nil, Nat.le_refl, if_true, List.getElem?_cons_zero, List.getElem?_cons_succ, List.getD_cons_zero, List.getD_cons_succ, extrF_tup, binF_add, binF_sub, binF_mul, binF_eql, binF_neq, binF_lss, binF_leq, binF_gtr, binF_geq, true_and]
  refine condA_t (fun hlt2 => ?_) (fun hge2 => ?_)
  · have b1 : r < i := by omega
    refine ⟨fun L H' => ∃ c : Nat, eqt L [.int .i64 c] ∧ c ≤ i ∧ PT H10 H' bo2 cells2 (onesK i r c), fun L _ => (i - iv L 0).toNat, ⟨0, rfl, by omega, hQ⟩, ?_⟩
    rintro L H13 ⟨c, rfl, hc, hQ⟩
    try simp only [letO_some, cellsOf?_agg, cellsOf?_int, cellsOf?_bool, cellsOf?_imm, cellsOf?_ref, cellsOf?_nils, faddr_iptr, faddr_ptr, List.drop_succ_cons, List.drop_zero, List.take_succ_cons, List.take_zero, load1_iptr, loadN_iptr, List.length_cons, List.length_nil, Nat.le_refl, if_true, List.getElem?_cons_zero, List.getElem?_cons_succ, List.getD_cons_zero, List.getD_cons_succ, extrF_tup, binF_add, binF_sub, binF_mul, binF_eql, binF_neq, binF_lss, binF_leq, binF_gtr, binF_geq, true_and]
    refine condA_t (fun hlt3 => ?_) (fun hge3 => ?_)
    · have c1 : c < i := by omega
      obtain ⟨w, q, q1, q2, q3, q4, q5⟩ := PT.cell none hQ (r := r) (c := c) (by simpa using b1) (by rw [onesK_get b1]; simpa using c1)
      rw [onesK_length] at q1
      simp only [q1, q2, q3, letO_some]
      refine q5 1 _ fun H14 hQ14 => ?_
      rw [onesK_step b1 c1] at hQ14
      rw [wrap_i64 (by omega) (by omega)]
      exact ⟨⟨c + 1, rfl, by omega, hQ14⟩, by simp <;> omega⟩
    · have hce : c = i := by omega
      subst hce
      rw [onesK_next] at hQ
      rw [wrap_i64 (by omega) (by omega)]
      exact ⟨⟨r + 1, rfl, by omega, hQ⟩, by simp <;> omega⟩
  · have hre : r = i := by omega
    subst hre
    have hRQ := hQ.rt none
    rw [onesK_length] at hRQ
    have hon := ones_split ⟨r, by omega⟩ (by simp only; omega)
    simp only at hon
    refine c40 hRQ (by rw [onesK_length]; omega) (fun l hl => by
      obtain ⟨x, _, rfl⟩ := List.mem_map.1 hl
      simp; omega) ?_
    rw [hon]
    have h4 : r = 1 ∨ r = 2 ∨ r = 3 ∨ r = 4 := by omega
    have hL : ∀ k : AV → Prop, k (.int .i64 ([1, 1, 2, 24].getD (r - 1) 0)) → letO (idx 1 (.imm 4 true (ints [1, 1, 2, 24])) (.int .i64 ((r - 1 : Nat) : Int))) fun q => letO (load1 q H12) k := by
      intro k hk
      rw [idx_imm (by omega)]
      simp only [letO_some, load1_iptr]
      have : ((ints [1, 1, 2, 24]).drop ((r - 1) * 1))[0]? = some (.int .i64 ([1, 1, 2, 24].getD (r - 1) 0)) := by
        rcases h4 with rfl | rfl | rfl | rfl <;> rfl
      rw [this]
      exact hk
    simp only [letO_some, cellsOf?_agg, cellsOf?_int, cellsOf?_bool, cellsOf?_imm, cellsOf?_ref, cellsOf?_nils, faddr_iptr, faddr_ptr, List.drop_succ_cons, List.drop_zero, List.take_succ_cons, List.take_zero, load1_iptr, loadN_iptr, List.length_cons, List.length_nil, Nat.le_refl, if_true, List.getElem?_cons_zero, List.getElem?_cons_succ, List.getD_cons_zero, List.getD_cons_succ, extrF_tup, binF_add, binF_sub, binF_mul, binF_eql, binF_neq, binF_lss, binF_leq, binF_gtr, binF_geq, true_and, gval_bool, Int.reduceBNe, Int.reduceBEq, pickF_true, pickF_false, reduceIte, Bool.true_eq_false, Bool.false_eq_true, if_false, condA_tt, condA_ff, condG_tt, condG_ff, condG_tt', condG_ff', condG_undef, gval_undef, beq_self_eq_true, li4, Option.map_some]
    rw [wrap_i64 (by omega) (by omega), show ((r : Int) - 1) = ((r - 1 : Nat) : Int) by omega]
    refine hL _ ?_
    simp only [letO_some, cellsOf?_agg, cellsOf?_int, cellsOf?_bool, cellsOf?_imm, cellsOf?_ref, cellsOf?_nils, faddr_iptr, faddr_ptr, List.drop_succ_cons, List.drop_zero, List.take_succ_cons, List.take_zero, load1_iptr, loadN_iptr, List.length_cons, List.length_nil, Nat.le_refl, if_true, List.getElem?_cons_zero, List.getElem?_cons_succ, List.getD_cons_zero, List.getD_cons_succ, extrF_tup, binF_add, binF_sub, binF_mul, binF_eql, binF_neq, binF_lss, binF_leq, binF_gtr, binF_geq, true_and, gval_bool, Int.reduceBNe, Int.reduceBEq, pickF_true, pickF_false, reduceIte, Bool.true_eq_false, Bool.false_eq_true, if_false, condA_tt, condA_ff, condG_tt, condG_ff, condG_tt', condG_ff', condG_undef, gval_undef, beq_self_eq_true]
    refine exJ ?_
    refine c17 ?_
    try simp only [letO_some, cellsOf?_agg, cellsOf?_int, cellsOf?_bool, cellsOf?_imm, cellsOf?_ref, cellsOf?_nils, faddr_iptr, faddr_ptr, List.drop_succ_cons, List.drop_zero, List.take_succ_cons, List.take_zero, load1_iptr, loadN_iptr, List.length_cons, List.length_nil, Nat.le_refl, if_true, List.getElem?_cons_zero, List.getElem?_cons_succ, List.getD_cons_zero, List.getD_cons_succ, extrF_tup, binF_add, binF_sub, binF_mul, binF_eql, binF_neq, binF_lss, binF_leq, binF_gtr, binF_geq, true_and, gval_bool, Int.reduceBNe, Int.reduceBEq, pickF_true, pickF_false, reduceIte, Bool.true_eq_false, Bool.false_eq_true, if_false, condA_tt, condA_ff, condG_tt, condG_ff, condG_tt', condG_ff', condG_undef, gval_undef]
    exact endK_le (Heap.le_trans hle10 hQ.le) hk
end Go.Proofs.YtbofkeoebnjjkaaDoor
namespace Go.Proofs.YtbofkeoebnjjkaaDoor.tableCounted
open Go.Av Tab
theorem law {g : List Nat} (h0 : g.length = 27) (h1 : ∀ x ∈ g, x < 256) : ACalls Tryd.prog 11 [.agg (g.map fun (x : Nat) => .int .u8 (x : Int))] Heap.none fun r _ => r = .bool true :=
  c11 ⟨h0, h1⟩ rfl
end Go.Proofs.YtbofkeoebnjjkaaDoor.tableCounted

/- From a walk to a tied row: what the listed variables hold. -/
set_option linter.unusedVariables false
namespace Go.Proofs.YtbofkeoebnjjkaaDoor
open Go.ChangeShapes Go.WideShapes Go.ChangeAt Go.RowKit Go.Av

theorem ownK : ownKnob Tryd.prog.godebug = none := by kernel_rfl
theorem laidOutK : laidOutB Tryd.prog = true := by kernel_rfl
theorem g64 : Tryd.prog.globalNamed "math/bits.deBruijn64tab" = some 1 := by kernel_rfl
theorem g64t : (Tryd.prog.globals[1]?).map (·.type) = some 123 := by kernel_rfl
theorem u123 : Tryd.prog.underlying 123 = some (.array 64 5) := by kernel_rfl
theorem u5 : Tryd.prog.underlying 5 = some (.int .u8) := by kernel_rfl
theorem k5 : Tryd.prog.cellsOf 5 = 1 := by kernel_rfl
theorem k123 : Tryd.prog.cellsOf 123 = 64 := by kernel_rfl
abbrev laidL : List (String × DataW Unit) := [("math/bits.deBruijn32tab", Rows.laid_math_bits_deBruijn32tab), ("math/bits.deBruijn64tab", Rows.laid_math_bits_deBruijn64tab)]
def vals64 : List Int := [0, 1, 56, 2, 57, 49, 28, 3, 61, 58, 42, 50, 38, 29, 17, 4, 62, 47, 59, 36, 45, 43, 51, 22, 53, 39, 33, 30, 24, 18, 12, 5, 63, 55, 48, 27, 60, 41, 37, 16, 46, 35, 44, 21, 52, 32, 23, 11, 54, 26, 40, 15, 34, 20, 31, 10, 25, 14, 19, 9, 13, 8, 7, 6]
theorem laid64 : (Rows.laid_math_bits_deBruijn64tab : DataW Unit) = .agg (vals64.map fun n => .lit (.int .u8 n)) := by rfl
theorem tz64_eq : tz64 = vals64.map (.int .u8) := by rfl
/-- WHAT THE CONDITION GIVES A WALK. -/
theorem glb_of_laid {W : World} (h : laidMetH Tryd.prog laidL W) : Glb Tryd.prog (E0 W) := by
  rw [MakeChecks.laidMetH_plain _ _ _ (by kernel_rfl)] at h
  obtain ⟨ps, h1, _⟩ := h
  obtain ⟨_, _, _, _, _, _, _, _, _, _, h2, _⟩ := h1
  obtain ⟨g, t, cs, fuel, p, q, e1, e2, e3, e4, _, _⟩ := h2
  obtain rfl : (1 : Nat) = g := Option.some.inj (g64.symm.trans e1)
  obtain rfl : 123 = t := Option.some.inj (g64t.symm.trans e2)
  intro g cells hg
  unfold globs at hg
  rw [g64] at hg
  split at hg
  · rename_i hh
    cases hh
    cases hg
    obtain ⟨xs, m, _, hx, hl, hxl, hel⟩ := DataW.trod_array u123 e4
    rw [k123] at hl
    have hcs : ∀ i, i < 64 → cs[i]? = some (.int .u8 (vals64.getD i 0)) := by
      intro i hi
      have h5 := hel i hi
      rw [k5, Nat.mul_one] at h5
      have hxi : xs[i]? = some xs[i] := by simp [hxl, hi]
      rw [hxi] at h5
      obtain ⟨n, hn, hx5, _⟩ := DataW.trod_int u5 h5
      have hval : n = vals64.getD i 0 := by
        have h6 : (xs.map (·.1))[i]? = some (DataW.lit (.int .u8 n)) := by
          rw [List.getElem?_map, hxi, hx5]; rfl
        have h7 : (xs.map (·.1)) = vals64.map fun n => DataW.lit (.int .u8 n) := by
          have := congrArg Prod.fst hx
          rw [laid64] at this
          injection this with this
          exact this.symm
        rw [h7, List.getElem?_map] at h6
        have h8 : vals64[i]? = some (vals64.getD i 0) := by
          have : i < vals64.length := hi
          rw [List.getD_eq_getElem?_getD, List.getElem?_eq_getElem this]; rfl
        rw [h8] at h6
        simp only [Option.map_some, Option.some.injEq, DataW.lit.injEq, Lit.int.injEq, true_and] at h6
        exact h6.symm
      have h9 : ((cs.toList.drop i).take 1)[0]? = some (.int .u8 n) := by rw [hn]; rfl
      rw [List.getElem?_take_of_lt (by omega), List.getElem?_drop, Nat.add_zero] at h9
      rw [← hval]
      simpa using h9
    -- the block
    have hblk : ∃ T fr, W.heap[1]? = some (.cells cs T fr) := by
      unfold World.var? at e3
      rw [g64] at e3
      simp only [Option.bind_some] at e3
      split at e3
      · rename_i c T fr hh
        cases e3
        exact ⟨T, fr, hh⟩
      · cases e3
    obtain ⟨T, fr, hblk⟩ := hblk
    refine Rep.iptr tz64 1 0 cs T fr (fun i => .int .u8 (vals64.getD i 0)) hblk (fun i hi => ?_) (fun i hi => ?_)
    · rw [Nat.zero_add]; exact hcs i hi
    · have h1 : i < vals64.length := hi
      have : tz64[i] = .int .u8 (vals64.getD i 0) := by
        have e : tz64[i]? = some (.int .u8 (vals64.getD i 0)) := by
          rw [tz64_eq, List.getElem?_map, List.getD_eq_getElem?_getD, List.getElem?_eq_getElem h1]; rfl
        rw [List.getElem?_eq_getElem hi] at e
        exact Option.some.inj e
      exact Eq.mpr (congrArg (fun z => Rep (E0 W) z (Value.int .u8 (vals64.getD i 0))) this) (Rep.int _ _)
  · cases hg
end Go.Proofs.YtbofkeoebnjjkaaDoor

/- A world that meets the condition; the row's builder. -/
set_option linter.unusedVariables false
namespace Go.Proofs.YtbofkeoebnjjkaaDoor
open Go.ChangeShapes Go.WideShapes Go.ChangeAt Go.RowKit Go.Av

def vals32 : List Int := [0, 1, 28, 2, 29, 14, 24, 3, 30, 22, 20, 15, 25, 17, 4, 8, 31, 27, 13, 23, 21, 19, 16, 7, 26, 12, 18, 6, 11, 5, 10, 9]
/-- A world that meets the condition: the settled one, the two tables laid. -/
noncomputable def laidWorld (os : Os) (blocks : Array Obj) : World :=
  let w0 := World.holding Tryd.prog os ⟨blocks, #[], []⟩
  { w0 with heap := (w0.heap.modify 0 fun
      | .cells _ t frozen => .cells (vals32.map (Value.int .u8)).toArray t frozen
      | o => o).modify 1 fun
      | .cells _ t frozen => .cells (vals64.map (Value.int .u8)).toArray t frozen
      | o => o }
set_option maxRecDepth 100000 in
theorem laidWorld_met0 (os : Os) (args : Array Value) : laidMetH Tryd.prog laidL ((laidWorld os #[]).forCall (fun _ _ => 0) ⟨#[], args, []⟩).memory :=
  laidMetH_of_parts (laidMet_of_run3 80 (by kernel_rfl) (by kernel_rfl) (by kernel_rfl)) (by kernel_rfl)
end Go.Proofs.YtbofkeoebnjjkaaDoor

/- MADE BY PROGRAM (rowt.py): the row and the tied card of TableCounted. -/
namespace Go.Proofs.YtbofkeoebnjjkaaDoor.tableCounted
open Go.ChangeShapes Go.WideShapes Go.ChangeAt Go.RowKit Go.Av
set_option linter.unusedVariables false

set_option maxRecDepth 100000 in
theorem lifted (os : Os) (started : os.Started) (H : Type) (enc : TypeId × Value → H) :
    ReturnsInHanded {} Tryd.checked os 11 .any (fun w args => (Rows.tableCountedSpec.pre enc Tryd.prog Tryd.f11 [] false w args ∧ laidMetH Tryd.prog laidL w) ∧ sizedMet enc Tryd.prog Tryd.f11 (OpenSpec.ofChange Rows.tableCountedSpec) false w args)
      (Rows.tableCountedSpec.post enc Tryd.prog Tryd.f11 false true false false) := by
  refine returnsInHanded_of_change_and (C := Tryd.checked) (X := fun w _ => laidMetH Tryd.prog laidL w) (fun _ _ _ hh h => h.of_heap hh) ownK started (by kernel_rfl) Tryd.func11
    (ChangeSpec.witness_at (enc := enc) (C := Tryd.checked) (os := os) (X := fun w _ => laidMetH Tryd.prog laidL w) false (laidWorld os #[]) #[.agg #[.int .u8 0, .int .u8 0, .int .u8 0, .int .u8 0, .int .u8 0, .int .u8 0, .int .u8 0, .int .u8 0, .int .u8 0, .int .u8 0, .int .u8 0, .int .u8 0, .int .u8 0, .int .u8 0, .int .u8 0, .int .u8 0, .int .u8 0, .int .u8 0, .int .u8 0, .int .u8 0, .int .u8 0, .int .u8 0, .int .u8 0, .int .u8 0, .int .u8 0, .int .u8 0, .int .u8 0]] 8 rfl (by kernel_rfl) (by kernel_rfl) (by kernel_rfl) (by kernel_rfl) (by kernel_rfl) (laidWorld_met0 os _)) ?_
  intro W base args ds gs before hval0 hW hcnd _ hL _
  have hval : ∀ (j : Nat) t v, Tryd.f11.params[j]? = some t → args[j]? = some v → Value.okWide Tryd.prog W .any base t v := hval0
  have hW' := hW
  obtain ⟨p, q, hA0, hV, rfl, hfz, hnd⟩ := hW
  have hA : DataW.TrodAll enc Tryd.prog W 0 (fun _ => true) true Tryd.f11.params.toList args.toList ds p := hA0
  have hA1 := hA
  rw [Tryd.params11] at hA hval
  obtain ⟨rfl, rfl⟩ := trodVars_none hV
  clear hA0 hval0
  simp only [List.append_nil] at hW'
  have hlt : ∀ x ∈ p, x.block < W.heap.size := fun x hx => by simpa using hW'.lt x hx
  obtain ⟨v0, d0, rfl, rfl, h0⟩ := trodAll_one hA
  obtain ⟨g0, gl0, gx0, r0⟩ := rep_row (E := E0 W) (n := 27) (u := 5) (.inl ⟨_, Tryd.underlying57⟩) (by kernel_rfl) (by kernel_rfl) Tryd.underlying5 (hval 0 57 v0 rfl rfl)
  refine ((law gl0 gx0).2 (E0 W) W [v0] (glb_of_laid hL) (st0 W) (RepL.cons r0 (RepL.nil _))).mono ?_
  rintro e W' ⟨r, v, E', H', rfl, hr, _, hx, rfl⟩
  cases hr
  exact ⟨_, rfl, _, _, _, [], _, [], hW', trodAll_cons_mk (shut_bool Tryd.underlying4 _) trodAll_mk0, hx.trodAll laidOutK (by kernel_rfl) hA1 hlt, rfl, hx.kept _, fun h => by cases h⟩

theorem over : Rows.tableCountedRow.holds Tryd.pinned (OpenSpec.ofChange Rows.tableCountedSpec) :=
  OpenClaim.holds_of_wide 11 Tryd.f11 rfl rfl rfl rfl rfl rfl rfl ⟨rfl, rfl, rfl, rfl, rfl⟩ rfl rfl rfl rfl rfl (by kernel_rfl) Tryd.func11 (by kernel_rfl)
    (of_decide_eq_true (by kernel_rfl)) (by unfold Func.isWrapper; first | (rw [if_pos (by decide +kernel)]; kernel_rfl) | (rw [if_neg (by decide +kernel)]; exact ⟨rfl, rfl⟩))
    (fun os started H enc _ => lifted os started H enc)

theorem carded : Rows.TableCountedCardSaid :=
  Claim7.holds_tied_plain_at .later [] [.data, .data] true (true, "29ac6a78e3fa4d425541ea16beb52bdc0cb68dcf07b6d1720047e0e447a29f7d") false
    over (fun _ h => by cases h) (by kernel_rfl) (fun _ h => by cases h) tableCounted_row_tie rfl ⟨rfl, rfl⟩ (by kernel_rfl) rfl
    (fun f fn hf hfn => by
      obtain rfl : f = 11 := Option.some.inj ((show Tryd.prog.funcNamed "headword/headwordlaw11.TableCounted" = some 11 by kernel_rfl).symm.trans hf) |>.symm
      obtain rfl : fn = Tryd.f11 := (Option.some.inj (Tryd.func11.symm.trans hfn)).symm
      exact ⟨by kernel_rfl, fun j t ht => by
        rw [Tryd.params11] at ht
        have hm := Array.mem_of_getElem? ht
        obtain rfl : t = 57 := by simpa using hm
        · exact (show Tryd.prog.wantsStandIn 57 = false by kernel_rfl)⟩)
    (by kernel_rfl)
#print axioms carded
end Go.Proofs.YtbofkeoebnjjkaaDoor.tableCounted
