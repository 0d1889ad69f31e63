import Derived.Test.YtbofkeoebnjjkaaDoorLBirkhoffP1
import Derived.Test.YtbofkeoebnjjkaaDoorLBirkhoffP2
import Derived.Test.YtbofkeoebnjjkaaDoorConB
import Derived.Test.YtbofkeoebnjjkaaDoorBase
import Derived.Test.YtbofkeoebnjjkaaDoorAvB
import Derived.Test.YtbofkeoebnjjkaaDoorRows
import Derived.MakeChecks
import Derived.LaidLaws
import Derived.Deep.DeepLaidRun
import Derived.LaidHandle
import Derived.Test.YtbofkeoebnjjkaaDoorTie
import Derived.Test.YtbofkeoebnjjkaaDoorCards
import Derived.SevenTiedAt
/- TableBirkhoff: for every input the law returns true, and the input reads as before. No conditions. -/
namespace Go.Proofs.YtbofkeoebnjjkaaDoor
open Go.Av Tab
set_option linter.unusedVariables false
set_option linter.unusedSimpArgs false
set_option maxRecDepth 4000

theorem least_take {t : Tb} (hc : chkT t = 0) {p : List Nat} (hp : isPlan t.length p) (x : Int) : leastK (takeT t (up p) x) (up p) t.length = leastK t (up p) t.length - x := by
  have n1 := (chkT_ok hc).1
  have hcell : ∀ r, r < t.length → cell (takeT t (up p) x) r (p.getD r 0) = cell t r (p.getD r 0) - x := fun r hr => by
    rw [takeT_cell (hp.fit hc) hr, if_pos ⟨by rw [up_length, hp.1]; exact hr, by rw [up_getN]⟩]
  obtain ⟨r1, q1, q2⟩ := leastK_in (t := takeT t (up p) x) (p := up p) t.length n1
  obtain ⟨r2, q3, q4⟩ := leastK_in (t := t) (p := up p) t.length n1
  have q5 := leastK_le (t := takeT t (up p) x) (p := up p) t.length r2 q3
  have q6 := leastK_le (t := t) (p := up p) t.length r1 q1
  rw [up_getN] at q2 q4 q5 q6
  rw [hcell r1 q1] at q2
  rw [hcell r2 q3] at q5
  omega
theorem prod_least {t : Tb} (hc : chkT t = 0) {p : List Nat} (hp : isPlan t.length p) : prodZ t (up p) t.length = 0 ↔ leastK t (up p) t.length = 0 := by
  have n1 := (chkT_ok hc).1
  have h := least_zero hc (p := up p) (by rw [up_length, hp.1]; exact n1)
  rw [up_length, hp.1] at h
  rw [h, prodZ_zero, zeroAt_iff, up_length, hp.1]
  simp only [Nat.zero_add]
theorem least_sum {t : Tb} (hc : chkT t = 0) {p : List Nat} (hp : isPlan t.length p) : leastK t (up p) t.length ≤ rowS t 0 t.length := by
  have n1 := (chkT_ok hc).1
  have h1 := leastK_le (t := t) (p := up p) t.length 0 (by omega)
  rw [up_getN] at h1
  have h2 := rowS_ge hc t.length (p.getD 0 0) (hp.2 _ (getD_mem (by rw [hp.1]; omega)))
  omega
theorem takeK_full {t : Tb} {p : List Int} {x : Int} {n : Nat} (h : p.length = n) : takeK t p x n = takeT t p x := by subst h; rfl
/-- the closure of TableCounted -/
theorem c61 {B : Heap} {bo : Nat} {cells : List AV} {b6 b7 b8 n : Nat} {All : List (List Nat)} {A : AV} (h6 : B b6 = some [A]) (hA : ReadsC 1 B A All.length (All.map fun p => sl (up p))) (h7 : B b7 = some [.ref 1 bo 0 n none])
    (h8 : B b8 = some [.fn 61 [.ptr b6 0, .ptr b8 0, .ptr b7 0]]) (hAl : All.length ≤ 256) (hp : ∀ p ∈ All, isPlan n p) :
    ∀ (rest : List (List Nat)) (i : Nat) (left : Tb) (s : Nat) (H : Heap) (K : AV → Heap → Prop), All.drop i = rest → i ≤ All.length → chkT left = 0 → left.length = n → rowS left 0 n = s → s ≤ 6 → PT B H bo cells left →
      (∀ H', PT B H' bo cells left → K (.int .i64 (putL rest left s)) H') → ACalls Tryd.prog 61 [.int .i64 i, .int .i64 s, .ptr b6 0, .ptr b8 0, .ptr b7 0] H K := by
  intro rest
  induction rest with
  | nil =>
    intro i left s H K hd hi hc hll hs1 hs2 hP hk
    apply W61_ok
    unfold W61
    have hie : i = All.length := by
      have := congrArg List.length hd
      simp at this; omega
    subst hie
    have l6 : load1 (.ptr b6 0) H = some A := load_cell (hP.le _ _ h6)
    simp only [letO_some, cellsOf?_agg, cellsOf?_int, cellsOf?_bool, cellsOf?_imm, cellsOf?_ref, cellsOf?_nils, faddr_iptr, faddr_ptr, List.drop_succ_cons, List.drop_zero, List.take_succ_cons, List.take_zero, load1_iptr, loadN_iptr, List.length_cons, List.length_nil, Nat.le_refl, if_true, List.getElem?_cons_zero, List.getElem?_cons_succ, List.getD_cons_zero, List.getD_cons_succ, extrF_tup, binF_add, binF_sub, binF_mul, binF_eql, binF_neq, binF_lss, binF_leq, binF_gtr, binF_geq, true_and, l6, hA.len]
    by_cases h0 : (s : Int) = 0
    · have e : ((s : Int) == 0) = true := by rw [h0]; rfl
      simp only [e, condA_tt]
      have := hk _ hP
      rw [putL, if_pos h0] at this
      exact endK_ret this
    · have e : ((s : Int) == 0) = false := by rw [beq_eq_false_iff_ne]; exact h0
      simp only [e, condA_ff, beq_self_eq_true, condA_tt]
      have := hk _ hP
      rw [putL, if_neg h0] at this
      exact endK_ret this
  | cons p rest ih =>
    intro i left s H K hd hi hc hll hs1 hs2 hP hk
    apply W61_ok
    unfold W61
    have hil : i < All.length := by
      have := congrArg List.length hd
      simp at this; omega
    rw [List.drop_eq_getElem_cons hil] at hd
    obtain ⟨hpi, hrest⟩ := List.cons.inj hd
    have hpm : p ∈ All := by rw [← hpi]; exact List.getElem_mem hil
    have hpx : (All.map fun p => sl (up p))[i]? = some (sl (up p)) := by rw [List.getElem?_map, List.getElem?_eq_getElem hil, hpi]; rfl
    have hpl := hp p hpm
    have hplan : isPlan left.length p := by rw [hll]; exact hpl
    obtain ⟨n1, n2, hrows⟩ := chkT_ok hc
    have hrl : rest.length ≤ 256 := by
      have := congrArg List.length hrest
      rw [List.length_drop] at this; omega
    have l6 : ∀ {H : Heap}, B.le H → load1 (.ptr b6 0) H = some A := fun h => load_cell (h _ _ h6)
    have l7 : ∀ {H : Heap}, B.le H → load1 (.ptr b7 0) H = some (.ref 1 bo 0 n none) := fun h => load_cell (h _ _ h7)
    have l8 : ∀ {H : Heap}, B.le H → load1 (.ptr b8 0) H = some (.fn 61 [.ptr b6 0, .ptr b8 0, .ptr b7 0]) := fun h => load_cell (h _ _ h8)
    have hfit : fitP left (up p) := hplan.fit hc
    simp only [letO_some, cellsOf?_agg, cellsOf?_int, cellsOf?_bool, cellsOf?_imm, cellsOf?_ref, cellsOf?_nils, faddr_iptr, faddr_ptr, List.drop_succ_cons, List.drop_zero, List.take_succ_cons, List.take_zero, load1_iptr, loadN_iptr, List.length_cons, List.length_nil, Nat.le_refl, if_true, List.getElem?_cons_zero, List.getElem?_cons_succ, List.getD_cons_zero, List.getD_cons_succ, extrF_tup, binF_add, binF_sub, binF_mul, binF_eql, binF_neq, binF_lss, binF_leq, binF_gtr, binF_geq, true_and, l6 hP.le, hA.len]
    by_cases h0 : s = 0
    · have e : ((s : Int) == 0) = true := by rw [h0]; rfl
      simp only [e, condA_tt]
      have := hk _ hP
      rw [putL, if_pos (by omega)] at this
      exact endK_ret this
    have e : ((s : Int) == 0) = false := by rw [beq_eq_false_iff_ne]; omega
    have e2 : ((i : Int) == (All.length : Int)) = false := by rw [beq_eq_false_iff_ne]; omega
    simp only [e, condA_ff, e2]
    have hmost := most_least hc hplan
    have hls : leastK left (up p) left.length ≤ (s : Int) := by have := least_sum hc hplan; rw [← hs1, ← hll]; exact this
    obtain ⟨m1, m2, m3⟩ := mostK_le hc (p := p) p.length
    have hmm : mostK left p p.length = most left p := rfl
    rw [hmm] at m1 m2
    obtain ⟨M, hM⟩ : ∃ M : Nat, most left p = (M : Int) := ⟨(most left p).toNat, by omega⟩
    have hMs : M ≤ s := by omega
    have hbd := fun k => putK_bd rest p left (s : Int) k
    have hnum := hP_num (a := rest.length + 1 + 1) (s := (s : Int)) (by omega) (by omega)
    have hck : ∀ k : Nat, k ≤ M → chkT (takeT left (up p) (k : Int)) = 0 := fun k hk => chk_takeP hc hplan (by omega)
    have hrk : ∀ k : Nat, rowS (takeT left (up p) (k : Int)) 0 n = (s : Int) - k := fun k => by
      have := rowS_take (x := (k : Int)) hc hplan left.length (Nat.le_refl _)
      rw [hll, if_pos (hpl.2 _ (getD_mem (by rw [hpl.1]; omega))), hs1] at this
      exact this
    have hget : ∀ {H : Heap} (k : AV → Prop), B.le H → k (sl (up p)) → letO (idx 1 A (.int .i64 (i : Int))) fun q => letO (load1 q H) k := fun {H} k hle hk => hA.get hle (by omega) (by omega) (by rw [Int.toNat_natCast]; exact hpx) hk
    have hlen : lenA (sl (up p)) = some (.int .i64 (n : Int)) := by rw [(Reads.sl Heap.none _).len, up_length, hpl.1]
    -- numbers of a plan are changed, row by row
    refine ⟨fun L H' => eqt L [.int .i64 (putK rest p left (s : Int) M), .int .i64 M] ∧ PT B H' bo cells (takeT left (up p) M), ?_, ?_⟩
    · refine ⟨fun L H' => ∃ (k : Nat) (a : Int), eqt L [.int .i64 a, .int .i64 k] ∧ k ≤ M ∧ k < s ∧ PT B H' bo cells (takeT left (up p) k) ∧ a + putL rest (takeT left (up p) k) ((s : Int) - k) = putK rest p left s k ∧ 0 ≤ a ∧ a ≤ 1000000000000000000, fun L _ => (M - iv L 1).toNat,
        ⟨0, 0, rfl, by omega, by omega, by rw [show ((0 : Nat) : Int) = 0 from rfl, takeT_zero hfit]; exact hP, by rw [show ((0 : Nat) : Int) = 0 from rfl, takeT_zero hfit]; simp [putK], by omega, by omega⟩, ?_⟩
      rintro L H1 ⟨k, a, rfl, hkM, hks, hP1, ha, ha0, ha1⟩
      simp only [letO_some, cellsOf?_agg, cellsOf?_int, cellsOf?_bool, cellsOf?_imm, cellsOf?_ref, cellsOf?_nils, faddr_iptr, faddr_ptr, List.drop_succ_cons, List.drop_zero, List.take_succ_cons, List.take_zero, load1_iptr, loadN_iptr, List.length_cons, List.length_nil, Nat.le_refl, if_true, List.getElem?_cons_zero, List.getElem?_cons_succ, List.getD_cons_zero, List.getD_cons_succ, extrF_tup, binF_add, binF_sub, binF_mul, binF_eql, binF_neq, binF_lss, binF_leq, binF_gtr, binF_geq, true_and, l8 hP1.le]
      rw [wrap_i64 (n := (i : Int) + 1) (by omega) (by omega), show ((i : Int) + 1) = ((i + 1 : Nat) : Int) by omega, wrap_i64 (n := (s : Int) - k) (by omega) (by omega), show ((s : Int) - k) = ((s - k : Nat) : Int) by omega]
      simp only [callA_fn, List.cons_append, List.nil_append]
      refine ih (i + 1) _ (s - k) H1 _ hrest (by omega) (hck k hkM) (by rw [takeT_length]; exact hll) (by rw [hrk]; omega) (by omega) hP1 fun H2 hP2 => ?_
      have b1 := hbd k
      rw [show ((s - k : Nat) : Int) = (s : Int) - k by omega] at *
      simp only [letO_some, cellsOf?_agg, cellsOf?_int, cellsOf?_bool, cellsOf?_imm, cellsOf?_ref, cellsOf?_nils, faddr_iptr, faddr_ptr, List.drop_succ_cons, List.drop_zero, List.take_succ_cons, List.take_zero, load1_iptr, loadN_iptr, List.length_cons, List.length_nil, Nat.le_refl, if_true, List.getElem?_cons_zero, List.getElem?_cons_succ, List.getD_cons_zero, List.getD_cons_succ, extrF_tup, binF_add, binF_sub, binF_mul, binF_eql, binF_neq, binF_lss, binF_leq, binF_gtr, binF_geq, true_and, l7 hP2.le, l6 hP2.le]
      rw [ha, wrap_i64 (n := putK rest p left s k) (by omega) (by omega)]
      refine hget _ hP2.le ?_
      have hrt := hP2.rt none
      rw [takeT_length, hll] at hrt
      have hc2 := hck k hkM
      have hpl2 : isPlan (takeT left (up p) (k : Int)).length p := by rw [takeT_length]; exact hplan
      have hpr := prod_least hc2 hpl2
      have hlt2 := least_take hc hplan (k : Int)
      rw [takeT_length] at hpr
      rw [hlt2] at hpr
      refine c48 hrt (Reads.sl _ _) (by rw [up_length, hpl.1, takeT_length]; omega) (by rw [up_length, hpl.1]; omega) (fun r c => by have := cell_rng hc2 r c; omega) (fun r hr => by
        rw [up_length, hpl.1] at hr
        exact (hpl2.fit hc2).2 r (by rw [up_length, hpl.1]; exact hr)) ?_
      rw [up_length, hpl.1, ← hll]
      try simp only [letO_some, cellsOf?_agg, cellsOf?_int, cellsOf?_bool, cellsOf?_imm, cellsOf?_ref, cellsOf?_nils, faddr_iptr, faddr_ptr, List.drop_succ_cons, List.drop_zero, List.take_succ_cons, List.take_zero, load1_iptr, loadN_iptr, List.length_cons, List.length_nil, Nat.le_refl, if_true, List.getElem?_cons_zero, List.getElem?_cons_succ, List.getD_cons_zero, List.getD_cons_succ, extrF_tup, binF_add, binF_sub, binF_mul, binF_eql, binF_neq, binF_lss, binF_leq, binF_gtr, binF_geq, true_and]
      by_cases hkz : k = M
      · have e3 : (prodZ (takeT left (up p) (k : Int)) (up p) left.length == 0) = true := by
          rw [beq_iff_eq]; exact hpr.2 (by omega)
        simp only [e3, condA_tt]
        subst hkz
        exact ⟨rfl, hP2⟩
      · have e3 : (prodZ (takeT left (up p) (k : Int)) (up p) left.length == 0) = false := by
          rw [beq_eq_false_iff_ne]; intro h; have := hpr.1 h; omega
        simp only [e3, condA_ff, l6 hP2.le, letO_some]
        refine hget _ hP2.le ?_
        have hfk := hpl2.fit hc2
        simp only [hlen, letO_some]
        refine ⟨fun L H' => ∃ j : Nat, eqt L [.int .i64 j] ∧ j ≤ n ∧ PT B H' bo cells (takeK (takeT left (up p) (k : Int)) (up p) 1 j), fun L _ => (n - iv L 0).toNat, ⟨0, rfl, by omega, by rw [takeK_zero]; exact hP2⟩, ?_⟩
        rintro L H3 ⟨j, rfl, hj, hPj⟩
        try simp only [letO_some, cellsOf?_agg, cellsOf?_int, cellsOf?_bool, cellsOf?_imm, cellsOf?_ref, cellsOf?_nils, faddr_iptr, faddr_ptr, List.drop_succ_cons, List.drop_zero, List.take_succ_cons, List.take_zero, load1_iptr, loadN_iptr, List.length_cons, List.length_nil, Nat.le_refl, if_true, List.getElem?_cons_zero, List.getElem?_cons_succ, List.getD_cons_zero, List.getD_cons_succ, extrF_tup, binF_add, binF_sub, binF_mul, binF_eql, binF_neq, binF_lss, binF_leq, binF_gtr, binF_geq, true_and]
        refine condA_t (fun hltj => ?_) (fun hgej => ?_)
        · have b2 : j < n := by omega
          have hjl : j < (takeT left (up p) (k : Int)).length := by rw [takeT_length]; omega
          refine (Reads.sl H3 (up p)).get (Heap.le_refl _) (by omega) (by rw [up_length, hpl.1]; omega) ?_
          rw [Int.toNat_natCast, up_getD]
          simp only [letO_some, cellsOf?_agg, cellsOf?_int, cellsOf?_bool, cellsOf?_imm, cellsOf?_ref, cellsOf?_nils, faddr_iptr, faddr_ptr, List.drop_succ_cons, List.drop_zero, List.take_succ_cons, List.take_zero, load1_iptr, loadN_iptr, List.length_cons, List.length_nil, Nat.le_refl, if_true, List.getElem?_cons_zero, List.getElem?_cons_succ, List.getD_cons_zero, List.getD_cons_succ, extrF_tup, binF_add, binF_sub, binF_mul, binF_eql, binF_neq, binF_lss, binF_leq, binF_gtr, binF_geq, true_and, l7 hPj.le]
          have hfj := hfk.2 j (by rw [up_length, hpl.1]; exact b2)
          rw [up_getN] at hfj
          have hrow : (takeK (takeT left (up p) (k : Int)) (up p) 1 j).getD j [] = row (takeT left (up p) (k : Int)) j := by rw [takeK_get hjl, if_neg (by omega)]
          obtain ⟨w, q, q1, q2, q3, q4, q5⟩ := PT.cell none hPj (r := j) (c := p.getD j 0) (by simpa using hjl) (by rw [hrow]; exact hfj.2)
          rw [takeK_length, takeT_length, hll] at q1
          rw [hrow] at q4 q5
          rw [show (row (takeT left (up p) (k : Int)) j).getD (p.getD j 0) 0 = cell (takeT left (up p) (k : Int)) j (p.getD j 0) from rfl] at q4
          have hcb := cell_rng hc2 j (p.getD j 0)
          simp only [q1, q2, q3, q4, letO_some, cellsOf?_agg, cellsOf?_int, cellsOf?_bool, cellsOf?_imm, cellsOf?_ref, cellsOf?_nils, faddr_iptr, faddr_ptr, List.drop_succ_cons, List.drop_zero, List.take_succ_cons, List.take_zero, load1_iptr, loadN_iptr, List.length_cons, List.length_nil, Nat.le_refl, if_true, List.getElem?_cons_zero, List.getElem?_cons_succ, List.getD_cons_zero, List.getD_cons_succ, extrF_tup, binF_add, binF_sub, binF_mul, binF_eql, binF_neq, binF_lss, binF_leq, binF_gtr, binF_geq, true_and]
          rw [wrap_i64 (n := cell (takeT left (up p) (k : Int)) j (p.getD j 0) - 1) (by omega) (by omega)]
          refine q5 _ _ fun H4 hP4 => ?_
          rw [wrap_i64 (by omega) (by omega)]
          refine ⟨⟨j + 1, rfl, by omega, ?_⟩, by simp <;> omega⟩
          have hst := takeK_step (t := takeT left (up p) (k : Int)) (p := up p) (x := 1) (i := j) hjl
          rw [up_getN] at hst
          rw [hst] at hP4
          exact hP4
        · have hje : j = n := by omega
          subst hje
          have e4 : takeK (takeT left (up p) (k : Int)) (up p) 1 j = takeT left (up p) ((k + 1 : Nat) : Int) := by
            rw [takeK_full (by rw [up_length, hpl.1]), takeT_take hfit, Int.natCast_add]; rfl
          rw [e4] at hPj
          rw [wrap_i64 (by omega) (by omega), show ((k : Int) + 1) = ((k + 1 : Nat) : Int) by omega]
          have b3 := hbd (k + 1)
          have hsucc := putK_succ (rest := rest) (p := p) (t := left) (s := (s : Int)) (k := k)
          by_cases hk1 : k + 1 = s
          · have e5 : (((k + 1 : Nat) : Int) == (s : Int)) = true := by rw [hk1]; exact beq_self_eq_true _
            have hkM1 : k + 1 = M := by omega
            have hz : putL rest (takeT left (up p) ((k : Int) + 1)) ((s : Int) - k - 1) = 1 := by
              rw [show ((s : Int) - k - 1) = 0 by omega, putL_zero]
            simp only [e5, condA_tt, letO_some, cellsOf?_agg, cellsOf?_int, cellsOf?_bool, cellsOf?_imm, cellsOf?_ref, cellsOf?_nils, faddr_iptr, faddr_ptr, List.drop_succ_cons, List.drop_zero, List.take_succ_cons, List.take_zero, load1_iptr, loadN_iptr, List.length_cons, List.length_nil, Nat.le_refl, if_true, List.getElem?_cons_zero, List.getElem?_cons_succ, List.getD_cons_zero, List.getD_cons_succ, extrF_tup, binF_add, binF_sub, binF_mul, binF_eql, binF_neq, binF_lss, binF_leq, binF_gtr, binF_geq, true_and]
            rw [wrap_i64 (by omega) (by omega)]
            refine ⟨?_, by rw [← hkM1]; exact hPj⟩
            unfold eqt
            rw [← hkM1, hsucc, hz]
          · have e5 : (((k + 1 : Nat) : Int) == (s : Int)) = false := by rw [beq_eq_false_iff_ne]; omega
            simp only [e5, condA_ff]
            refine ⟨⟨k + 1, putK rest p left s k, rfl, by omega, by omega, hPj, ?_, by omega, by omega⟩, by simp <;> omega⟩
            rw [hsucc, show ((k + 1 : Nat) : Int) = (k : Int) + 1 by omega, show ((s : Int) - ((k : Int) + 1)) = (s : Int) - k - 1 by omega]
    · rintro L H1 ⟨rfl, hP1⟩
      simp only [letO_some, cellsOf?_agg, cellsOf?_int, cellsOf?_bool, cellsOf?_imm, cellsOf?_ref, cellsOf?_nils, faddr_iptr, faddr_ptr, List.drop_succ_cons, List.drop_zero, List.take_succ_cons, List.take_zero, load1_iptr, loadN_iptr, List.length_cons, List.length_nil, Nat.le_refl, if_true, List.getElem?_cons_zero, List.getElem?_cons_succ, List.getD_cons_zero, List.getD_cons_succ, extrF_tup, binF_add, binF_sub, binF_mul, binF_eql, binF_neq, binF_lss, binF_leq, binF_gtr, binF_geq, true_and, l6 hP1.le]
      refine hget _ hP1.le ?_
      have hc2 := hck M (Nat.le_refl _)
      have hpl2 : isPlan (takeT left (up p) (M : Int)).length p := by rw [takeT_length]; exact hplan
      have hfk := hpl2.fit hc2
      simp only [hlen, letO_some]
      refine ⟨fun L H' => ∃ j : Nat, eqt L [.int .i64 j] ∧ j ≤ n ∧ PT B H' bo cells (takeK (takeT left (up p) (M : Int)) (up p) (-(M : Int)) j), fun L _ => (n - iv L 0).toNat, ⟨0, rfl, by omega, by rw [takeK_zero]; exact hP1⟩, ?_⟩
      rintro L H3 ⟨j, rfl, hj, hPj⟩
      try simp only [letO_some, cellsOf?_agg, cellsOf?_int, cellsOf?_bool, cellsOf?_imm, cellsOf?_ref, cellsOf?_nils, faddr_iptr, faddr_ptr, List.drop_succ_cons, List.drop_zero, List.take_succ_cons, List.take_zero, load1_iptr, loadN_iptr, List.length_cons, List.length_nil, Nat.le_refl, if_true, List.getElem?_cons_zero, List.getElem?_cons_succ, List.getD_cons_zero, List.getD_cons_succ, extrF_tup, binF_add, binF_sub, binF_mul, binF_eql, binF_neq, binF_lss, binF_leq, binF_gtr, binF_geq, true_and]
      refine condA_t (fun hltj => ?_) (fun hgej => ?_)
      · have b2 : j < n := by omega
        have hjl : j < (takeT left (up p) (M : Int)).length := by rw [takeT_length]; omega
        refine (Reads.sl H3 (up p)).get (Heap.le_refl _) (by omega) (by rw [up_length, hpl.1]; omega) ?_
        rw [Int.toNat_natCast, up_getD]
        simp only [letO_some, cellsOf?_agg, cellsOf?_int, cellsOf?_bool, cellsOf?_imm, cellsOf?_ref, cellsOf?_nils, faddr_iptr, faddr_ptr, List.drop_succ_cons, List.drop_zero, List.take_succ_cons, List.take_zero, load1_iptr, loadN_iptr, List.length_cons, List.length_nil, Nat.le_refl, if_true, List.getElem?_cons_zero, List.getElem?_cons_succ, List.getD_cons_zero, List.getD_cons_succ, extrF_tup, binF_add, binF_sub, binF_mul, binF_eql, binF_neq, binF_lss, binF_leq, binF_gtr, binF_geq, true_and, l7 hPj.le]
        have hfj := hfk.2 j (by rw [up_length, hpl.1]; exact b2)
        rw [up_getN] at hfj
        have hrow : (takeK (takeT left (up p) (M : Int)) (up p) (-(M : Int)) j).getD j [] = row (takeT left (up p) (M : Int)) j := by rw [takeK_get hjl, if_neg (by omega)]
        obtain ⟨w, q, q1, q2, q3, q4, q5⟩ := PT.cell none hPj (r := j) (c := p.getD j 0) (by simpa using hjl) (by rw [hrow]; exact hfj.2)
        rw [takeK_length, takeT_length, hll] at q1
        rw [hrow] at q4 q5
        rw [show (row (takeT left (up p) (M : Int)) j).getD (p.getD j 0) 0 = cell (takeT left (up p) (M : Int)) j (p.getD j 0) from rfl] at q4
        have hcb := cell_rng hc2 j (p.getD j 0)
        simp only [q1, q2, q3, q4, letO_some, cellsOf?_agg, cellsOf?_int, cellsOf?_bool, cellsOf?_imm, cellsOf?_ref, cellsOf?_nils, faddr_iptr, faddr_ptr, List.drop_succ_cons, List.drop_zero, List.take_succ_cons, List.take_zero, load1_iptr, loadN_iptr, List.length_cons, List.length_nil, Nat.le_refl, if_true, List.getElem?_cons_zero, List.getElem?_cons_succ, List.getD_cons_zero, List.getD_cons_succ, extrF_tup, binF_add, binF_sub, binF_mul, binF_eql, binF_neq, binF_lss, binF_leq, binF_gtr, binF_geq, true_and]
        rw [wrap_i64 (n := cell (takeT left (up p) (M : Int)) j (p.getD j 0) + M) (by omega) (by omega)]
        refine q5 _ _ fun H4 hP4 => ?_
        rw [wrap_i64 (by omega) (by omega)]
        refine ⟨⟨j + 1, rfl, by omega, ?_⟩, by simp <;> omega⟩
        have hst := takeK_step (t := takeT left (up p) (M : Int)) (p := up p) (x := -(M : Int)) (i := j) hjl
        rw [up_getN, show cell (takeT left (up p) (M : Int)) j (p.getD j 0) - -(M : Int) = cell (takeT left (up p) (M : Int)) j (p.getD j 0) + M by omega] at hst
        rw [hst] at hP4
        exact hP4
      · have hje : j = n := by omega
        subst hje
        have e4 : takeK (takeT left (up p) (M : Int)) (up p) (-(M : Int)) j = left := by
          rw [takeK_full (by rw [up_length, hpl.1]), takeT_take hfit, Int.add_right_neg, takeT_zero hfit]
        rw [e4] at hPj
        have := hk _ hPj
        rw [putL, if_neg (by omega), hM, Int.toNat_natCast] at this
        exact endK_ret this
end Go.Proofs.YtbofkeoebnjjkaaDoor

namespace Go.Proofs.YtbofkeoebnjjkaaDoor
open Go.Av Tab
set_option linter.unusedVariables false
set_option linter.unusedSimpArgs false
set_option maxRecDepth 4000

theorem c49' {n : Nat} {H : Heap} {K : AV → Heap → Prop} (hn : 1 ≤ n ∧ n ≤ 1000) (hk : K (tl (zeroT n)) H) : ACalls Tryd.prog 49 [.int .i64 n] H K := by
  refine ACalls.pub (c49 hn fun bo cells H' hP => ?_)
  refine endK_all hP.le 2 ?_
  have := hP.pub none 0
  rw [show (zeroT n).length = n by simp [zeroT]] at this
  rw [this]; exact hk
/-- The smallest number so far, at most 9. -/
def lowK (t : Tb) (p : List Nat) (i : Nat) : Int := if i = 0 then 9 else leastK t (up p) i
theorem lowK_succ {t : Tb} (hc : chkT t = 0) (p : List Nat) (i : Nat) : lowK t p (i + 1) = if cell t i (p.getD i 0) < lowK t p i then cell t i (p.getD i 0) else lowK t p i := by
  unfold lowK
  rw [if_neg (by omega)]
  cases i with
  | zero =>
    rw [if_pos rfl, leastK_one, leastK, up_getN]
    have := (cell_rng hc 0 (p.getD 0 0)).2
    split <;> omega
  | succ i => rw [leastK, up_getN, if_neg (c := i + 1 = 0) (by omega)]
theorem any_false {α : Type} {l : List α} {p : α → Bool} (h : l.any p = false) {x : α} (hx : x ∈ l) : p x = false := by
  have := List.any_eq_false.1 h x hx
  simpa using this
theorem first_at {α : Type} {q : α → Bool} {d : α} : ∀ {l : List α} {k : Nat} {p : α} {r : List α}, l.filter q = p :: r → k < l.length → q (l.getD k d) = true → (l.take k).any q = false → l.getD k d = p
  | a :: l, 0, p, r, h, _, h1, _ => by
    simp only [List.getD_cons_zero] at h1 ⊢
    rw [List.filter_cons, if_pos h1] at h
    exact (List.cons.inj h).1
  | a :: l, k + 1, p, r, h, hk, h1, h2 => by
    simp only [List.getD_cons_succ] at h1 ⊢
    rw [List.take_succ_cons, List.any_cons, Bool.or_eq_false_iff] at h2
    rw [List.filter_cons, if_neg (by rw [h2.1]; decide)] at h
    exact first_at h (by simpa using hk) h1 h2.2
/-- TableBirkhoff -/
theorem c7 {g : List Nat} {H : Heap} {K : AV → Heap → Prop} (hg : Led g) (hk : K (.bool true) H) : ACalls Tryd.prog 7 [.agg (u8s g)] H K := by
  apply W7_ok
  unfold W7
  have hb := gsz_bd g
  simp only [letO_some, cellsOf?_agg, cellsOf?_int, cellsOf?_bool, cellsOf?_imm, cellsOf?_ref, cellsOf?_nils, faddr_iptr, faddr_ptr, List.drop_succ_cons, List.drop_zero, List.take_succ_cons, List.take_zero, load1_iptr, loadN_iptr, List.length_cons, List.length_nil, Nat.le_refl, if_true, List.getElem?_cons_zero, List.getElem?_cons_succ, List.getD_cons_zero, List.getD_cons_succ, extrF_tup, binF_add, binF_sub, binF_mul, binF_eql, binF_neq, binF_lss, binF_leq, binF_gtr, binF_geq, true_and, hg.all]
  refine c44 (most := 8) hg ⟨by omega, by omega⟩ ?_
  have hk8 : evenN g 8 ≤ 8 := by have := Nat.mod_lt (gv g 1) (show 8 + 1 > 0 by omega); unfold evenN; omega
  have hev : EvT (gsz g) (evenN g 8 : Nat) (evenT g 8) := evenT_ev g (by omega)
  have heven : evenE (evenT g 8) = (((evenN g 8 : Nat) : Int), 0) := evenK_even g (by omega)
  generalize evenT g 8 = t at *
  generalize evenN g 8 = k at *
  generalize gsz g = n at *
  have hlen := hev.len
  have hchk := hev.chk
  have hsl : ∀ {t : Tb}, chkT t = 0 → ∀ l ∈ t, l.length < 2 ^ 63 := fun {t} hchk l hl => Nat.lt_of_le_of_lt (Nat.le_trans (Nat.le_of_eq ((chkT_ok hchk).2.2 l hl).1) (chkT_ok hchk).2.1) (by decide)
  try simp only [letO_some, cellsOf?_agg, cellsOf?_int, cellsOf?_bool, cellsOf?_imm, cellsOf?_ref, cellsOf?_nils, faddr_iptr, faddr_ptr, List.drop_succ_cons, List.drop_zero, List.take_succ_cons, List.take_zero, load1_iptr, loadN_iptr, List.length_cons, List.length_nil, Nat.le_refl, if_true, List.getElem?_cons_zero, List.getElem?_cons_succ, List.getD_cons_zero, List.getD_cons_succ, extrF_tup, binF_add, binF_sub, binF_mul, binF_eql, binF_neq, binF_lss, binF_leq, binF_gtr, binF_geq, true_and]
  refine alloc_store (cs := [tl t]) rfl rfl rfl rfl fun b3 hb3 => ?_
  have hle3 := Heap.le_new (c := [tl t]) hb3
  have h3 : (H.put b3 [tl t]) b3 = some [tl t] := Heap.put_same
  generalize H.put b3 [tl t] = H2 at *
  have l3 : ∀ {H'}, H2.le H' → load1 (.ptr b3 0) H' = some (tl t) := fun h => load_cell (h _ _ h3)
  have hvl := (RT.tl H t).len
  simp only [letO_some, cellsOf?_agg, cellsOf?_int, cellsOf?_bool, cellsOf?_imm, cellsOf?_ref, cellsOf?_nils, faddr_iptr, faddr_ptr, List.drop_succ_cons, List.drop_zero, List.take_succ_cons, List.take_zero, load1_iptr, loadN_iptr, List.length_cons, List.length_nil, Nat.le_refl, if_true, List.getElem?_cons_zero, List.getElem?_cons_succ, List.getD_cons_zero, List.getD_cons_succ, extrF_tup, binF_add, binF_sub, binF_mul, binF_eql, binF_neq, binF_lss, binF_leq, binF_gtr, binF_geq, true_and, l3 (Heap.le_refl _), hvl, hlen]
  refine c18 (RT.tl _ _) (by omega) (hsl hchk) ?_
  simp only [letO_some, cellsOf?_agg, cellsOf?_int, cellsOf?_bool, cellsOf?_imm, cellsOf?_ref, cellsOf?_nils, faddr_iptr, faddr_ptr, List.drop_succ_cons, List.drop_zero, List.take_succ_cons, List.take_zero, load1_iptr, loadN_iptr, List.length_cons, List.length_nil, Nat.le_refl, if_true, List.getElem?_cons_zero, List.getElem?_cons_succ, List.getD_cons_zero, List.getD_cons_succ, extrF_tup, binF_add, binF_sub, binF_mul, binF_eql, binF_neq, binF_lss, binF_leq, binF_gtr, binF_geq, true_and, l3 (Heap.le_refl _)]
  refine c38 (RT.tl _ _) (by omega) (hsl hchk) ?_
  have htf : tsum t ≤ ((tsum t).toNat : Nat) := by have := (tsum_rng hchk).1; omega
  obtain ⟨hS1, hS2⟩ := split_len hev htf
  have hback := split_back hev htf
  have hSe : (if (evenE t).2 ≠ 0 then [] else splitS t) = splitF (tsum t).toNat t := by rw [heven]; rfl
  rw [hSe, heven]
  generalize hF : (tsum t).toNat = F at *
  generalize hS : splitF F t = S at *
  have hd : dimN n ≤ 10 := by
    have : n = 1 ∨ n = 2 ∨ n = 3 ∨ n = 4 := by omega
    rcases this with rfl | rfl | rfl | rfl <;> decide
  have hSL : lenA (.imm S.length false (S.flatMap shC)) = some (.int .i64 S.length) := rfl
  simp only [letO_some, cellsOf?_agg, cellsOf?_int, cellsOf?_bool, cellsOf?_imm, cellsOf?_ref, cellsOf?_nils, faddr_iptr, faddr_ptr, List.drop_succ_cons, List.drop_zero, List.take_succ_cons, List.take_zero, load1_iptr, loadN_iptr, List.length_cons, List.length_nil, Nat.le_refl, if_true, List.getElem?_cons_zero, List.getElem?_cons_succ, List.getD_cons_zero, List.getD_cons_succ, extrF_tup, binF_add, binF_sub, binF_mul, binF_eql, binF_neq, binF_lss, binF_leq, binF_gtr, binF_geq, true_and, gval_bool, Int.reduceBNe, Int.reduceBEq, pickF_true, pickF_false, reduceIte, Bool.true_eq_false, Bool.false_eq_true, if_false, condA_tt, condA_ff, condG_tt, condG_ff, condG_tt', condG_ff', condG_undef, gval_undef, bne_self_eq_false, hSL]
  rw [wrap_i64 (n := (n : Int) - 1) (by omega) (by omega), show (n : Int) - 1 = ((n - 1 : Nat) : Int) by omega, ← Int.natCast_mul]
  have hm9 : (n - 1) * (n - 1) ≤ 3 * 3 := Nat.mul_le_mul (by omega) (by omega)
  rw [wrap_i64 (n := (((n - 1) * (n - 1) : Nat) : Int)) (by omega) (by omega), wrap_i64 (by omega) (by omega)]
  unfold dimN at hS1
  have e63 : decide ((((n - 1) * (n - 1) : Nat) : Int) + 1 < (S.length : Int)) = false := decide_eq_false (by omega)
  simp only [e63, gval_bool, Int.reduceBNe, Int.reduceBEq, pickF_true, pickF_false, reduceIte, Bool.true_eq_false, Bool.false_eq_true, if_false, condA_tt, condA_ff, condG_tt, condG_ff, condG_tt', condG_ff', condG_undef, gval_undef]
  refine c45 hb ?_
  have hPl := plansS_len hb.2
  have hPm : ∀ p ∈ plansS n, isPlan n p := fun p hp => plansS_mem hp
  have hPL : ((plansS n).map up).length < 2 ^ 63 := by rw [List.length_map]; exact Nat.lt_of_le_of_lt hPl (by decide)
  have hfit : ∀ {u : Tb}, Sq n u → ∀ l ∈ (plansS n).map up, l.length = n ∧ ∀ r, r < l.length → 0 ≤ l.getD r 0 ∧ (l.getD r 0).toNat < (row u r).length := fun {u} hu l hl => by
    obtain ⟨p, hp, rfl⟩ := List.mem_map.1 hl
    exact ⟨by rw [up_length, (hPm p hp).1], (hu.fit (hPm p hp)).2⟩
  have hpos : ∀ {u : Tb}, chkT u = 0 → u.length = n → ∀ p ∈ plansS n, (0 < prodZ u (up p) n ↔ 0 < leastK u (up p) n) := fun {u} hu hul p hp => by
    have h1 := prod_least hu (p := p) (by rw [hul]; exact hPm p hp)
    rw [hul] at h1
    have h2 := (prodZ_bd (B := 9) (fun r c => cell_rng hu r c) (up p) n).1
    obtain ⟨r, _, h3⟩ := leastK_in (t := u) (p := up p) n hb.1
    have h4 := (cell_rng hu r ((up p).getD r 0).toNat).1
    omega
  try simp only [letO_some, cellsOf?_agg, cellsOf?_int, cellsOf?_bool, cellsOf?_imm, cellsOf?_ref, cellsOf?_nils, faddr_iptr, faddr_ptr, List.drop_succ_cons, List.drop_zero, List.take_succ_cons, List.take_zero, load1_iptr, loadN_iptr, List.length_cons, List.length_nil, Nat.le_refl, if_true, List.getElem?_cons_zero, List.getElem?_cons_succ, List.getD_cons_zero, List.getD_cons_succ, extrF_tup, binF_add, binF_sub, binF_mul, binF_eql, binF_neq, binF_lss, binF_leq, binF_gtr, binF_geq, true_and]
  refine ⟨fun L H' => ∃ r : Nat, eqt L [.int .i64 r] ∧ r ≤ n ∧ H2.le H', fun L _ => (n - iv L 0).toNat, ⟨0, rfl, by omega, Heap.le_refl _⟩, ?_⟩
  rintro L Ha ⟨r, rfl, hr, hla⟩
  try simp only [letO_some, cellsOf?_agg, cellsOf?_int, cellsOf?_bool, cellsOf?_imm, cellsOf?_ref, cellsOf?_nils, faddr_iptr, faddr_ptr, List.drop_succ_cons, List.drop_zero, List.take_succ_cons, List.take_zero, load1_iptr, loadN_iptr, List.length_cons, List.length_nil, Nat.le_refl, if_true, List.getElem?_cons_zero, List.getElem?_cons_succ, List.getD_cons_zero, List.getD_cons_succ, extrF_tup, binF_add, binF_sub, binF_mul, binF_eql, binF_neq, binF_lss, binF_leq, binF_gtr, binF_geq, true_and]
  refine condA_t (fun hlt => ?_) (fun hge => ?_)
  · have a1 : r < n := by omega
    refine alloc_store (cs := [.int .i64 (r : Int)]) rfl rfl rfl rfl fun b11 hb11 => ?_
    have hlb := Heap.le_trans hla (Heap.le_new (c := [.int .i64 (r : Int)]) hb11)
    have h11 : (Ha.put b11 [.int .i64 (r : Int)]) b11 = some [.int .i64 (r : Int)] := Heap.put_same
    generalize Ha.put b11 [.int .i64 (r : Int)] = Hb at *
    try simp only [letO_some, cellsOf?_agg, cellsOf?_int, cellsOf?_bool, cellsOf?_imm, cellsOf?_ref, cellsOf?_nils, faddr_iptr, faddr_ptr, List.drop_succ_cons, List.drop_zero, List.take_succ_cons, List.take_zero, load1_iptr, loadN_iptr, List.length_cons, List.length_nil, Nat.le_refl, if_true, List.getElem?_cons_zero, List.getElem?_cons_succ, List.getD_cons_zero, List.getD_cons_succ, extrF_tup, binF_add, binF_sub, binF_mul, binF_eql, binF_neq, binF_lss, binF_leq, binF_gtr, binF_geq, true_and]
    refine ⟨fun L H' => ∃ c : Nat, eqt L [.int .i64 c] ∧ c ≤ n ∧ Hb.le H', fun L _ => (n - iv L 0).toNat, ⟨0, rfl, by omega, Heap.le_refl _⟩, ?_⟩
    rintro L Hc ⟨c, rfl, hc, hlc⟩
    try simp only [letO_some, cellsOf?_agg, cellsOf?_int, cellsOf?_bool, cellsOf?_imm, cellsOf?_ref, cellsOf?_nils, faddr_iptr, faddr_ptr, List.drop_succ_cons, List.drop_zero, List.take_succ_cons, List.take_zero, load1_iptr, loadN_iptr, List.length_cons, List.length_nil, Nat.le_refl, if_true, List.getElem?_cons_zero, List.getElem?_cons_succ, List.getD_cons_zero, List.getD_cons_succ, extrF_tup, binF_add, binF_sub, binF_mul, binF_eql, binF_neq, binF_lss, binF_leq, binF_gtr, binF_geq, true_and]
    refine condA_t (fun hlt2 => ?_) (fun hge2 => ?_)
    · have b1 : c < n := by omega
      refine alloc_store (cs := [.int .i64 (c : Int)]) rfl rfl rfl rfl fun b12 hb12 => ?_
      have hld := Heap.le_trans hlc (Heap.le_new (c := [.int .i64 (c : Int)]) hb12)
      have h12 : (Hc.put b12 [.int .i64 (c : Int)]) b12 = some [.int .i64 (c : Int)] := Heap.put_same
      generalize Hc.put b12 [.int .i64 (c : Int)] = Hd at *
      have h3d : Hd b3 = some [tl t] := (Heap.le_trans hlb hld) _ _ h3
      have h11d := hld _ _ h11
      try simp only [letO_some, cellsOf?_agg, cellsOf?_int, cellsOf?_bool, cellsOf?_imm, cellsOf?_ref, cellsOf?_nils, faddr_iptr, faddr_ptr, List.drop_succ_cons, List.drop_zero, List.take_succ_cons, List.take_zero, load1_iptr, loadN_iptr, List.length_cons, List.length_nil, Nat.le_refl, if_true, List.getElem?_cons_zero, List.getElem?_cons_succ, List.getD_cons_zero, List.getD_cons_succ, extrF_tup, binF_add, binF_sub, binF_mul, binF_eql, binF_neq, binF_lss, binF_leq, binF_gtr, binF_geq, true_and]
      refine c46 (p := fun l => decide (l.getD r 0 = (c : Int)) && decide (0 < prodZ t l l.length)) (RT.tl _ _) hPL (fun l hl a ha K hK => ?_) ?_
      · obtain ⟨q1, q2⟩ := hfit hev.sq l hl
        exact c47 ha h11d h12 h3d (RT.tl _ _) (by omega) (by omega) (by omega) (fun r c => by have := cell_rng hchk r c; omega) q2 hK
      have hany : ((plansS n).map up).any (fun l => decide (l.getD r 0 = (c : Int)) && decide (0 < prodZ t l l.length)) = decide (0 < cell t r c) := by
        rw [Bool.eq_iff_iff, List.any_eq_true, decide_eq_true_iff, ← through hev a1 b1]
        constructor
        · rintro ⟨l, hl, h⟩
          obtain ⟨p, hp, rfl⟩ := List.mem_map.1 hl
          rw [Bool.and_eq_true, decide_eq_true_iff, decide_eq_true_iff, up_length, (hPm p hp).1, up_getD, hpos hchk hlen p hp] at h
          refine ⟨p, hp, by omega, ?_⟩
          have hw : p ∈ withinS t := List.mem_filter.2 ⟨by rw [hlen]; exact hp, decide_eq_true (by rw [hlen]; exact h.2)⟩
          have := (within_pos hw).2
          rw [hlen] at this
          exact this
        · rintro ⟨p, hp, h1, h2⟩
          refine ⟨up p, List.mem_map.2 ⟨p, hp, rfl⟩, ?_⟩
          rw [Bool.and_eq_true, decide_eq_true_iff, decide_eq_true_iff, up_length, (hPm p hp).1, up_getD, hpos hchk hlen p hp]
          have hw := mem_within hchk (p := p) (by rw [hlen]; exact hp) (by rw [hlen]; exact h2)
          have := of_decide_eq_true (List.mem_filter.1 hw).2
          rw [hlen] at this
          exact ⟨by omega, this⟩
      rw [hany]
      simp only [letO_some, cellsOf?_agg, cellsOf?_int, cellsOf?_bool, cellsOf?_imm, cellsOf?_ref, cellsOf?_nils, faddr_iptr, faddr_ptr, List.drop_succ_cons, List.drop_zero, List.take_succ_cons, List.take_zero, load1_iptr, loadN_iptr, List.length_cons, List.length_nil, Nat.le_refl, if_true, List.getElem?_cons_zero, List.getElem?_cons_succ, List.getD_cons_zero, List.getD_cons_succ, extrF_tup, binF_add, binF_sub, binF_mul, binF_eql, binF_neq, binF_lss, binF_leq, binF_gtr, binF_geq, true_and, l3 (Heap.le_trans hlb hld), load_cell h11d]
      refine (RT.tl Hd t).get (Heap.le_refl _) (by omega) (by omega) fun a ha => ?_
      rw [Int.toNat_natCast, show t.getD r [] = row t r from rfl] at ha
      simp only [letO_some, cellsOf?_agg, cellsOf?_int, cellsOf?_bool, cellsOf?_imm, cellsOf?_ref, cellsOf?_nils, faddr_iptr, faddr_ptr, List.drop_succ_cons, List.drop_zero, List.take_succ_cons, List.take_zero, load1_iptr, loadN_iptr, List.length_cons, List.length_nil, Nat.le_refl, if_true, List.getElem?_cons_zero, List.getElem?_cons_succ, List.getD_cons_zero, List.getD_cons_succ, extrF_tup, binF_add, binF_sub, binF_mul, binF_eql, binF_neq, binF_lss, binF_leq, binF_gtr, binF_geq, true_and, load_cell h12]
      refine ha.get (Heap.le_refl _) (by omega) (by rw [hev.sq.rowl r a1]; omega) ?_
      rw [Int.toNat_natCast, show (row t r).getD c 0 = cell t r c from rfl]
      simp only [letO_some, cellsOf?_agg, cellsOf?_int, cellsOf?_bool, cellsOf?_imm, cellsOf?_ref, cellsOf?_nils, faddr_iptr, faddr_ptr, List.drop_succ_cons, List.drop_zero, List.take_succ_cons, List.take_zero, load1_iptr, loadN_iptr, List.length_cons, List.length_nil, Nat.le_refl, if_true, List.getElem?_cons_zero, List.getElem?_cons_succ, List.getD_cons_zero, List.getD_cons_succ, extrF_tup, binF_add, binF_sub, binF_mul, binF_eql, binF_neq, binF_lss, binF_leq, binF_gtr, binF_geq, true_and, neqB, bne_self_eq_false, gval_bool, Int.reduceBNe, Int.reduceBEq, pickF_true, pickF_false, reduceIte, Bool.true_eq_false, Bool.false_eq_true, if_false, condA_tt, condA_ff, condG_tt, condG_ff, condG_tt', condG_ff', condG_undef, gval_undef]
      rw [wrap_i64 (by omega) (by omega)]
      exact ⟨⟨c + 1, rfl, by omega, hld⟩, by simp <;> omega⟩
    · rw [wrap_i64 (by omega) (by omega)]
      exact ⟨⟨r + 1, rfl, by omega, Heap.le_trans hlb hlc⟩, by simp <;> omega⟩
  clear hge hr
  refine c49 ⟨hb.1, by omega⟩ fun bo cells Hb hP0 => ?_
  refine alloc_store (cs := [.ref 1 bo 0 n none]) rfl rfl rfl rfl fun b14 hb14 => ?_
  have hP7 := PT.rebase (c := [.ref 1 bo 0 n none]) hP0 (Heap.le_refl _) hP0.le hP0.out (fun _ _ h _ => h) hb14
  have h14 : (Ha.put b14 [.ref 1 bo 0 n none]) b14 = some [.ref 1 bo 0 n none] := Heap.put_same
  have hb14' := none_of_le hP0.le hb14
  have hlB := Heap.le_trans hla (Heap.le_new (c := [.ref 1 bo 0 n none]) hb14')
  clear hP0
  generalize Hb.put b14 [.ref 1 bo 0 n none] = Hc at *
  generalize Ha.put b14 [.ref 1 bo 0 n none] = B at *
  rw [← hlen, ← cpT_zero] at hP7
  try simp only [letO_some, cellsOf?_agg, cellsOf?_int, cellsOf?_bool, cellsOf?_imm, cellsOf?_ref, cellsOf?_nils, faddr_iptr, faddr_ptr, List.drop_succ_cons, List.drop_zero, List.take_succ_cons, List.take_zero, load1_iptr, loadN_iptr, List.length_cons, List.length_nil, Nat.le_refl, if_true, List.getElem?_cons_zero, List.getElem?_cons_succ, List.getD_cons_zero, List.getD_cons_succ, extrF_tup, binF_add, binF_sub, binF_mul, binF_eql, binF_neq, binF_lss, binF_leq, binF_gtr, binF_geq, true_and]
  refine ⟨fun L H' => ∃ i : Nat, eqt L [.int .i64 i] ∧ i ≤ n ∧ PT B H' bo cells (cpT t i), fun L _ => (n - iv L 0).toNat, ⟨0, rfl, by omega, hP7⟩, ?_⟩
  rintro L H' ⟨i, rfl, hi, hP⟩
  try simp only [letO_some, cellsOf?_agg, cellsOf?_int, cellsOf?_bool, cellsOf?_imm, cellsOf?_ref, cellsOf?_nils, faddr_iptr, faddr_ptr, List.drop_succ_cons, List.drop_zero, List.take_succ_cons, List.take_zero, load1_iptr, loadN_iptr, List.length_cons, List.length_nil, Nat.le_refl, if_true, List.getElem?_cons_zero, List.getElem?_cons_succ, List.getD_cons_zero, List.getD_cons_succ, extrF_tup, binF_add, binF_sub, binF_mul, binF_eql, binF_neq, binF_lss, binF_leq, binF_gtr, binF_geq, true_and]
  refine condA_t (fun hlt => ?_) (fun hge => ?_)
  · have a1 : i < n := by omega
    have hgi : (cpT t i).getD i [] = List.replicate n 0 := by rw [cpT_get (by omega), if_neg (by omega), hlen]
    obtain ⟨d, hd, hcp⟩ := hP.copy (r := i) (by rw [cpT_length]; omega) (by rw [hgi]; intro h; have := congrArg List.length h; simp at this; omega)
    simp only [load_cell (hP.le _ _ h14), letO_some]
    rw [idx_ref a1]
    simp only [letO_some, hd, l3 (Heap.le_trans hlB hP.le)]
    refine (RT.tl H' t).get (Heap.le_refl _) (by omega) (by omega) fun a ha => ?_
    rw [Int.toNat_natCast] at ha
    refine hcp a _ _ ha (by rw [hgi, show t.getD i [] = row t i from rfl, hev.sq.rowl i a1]; simp) fun H'' hP' => ?_
    rw [show t.getD i [] = row t i from rfl, cpT_step (by omega)] at hP'
    try simp only [letO_some, cellsOf?_agg, cellsOf?_int, cellsOf?_bool, cellsOf?_imm, cellsOf?_ref, cellsOf?_nils, faddr_iptr, faddr_ptr, List.drop_succ_cons, List.drop_zero, List.take_succ_cons, List.take_zero, load1_iptr, loadN_iptr, List.length_cons, List.length_nil, Nat.le_refl, if_true, List.getElem?_cons_zero, List.getElem?_cons_succ, List.getD_cons_zero, List.getD_cons_succ, extrF_tup, binF_add, binF_sub, binF_mul, binF_eql, binF_neq, binF_lss, binF_leq, binF_gtr, binF_geq, true_and]
    rw [wrap_i64 (by omega) (by omega)]
    exact ⟨⟨i + 1, rfl, by omega, hP'⟩, by simp <;> omega⟩
  have hie : i = n := by omega
  subst hie
  have hcpe : cpT t i = t := by rw [← hlen]; exact cpT_end t
  rw [hcpe] at hP
  clear hP7 hcpe hge hi
  -- the shares
  try simp only [letO_some, cellsOf?_agg, cellsOf?_int, cellsOf?_bool, cellsOf?_imm, cellsOf?_ref, cellsOf?_nils, faddr_iptr, faddr_ptr, List.drop_succ_cons, List.drop_zero, List.take_succ_cons, List.take_zero, load1_iptr, loadN_iptr, List.length_cons, List.length_nil, Nat.le_refl, if_true, List.getElem?_cons_zero, List.getElem?_cons_succ, List.getD_cons_zero, List.getD_cons_succ, extrF_tup, binF_add, binF_sub, binF_mul, binF_eql, binF_neq, binF_lss, binF_leq, binF_gtr, binF_geq, true_and, hSL]
  refine ⟨fun L H' => ∃ (j f : Nat) (x s' : Int) (left : Tb), eqt L [.int .i64 x, .int .i64 j] ∧ j ≤ S.length ∧ PT B H' bo cells left ∧ EvT i s' left ∧ tsum left ≤ f ∧ splitF f left = S.drop j ∧ x + s' = k ∧ 0 ≤ x, fun L _ => (S.length - iv L 1).toNat,
    ⟨0, F, 0, k, t, rfl, by omega, hP, hev, htf, by rw [hS]; rfl, by omega, by omega⟩, ?_⟩
  rintro L H1 ⟨j, f, x, s', left, rfl, hj, hP, hel, hlf, hsp, hxs, hx0⟩
  try simp only [letO_some, cellsOf?_agg, cellsOf?_int, cellsOf?_bool, cellsOf?_imm, cellsOf?_ref, cellsOf?_nils, faddr_iptr, faddr_ptr, List.drop_succ_cons, List.drop_zero, List.take_succ_cons, List.take_zero, load1_iptr, loadN_iptr, List.length_cons, List.length_nil, Nat.le_refl, if_true, List.getElem?_cons_zero, List.getElem?_cons_succ, List.getD_cons_zero, List.getD_cons_succ, extrF_tup, binF_add, binF_sub, binF_mul, binF_eql, binF_neq, binF_lss, binF_leq, binF_gtr, binF_geq, true_and]
  refine condA_t (fun hlt => ?_) (fun hge => ?_)
  · have a1 : j < S.length := by omega
    rw [List.drop_eq_getElem_cons a1] at hsp
    rcases split_step hel hlf with ⟨h1, _⟩ | ⟨f', p, rr, y, hg, hw, hy, hy0, hs, hts, hp, hev2⟩
    · rw [h1] at hsp; cases hsp
    rw [hs] at hsp
    obtain ⟨hsj, hrest⟩ := List.cons.inj hsp
    have hxS : S[j]? = some (p, y) := by rw [List.getElem?_eq_getElem a1, ← hsj]
    have hpl := hPm p hp
    have hlc := hel.chk
    have hRS : ReadsC 2 H1 (.imm S.length false (S.flatMap shC)) S.length (S.flatMap shC) := ⟨by rw [rows_len shC_len], by simp, rfl⟩
    refine hRS.getN (Heap.le_refl _) (by omega) (by omega) ?_
    rw [Int.toNat_natCast, rows_get shC_len hxS]
    refine alloc_store (cs := [sl (up p), .int .i64 y]) rfl rfl rfl rfl fun b18 hb18 => ?_
    have hPx := PT.rebase (c := [sl (up p), .int .i64 y]) hP (Heap.le_refl _) hP.le hP.out (fun _ _ h _ => h) hb18
    have hb18' := none_of_le hP.le hb18
    have hlx := Heap.le_new (c := [sl (up p), .int .i64 y]) hb18'
    have h18 : (B.put b18 [sl (up p), .int .i64 y]) b18 = some [sl (up p), .int .i64 y] := Heap.put_same
    generalize H1.put b18 [sl (up p), .int .i64 y] = H2' at *
    generalize B.put b18 [sl (up p), .int .i64 y] = Bx at *
    have l180 : ∀ {H'}, Bx.le H' → load1 (.ptr b18 0) H' = some (sl (up p)) := fun h => load_off (h _ _ h18) rfl
    have l181 : ∀ {H'}, Bx.le H' → load1 (.ptr b18 1) H' = some (.int .i64 y) := fun h => load_off (h _ _ h18) rfl
    have l14 : ∀ {H'}, Bx.le H' → load1 (.ptr b14 0) H' = some (.ref 1 bo 0 i none) := fun h => load_cell (h _ _ (hlx _ _ h14))
    have f0 : faddr 0 (.ptr b18 0) = some (.ptr b18 0) := rfl
    have f1 : faddr 1 (.ptr b18 0) = some (.ptr b18 1) := rfl
    have hRL := hPx.rt none
    rw [hel.len] at hRL
    try simp only [letO_some, cellsOf?_agg, cellsOf?_int, cellsOf?_bool, cellsOf?_imm, cellsOf?_ref, cellsOf?_nils, faddr_iptr, faddr_ptr, List.drop_succ_cons, List.drop_zero, List.take_succ_cons, List.take_zero, load1_iptr, loadN_iptr, List.length_cons, List.length_nil, Nat.le_refl, if_true, List.getElem?_cons_zero, List.getElem?_cons_succ, List.getD_cons_zero, List.getD_cons_succ, extrF_tup, binF_add, binF_sub, binF_mul, binF_eql, binF_neq, binF_lss, binF_leq, binF_gtr, binF_geq, true_and]
    refine c50 (p := fun l => decide (0 < prodZ left l l.length)) (RT.tl _ _) hPL (fun l hl a ha K hK => ?_) fun q hq => ?_
    · obtain ⟨q1, q2⟩ := hfit hel.sq l hl
      exact c51 ha (hPx.le _ _ (hlx _ _ h14)) hRL (by rw [hel.len]; omega) (by omega) (fun r c => by have := cell_rng hlc r c; omega) q2 hK
    have hleast : (p ∈ withinS left) := by rw [hw]; simp
    have hpp : 0 < prodZ left (up p) i := (hpos hlc hel.len p hp).2 (by have := of_decide_eq_true (List.mem_filter.1 hleast).2; rwa [hel.len] at this)
    obtain ⟨k', rfl, hk', hkp⟩ : ∃ k' : Nat, q = k' ∧ k' < (plansS i).length ∧ ((plansS i).map up)[k']? = some (up p) := by
      rcases hq with ⟨_, h⟩ | ⟨k', rfl, h1, h2, h3⟩
      · have := any_false h (List.mem_map.2 ⟨p, hp, rfl⟩)
        simp only [up_length, hpl.1, decide_eq_false_iff_not] at this
        exact absurd hpp this
      · rw [List.length_map] at h1
        have e1 : ((plansS i).map up).getD k' [] = up ((plansS i).getD k' []) := by simp [List.getD_eq_getElem?_getD, h1]
        have h4 : ∀ p' ∈ plansS i, decide (0 < prodZ left (up p') (up p').length) = decide (0 < leastK left (up p') i) := fun p' hp' => by
          rw [up_length, (hPm p' hp').1, decide_eq_decide]; exact hpos hlc hel.len p' hp'
        have hwf : (plansS i).filter (fun p => decide (0 < leastK left (up p) i)) = p :: rr := by rw [← hw]; unfold withinS; rw [hel.len]
        have hm : (plansS i).getD k' [] ∈ plansS i := getD_mem h1
        have h5 := first_at (d := []) hwf h1 (by rw [← h4 _ hm, ← e1]; exact h2) (by
          rw [List.any_eq_false]
          intro p' hp' hpt
          have hp2 := List.mem_of_mem_take hp'
          have := any_false h3 (x := up p') (by rw [← List.map_take]; exact List.mem_map.2 ⟨p', hp', rfl⟩)
          rw [h4 p' hp2, hpt] at this
          cases this)
        refine ⟨k', rfl, h1, ?_⟩
        rw [List.getElem?_map, List.getElem?_eq_getElem h1]
        rw [List.getD_eq_getElem?_getD, List.getElem?_eq_getElem h1] at h5
        simp only [Option.getD_some] at h5
        rw [h5]; rfl
    have e117 : decide ((k' : Int) < 0) = false := decide_eq_false (by omega)
    have hgp : ∀ {H' : Heap} (kk : AV → Prop), kk (sl (up p)) → letO (idx 1 (tl ((plansS i).map up)) (.int .i64 (k' : Int))) fun q => letO (load1 q H') kk := by
      intro H' kk hkk
      refine ReadsC.get (Heap.le_refl H') (n := (plansS i).length) (cells := ((plansS i).map up).map sl) ⟨by simp, by simp [tl]⟩ (x := sl (up p)) (by omega) (by omega) ?_ hkk
      rw [Int.toNat_natCast, List.getElem?_map, hkp]; rfl
    simp only [letO_some, cellsOf?_agg, cellsOf?_int, cellsOf?_bool, cellsOf?_imm, cellsOf?_ref, cellsOf?_nils, faddr_iptr, faddr_ptr, List.drop_succ_cons, List.drop_zero, List.take_succ_cons, List.take_zero, load1_iptr, loadN_iptr, List.length_cons, List.length_nil, Nat.le_refl, if_true, List.getElem?_cons_zero, List.getElem?_cons_succ, List.getD_cons_zero, List.getD_cons_succ, extrF_tup, binF_add, binF_sub, binF_mul, binF_eql, binF_neq, binF_lss, binF_leq, binF_gtr, binF_geq, true_and, e117, gval_bool, Int.reduceBNe, Int.reduceBEq, pickF_true, pickF_false, reduceIte, Bool.true_eq_false, Bool.false_eq_true, if_false, condA_tt, condA_ff, condG_tt, condG_ff, condG_tt', condG_ff', condG_undef, gval_undef, f0, l180 hPx.le]
    refine hgp _ ?_
    refine exJ ?_
    refine c24 (Reads.sl _ _) (Reads.sl _ _) (by rw [up_length, hpl.1]; omega) ?_
    have hlenp : lenA (sl (up p)) = some (.int .i64 (i : Int)) := by rw [(Reads.sl Heap.none _).len, up_length, hpl.1]
    simp only [decide_true, not_v, Bool.not_true, letO_some, cellsOf?_agg, cellsOf?_int, cellsOf?_bool, cellsOf?_imm, cellsOf?_ref, cellsOf?_nils, faddr_iptr, faddr_ptr, List.drop_succ_cons, List.drop_zero, List.take_succ_cons, List.take_zero, load1_iptr, loadN_iptr, List.length_cons, List.length_nil, Nat.le_refl, if_true, List.getElem?_cons_zero, List.getElem?_cons_succ, List.getD_cons_zero, List.getD_cons_succ, extrF_tup, binF_add, binF_sub, binF_mul, binF_eql, binF_neq, binF_lss, binF_leq, binF_gtr, binF_geq, true_and, gval_bool, Int.reduceBNe, Int.reduceBEq, pickF_true, pickF_false, reduceIte, Bool.true_eq_false, Bool.false_eq_true, if_false, condA_tt, condA_ff, condG_tt, condG_ff, condG_tt', condG_ff', condG_undef, gval_undef, f0, f1, l180 hPx.le, hlenp]
    -- the smallest number
    refine ⟨fun L H' => ∃ m : Nat, eqt L [.int .i64 (lowK left p m), .int .i64 m] ∧ m ≤ i ∧ eqt H' H2', fun L _ => (i - iv L 1).toNat, ⟨0, rfl, by omega, rfl⟩, ?_⟩
    rintro L H3 ⟨m, rfl, hm, rfl⟩
    try simp only [letO_some, cellsOf?_agg, cellsOf?_int, cellsOf?_bool, cellsOf?_imm, cellsOf?_ref, cellsOf?_nils, faddr_iptr, faddr_ptr, List.drop_succ_cons, List.drop_zero, List.take_succ_cons, List.take_zero, load1_iptr, loadN_iptr, List.length_cons, List.length_nil, Nat.le_refl, if_true, List.getElem?_cons_zero, List.getElem?_cons_succ, List.getD_cons_zero, List.getD_cons_succ, extrF_tup, binF_add, binF_sub, binF_mul, binF_eql, binF_neq, binF_lss, binF_leq, binF_gtr, binF_geq, true_and]
    refine condA_t (fun hltm => ?_) (fun hgem => ?_)
    · have b1 : m < i := by omega
      refine (Reads.sl H3 (up p)).get (Heap.le_refl _) (by omega) (by rw [up_length, hpl.1]; omega) ?_
      rw [Int.toNat_natCast, up_getD]
      have hpc : p.getD m 0 < i := hpl.2 _ (getD_mem (by rw [hpl.1]; exact b1))
      simp only [letO_some, cellsOf?_agg, cellsOf?_int, cellsOf?_bool, cellsOf?_imm, cellsOf?_ref, cellsOf?_nils, faddr_iptr, faddr_ptr, List.drop_succ_cons, List.drop_zero, List.take_succ_cons, List.take_zero, load1_iptr, loadN_iptr, List.length_cons, List.length_nil, Nat.le_refl, if_true, List.getElem?_cons_zero, List.getElem?_cons_succ, List.getD_cons_zero, List.getD_cons_succ, extrF_tup, binF_add, binF_sub, binF_mul, binF_eql, binF_neq, binF_lss, binF_leq, binF_gtr, binF_geq, true_and, l14 hPx.le]
      refine hRL.get (Heap.le_refl _) (by omega) (by rw [hel.len]; omega) fun a ha => ?_
      rw [Int.toNat_natCast, show left.getD m [] = row left m from rfl] at ha
      try simp only [letO_some, cellsOf?_agg, cellsOf?_int, cellsOf?_bool, cellsOf?_imm, cellsOf?_ref, cellsOf?_nils, faddr_iptr, faddr_ptr, List.drop_succ_cons, List.drop_zero, List.take_succ_cons, List.take_zero, load1_iptr, loadN_iptr, List.length_cons, List.length_nil, Nat.le_refl, if_true, List.getElem?_cons_zero, List.getElem?_cons_succ, List.getD_cons_zero, List.getD_cons_succ, extrF_tup, binF_add, binF_sub, binF_mul, binF_eql, binF_neq, binF_lss, binF_leq, binF_gtr, binF_geq, true_and]
      refine ha.get (Heap.le_refl _) (by omega) (by rw [hel.sq.rowl m b1]; omega) ?_
      rw [Int.toNat_natCast, show (row left m).getD (p.getD m 0) 0 = cell left m (p.getD m 0) from rfl]
      have hmin : min2F (.int .i64 (lowK left p m)) (.int .i64 (cell left m (p.getD m 0))) = some (.int .i64 (lowK left p (m + 1))) := by
        rw [lowK_succ hlc]; rfl
      simp only [letO_some, cellsOf?_agg, cellsOf?_int, cellsOf?_bool, cellsOf?_imm, cellsOf?_ref, cellsOf?_nils, faddr_iptr, faddr_ptr, List.drop_succ_cons, List.drop_zero, List.take_succ_cons, List.take_zero, load1_iptr, loadN_iptr, List.length_cons, List.length_nil, Nat.le_refl, if_true, List.getElem?_cons_zero, List.getElem?_cons_succ, List.getD_cons_zero, List.getD_cons_succ, extrF_tup, binF_add, binF_sub, binF_mul, binF_eql, binF_neq, binF_lss, binF_leq, binF_gtr, binF_geq, true_and, hmin]
      rw [wrap_i64 (by omega) (by omega)]
      exact ⟨⟨m + 1, rfl, by omega, rfl⟩, by simp <;> omega⟩
    have hme : m = i := by omega
    subst hme
    have hlow : lowK left p m = y := by rw [hy, lowK, if_neg (by omega)]
    rw [hlow]
    obtain ⟨fl', hsc⟩ := slcS (S := S) (fl := false) (k := j) (by omega)
    simp only [letO_some, cellsOf?_agg, cellsOf?_int, cellsOf?_bool, cellsOf?_imm, cellsOf?_ref, cellsOf?_nils, faddr_iptr, faddr_ptr, List.drop_succ_cons, List.drop_zero, List.take_succ_cons, List.take_zero, load1_iptr, loadN_iptr, List.length_cons, List.length_nil, Nat.le_refl, if_true, List.getElem?_cons_zero, List.getElem?_cons_succ, List.getD_cons_zero, List.getD_cons_succ, extrF_tup, binF_add, binF_sub, binF_mul, binF_eql, binF_neq, binF_lss, binF_leq, binF_gtr, binF_geq, true_and, f1, l181 hPx.le, bne_self_eq_false, gval_bool, Int.reduceBNe, Int.reduceBEq, pickF_true, pickF_false, reduceIte, Bool.true_eq_false, Bool.false_eq_true, if_false, condA_tt, condA_ff, condG_tt, condG_ff, condG_tt', condG_ff', condG_undef, gval_undef, hsc]
    refine exJ ?_
    have hRS2 := RS.of H3 (S.take j)
    rw [List.length_take, show min j S.length = j by omega] at hRS2
    have hRS3 : RS H3 (.imm j fl' ((S.take j).flatMap shC)) ((S.take j).map fun s => (up s.1, s.2)) := by
      obtain ⟨cc, q1, q2⟩ := hRS2
      refine ⟨cc, ⟨q1.1, ?_⟩, q2⟩
      obtain ⟨z1, z2⟩ := q1.2
      exact ⟨z1, z2⟩
    refine c52 (p := fun s => decide (s.1 = up p)) hRS3 (by simp; omega) (fun s hs a ha K hK => ?_) ?_
    · obtain ⟨s0, hs0, rfl⟩ := List.mem_map.1 hs
      have : s0 ∈ splitF F t := by rw [hS]; exact List.mem_of_mem_take hs0
      have h10 := (split_rng F hev htf s0 this).1
      exact c53 ha (hPx.le _ _ h18) (Reads.sl _ _) (by rw [up_length, (plansS_mem h10).1]; omega) hK
    have hdis : ((S.take j).map fun s => (up s.1, s.2)).any (fun s => decide (s.1 = up p)) = false := by
      rw [List.any_eq_false]
      intro s hs
      obtain ⟨s0, hs0, rfl⟩ := List.mem_map.1 hs
      simp only [decide_eq_true_eq]
      intro he
      have he2 : s0.1 = p := by
        have := congrArg (List.map Int.toNat) he
        simpa [up, Function.comp_def] using this
      have hpw := hS2
      rw [← List.take_append_drop j S, List.map_append, List.pairwise_append] at hpw
      refine hpw.2.2 s0.1 (List.mem_map.2 ⟨s0, hs0, rfl⟩) p (List.mem_map.2 ⟨(p, y), ?_, rfl⟩) he2
      rw [List.drop_eq_getElem_cons a1, ← hsj]; simp
    rw [hdis]
    simp only [letO_some, cellsOf?_agg, cellsOf?_int, cellsOf?_bool, cellsOf?_imm, cellsOf?_ref, cellsOf?_nils, faddr_iptr, faddr_ptr, List.drop_succ_cons, List.drop_zero, List.take_succ_cons, List.take_zero, load1_iptr, loadN_iptr, List.length_cons, List.length_nil, Nat.le_refl, if_true, List.getElem?_cons_zero, List.getElem?_cons_succ, List.getD_cons_zero, List.getD_cons_succ, extrF_tup, binF_add, binF_sub, binF_mul, binF_eql, binF_neq, binF_lss, binF_leq, binF_gtr, binF_geq, true_and, gval_bool, Int.reduceBNe, Int.reduceBEq, pickF_true, pickF_false, reduceIte, Bool.true_eq_false, Bool.false_eq_true, if_false, condA_tt, condA_ff, condG_tt, condG_ff, condG_tt', condG_ff', condG_undef, gval_undef, f0, l180 hPx.le, hlenp]
    have hfk := hel.sq.fit hpl
    refine ⟨fun L H' => ∃ r : Nat, eqt L [.int .i64 r] ∧ r ≤ m ∧ PT Bx H' bo cells (takeK left (up p) y r), fun L _ => (m - iv L 0).toNat, ⟨0, rfl, by omega, by rw [takeK_zero]; exact hPx⟩, ?_⟩
    rintro L H4 ⟨r, rfl, hr, hPj⟩
    try simp only [letO_some, cellsOf?_agg, cellsOf?_int, cellsOf?_bool, cellsOf?_imm, cellsOf?_ref, cellsOf?_nils, faddr_iptr, faddr_ptr, List.drop_succ_cons, List.drop_zero, List.take_succ_cons, List.take_zero, load1_iptr, loadN_iptr, List.length_cons, List.length_nil, Nat.le_refl, if_true, List.getElem?_cons_zero, List.getElem?_cons_succ, List.getD_cons_zero, List.getD_cons_succ, extrF_tup, binF_add, binF_sub, binF_mul, binF_eql, binF_neq, binF_lss, binF_leq, binF_gtr, binF_geq, true_and]
    refine condA_t (fun hltj => ?_) (fun hgej => ?_)
    · have b2 : r < m := by omega
      have hjl : r < left.length := by rw [hel.len]; omega
      refine (Reads.sl H4 (up p)).get (Heap.le_refl _) (by omega) (by rw [up_length, hpl.1]; omega) ?_
      rw [Int.toNat_natCast, up_getD]
      simp only [letO_some, cellsOf?_agg, cellsOf?_int, cellsOf?_bool, cellsOf?_imm, cellsOf?_ref, cellsOf?_nils, faddr_iptr, faddr_ptr, List.drop_succ_cons, List.drop_zero, List.take_succ_cons, List.take_zero, load1_iptr, loadN_iptr, List.length_cons, List.length_nil, Nat.le_refl, if_true, List.getElem?_cons_zero, List.getElem?_cons_succ, List.getD_cons_zero, List.getD_cons_succ, extrF_tup, binF_add, binF_sub, binF_mul, binF_eql, binF_neq, binF_lss, binF_leq, binF_gtr, binF_geq, true_and, l14 hPj.le]
      have hfj := hfk.2 r (by rw [up_length, hpl.1]; exact b2)
      rw [up_getN] at hfj
      have hrow : (takeK left (up p) y r).getD r [] = row left r := by rw [takeK_get hjl, if_neg (by omega)]
      obtain ⟨w, q, q1, q2, q3, q4, q5⟩ := PT.cell none hPj (r := r) (c := p.getD r 0) (by simpa using hjl) (by rw [hrow]; exact hfj.2)
      rw [takeK_length, hel.len] at q1
      rw [hrow] at q4 q5
      rw [show (row left r).getD (p.getD r 0) 0 = cell left r (p.getD r 0) from rfl] at q4
      have hcb := cell_rng hlc r (p.getD r 0)
      have hyb : y ≤ cell left r (p.getD r 0) := by rw [hy]; have := leastK_le (t := left) (p := up p) m r b2; rwa [up_getN] at this
      simp only [q1, q2, q3, q4, letO_some, cellsOf?_agg, cellsOf?_int, cellsOf?_bool, cellsOf?_imm, cellsOf?_ref, cellsOf?_nils, faddr_iptr, faddr_ptr, List.drop_succ_cons, List.drop_zero, List.take_succ_cons, List.take_zero, load1_iptr, loadN_iptr, List.length_cons, List.length_nil, Nat.le_refl, if_true, List.getElem?_cons_zero, List.getElem?_cons_succ, List.getD_cons_zero, List.getD_cons_succ, extrF_tup, binF_add, binF_sub, binF_mul, binF_eql, binF_neq, binF_lss, binF_leq, binF_gtr, binF_geq, true_and, f1, l181 hPj.le]
      rw [wrap_i64 (n := cell left r (p.getD r 0) - y) (by omega) (by omega)]
      refine q5 _ _ fun H5 hP5 => ?_
      rw [wrap_i64 (by omega) (by omega)]
      refine ⟨⟨r + 1, rfl, by omega, ?_⟩, by simp <;> omega⟩
      have hst := takeK_step (t := left) (p := up p) (x := y) (i := r) hjl
      rw [up_getN] at hst
      rw [hst] at hP5
      exact hP5
    have hre : r = m := by omega
    subst hre
    rw [takeK_full (by rw [up_length, hpl.1])] at hPj
    have hb0 := hev2.pos
    simp only [letO_some, cellsOf?_agg, cellsOf?_int, cellsOf?_bool, cellsOf?_imm, cellsOf?_ref, cellsOf?_nils, faddr_iptr, faddr_ptr, List.drop_succ_cons, List.drop_zero, List.take_succ_cons, List.take_zero, load1_iptr, loadN_iptr, List.length_cons, List.length_nil, Nat.le_refl, if_true, List.getElem?_cons_zero, List.getElem?_cons_succ, List.getD_cons_zero, List.getD_cons_succ, extrF_tup, binF_add, binF_sub, binF_mul, binF_eql, binF_neq, binF_lss, binF_leq, binF_gtr, binF_geq, true_and, f1, l181 hPj.le]
    rw [wrap_i64 (n := x + y) (by omega) (by omega), wrap_i64 (by omega) (by omega)]
    exact ⟨⟨j + 1, f', x + y, s' - y, _, rfl, by omega, hPj.base hlx, hev2, hts, hrest, by omega, by omega⟩, by simp <;> omega⟩
  have hje : j = S.length := by omega
  subst hje
  rw [List.drop_length] at hsp
  have hs0 : s' = 0 := by
    rcases split_step hel hlf with ⟨_, h⟩ | ⟨f', p, rr, y, hg, hw, hy, hy0, hs, hts, hp, hev2⟩
    · exact h
    · rw [hs] at hsp; cases hsp
  subst hs0
  obtain rfl : x = k := by omega
  have hzero : left = zeroT i := hel.sq.ext (Sq.zero i) fun r c _ _ => by
    have q1 := hel.cell_le r c
    have q2 := (cell_rng hel.chk r c).1
    rw [zeroT_cell]; omega
  try simp only [letO_some, cellsOf?_agg, cellsOf?_int, cellsOf?_bool, cellsOf?_imm, cellsOf?_ref, cellsOf?_nils, faddr_iptr, faddr_ptr, List.drop_succ_cons, List.drop_zero, List.take_succ_cons, List.take_zero, load1_iptr, loadN_iptr, List.length_cons, List.length_nil, Nat.le_refl, if_true, List.getElem?_cons_zero, List.getElem?_cons_succ, List.getD_cons_zero, List.getD_cons_succ, extrF_tup, binF_add, binF_sub, binF_mul, binF_eql, binF_neq, binF_lss, binF_leq, binF_gtr, binF_geq, true_and]
  refine c42 (RS.of _ _) (by simp; omega) (fun s hs => by
    obtain ⟨s0, hs0, rfl⟩ := List.mem_map.1 hs
    have : s0 ∈ splitF F t := by rw [hS]; exact hs0
    have h10 := (split_rng F hev htf s0 this).1
    simp only [up_length, (plansS_mem h10).1]; omega) ?_
  rw [show (S.map fun s => (up s.1, s.2)) = shU S from rfl, hback]
  simp only [letO_some, cellsOf?_agg, cellsOf?_int, cellsOf?_bool, cellsOf?_imm, cellsOf?_ref, cellsOf?_nils, faddr_iptr, faddr_ptr, List.drop_succ_cons, List.drop_zero, List.take_succ_cons, List.take_zero, load1_iptr, loadN_iptr, List.length_cons, List.length_nil, Nat.le_refl, if_true, List.getElem?_cons_zero, List.getElem?_cons_succ, List.getD_cons_zero, List.getD_cons_succ, extrF_tup, binF_add, binF_sub, binF_mul, binF_eql, binF_neq, binF_lss, binF_leq, binF_gtr, binF_geq, true_and, l3 (Heap.le_trans hlB hP.le)]
  refine c34 (RT.tl _ _) (by omega) (hsl hchk) ?_
  have hbar := bar_even hev
  have hRL := hP.rt none
  rw [hel.len, hzero] at hRL
  have hzl : (zeroT i).length = i := by simp [zeroT]
  simp only [letO_some, cellsOf?_agg, cellsOf?_int, cellsOf?_bool, cellsOf?_imm, cellsOf?_ref, cellsOf?_nils, faddr_iptr, faddr_ptr, List.drop_succ_cons, List.drop_zero, List.take_succ_cons, List.take_zero, load1_iptr, loadN_iptr, List.length_cons, List.length_nil, Nat.le_refl, if_true, List.getElem?_cons_zero, List.getElem?_cons_succ, List.getD_cons_zero, List.getD_cons_succ, extrF_tup, binF_add, binF_sub, binF_mul, binF_eql, binF_neq, binF_lss, binF_leq, binF_gtr, binF_geq, true_and, gval_bool, Int.reduceBNe, Int.reduceBEq, pickF_true, pickF_false, reduceIte, Bool.true_eq_false, Bool.false_eq_true, if_false, condA_tt, condA_ff, condG_tt, condG_ff, condG_tt', condG_ff', condG_undef, gval_undef, beq_self_eq_true, load_cell (hP.le _ _ h14)]
  refine ⟨_, c49' ⟨hb.1, by omega⟩ ⟨rfl, rfl⟩, ?_⟩
  refine exJ ?_
  refine c29 hRL (RT.tl _ _) (by omega) (fun l hl => by rw [List.eq_of_mem_replicate hl]; simp; omega) ?_
  simp only [letO_some, cellsOf?_agg, cellsOf?_int, cellsOf?_bool, cellsOf?_imm, cellsOf?_ref, cellsOf?_nils, faddr_iptr, faddr_ptr, List.drop_succ_cons, List.drop_zero, List.take_succ_cons, List.take_zero, load1_iptr, loadN_iptr, List.length_cons, List.length_nil, Nat.le_refl, if_true, List.getElem?_cons_zero, List.getElem?_cons_succ, List.getD_cons_zero, List.getD_cons_succ, extrF_tup, binF_add, binF_sub, binF_mul, binF_eql, binF_neq, binF_lss, binF_leq, binF_gtr, binF_geq, true_and, gval_bool, Int.reduceBNe, Int.reduceBEq, pickF_true, pickF_false, reduceIte, Bool.true_eq_false, Bool.false_eq_true, if_false, condA_tt, condA_ff, condG_tt, condG_ff, condG_tt', condG_ff', condG_undef, gval_undef, decide_true, beq_self_eq_true, l3 (Heap.le_trans hlB hP.le)]
  refine exJ ?_
  refine c29 (RT.tl _ _) (RT.tl _ _) (by omega) (hsl hchk) ?_
  have hfin : ((((barO t).2.2 == 13) == decide ((0 : Int) < (k : Int)))) = true := by
    rw [beq_iff_eq, Bool.eq_iff_iff, beq_iff_eq, decide_eq_true_iff]
    exact hbar
  simp only [letO_some, cellsOf?_agg, cellsOf?_int, cellsOf?_bool, cellsOf?_imm, cellsOf?_ref, cellsOf?_nils, faddr_iptr, faddr_ptr, List.drop_succ_cons, List.drop_zero, List.take_succ_cons, List.take_zero, load1_iptr, loadN_iptr, List.length_cons, List.length_nil, Nat.le_refl, if_true, List.getElem?_cons_zero, List.getElem?_cons_succ, List.getD_cons_zero, List.getD_cons_succ, extrF_tup, binF_add, binF_sub, binF_mul, binF_eql, binF_neq, binF_lss, binF_leq, binF_gtr, binF_geq, true_and, gval_bool, Int.reduceBNe, Int.reduceBEq, pickF_true, pickF_false, reduceIte, Bool.true_eq_false, Bool.false_eq_true, if_false, condA_tt, condA_ff, condG_tt, condG_ff, condG_tt', condG_ff', condG_undef, gval_undef, decide_true, eqlB, hfin]
  refine exJ ?_
  refine c17 ?_
  try simp only [letO_some, cellsOf?_agg, cellsOf?_int, cellsOf?_bool, cellsOf?_imm, cellsOf?_ref, cellsOf?_nils, faddr_iptr, faddr_ptr, List.drop_succ_cons, List.drop_zero, List.take_succ_cons, List.take_zero, load1_iptr, loadN_iptr, List.length_cons, List.length_nil, Nat.le_refl, if_true, List.getElem?_cons_zero, List.getElem?_cons_succ, List.getD_cons_zero, List.getD_cons_succ, extrF_tup, binF_add, binF_sub, binF_mul, binF_eql, binF_neq, binF_lss, binF_leq, binF_gtr, binF_geq, true_and, gval_bool, Int.reduceBNe, Int.reduceBEq, pickF_true, pickF_false, reduceIte, Bool.true_eq_false, Bool.false_eq_true, if_false, condA_tt, condA_ff, condG_tt, condG_ff, condG_tt', condG_ff', condG_undef, gval_undef]
  exact endK_pub (Pub.drop (Heap.le_trans hle3 (Heap.le_trans hlB hP.le))) (endK_ret hk)
end Go.Proofs.YtbofkeoebnjjkaaDoor
namespace Go.Proofs.YtbofkeoebnjjkaaDoor.tableBirkhoff
open Go.Av Tab
theorem law {g : List Nat} (h0 : g.length = 27) (h1 : ∀ x ∈ g, x < 256) : ACalls Tryd.prog 7 [.agg (g.map fun (x : Nat) => .int .u8 (x : Int))] Heap.none fun r _ => r = .bool true :=
  c7 ⟨h0, h1⟩ rfl
end Go.Proofs.YtbofkeoebnjjkaaDoor.tableBirkhoff

/- From a walk to a tied row: what the listed variables hold. -/
set_option linter.unusedVariables false
namespace Go.Proofs.YtbofkeoebnjjkaaDoor
open Go.ChangeShapes Go.WideShapes Go.ChangeAt Go.RowKit Go.Av

theorem ownK : ownKnob Tryd.prog.godebug = none := by kernel_rfl
theorem laidOutK : laidOutB Tryd.prog = true := by kernel_rfl
theorem g64 : Tryd.prog.globalNamed "math/bits.deBruijn64tab" = some 1 := by kernel_rfl
theorem g64t : (Tryd.prog.globals[1]?).map (·.type) = some 123 := by kernel_rfl
theorem u123 : Tryd.prog.underlying 123 = some (.array 64 5) := by kernel_rfl
theorem u5 : Tryd.prog.underlying 5 = some (.int .u8) := by kernel_rfl
theorem k5 : Tryd.prog.cellsOf 5 = 1 := by kernel_rfl
theorem k123 : Tryd.prog.cellsOf 123 = 64 := by kernel_rfl
abbrev laidL : List (String × DataW Unit) := [("math/bits.deBruijn32tab", Rows.laid_math_bits_deBruijn32tab), ("math/bits.deBruijn64tab", Rows.laid_math_bits_deBruijn64tab)]
def vals64 : List Int := [0, 1, 56, 2, 57, 49, 28, 3, 61, 58, 42, 50, 38, 29, 17, 4, 62, 47, 59, 36, 45, 43, 51, 22, 53, 39, 33, 30, 24, 18, 12, 5, 63, 55, 48, 27, 60, 41, 37, 16, 46, 35, 44, 21, 52, 32, 23, 11, 54, 26, 40, 15, 34, 20, 31, 10, 25, 14, 19, 9, 13, 8, 7, 6]
theorem laid64 : (Rows.laid_math_bits_deBruijn64tab : DataW Unit) = .agg (vals64.map fun n => .lit (.int .u8 n)) := by rfl
theorem tz64_eq : tz64 = vals64.map (.int .u8) := by rfl
/-- WHAT THE CONDITION GIVES A WALK. -/
theorem glb_of_laid {W : World} (h : laidMetH Tryd.prog laidL W) : Glb Tryd.prog (E0 W) := by
  rw [MakeChecks.laidMetH_plain _ _ _ (by kernel_rfl)] at h
  obtain ⟨ps, h1, _⟩ := h
  obtain ⟨_, _, _, _, _, _, _, _, _, _, h2, _⟩ := h1
  obtain ⟨g, t, cs, fuel, p, q, e1, e2, e3, e4, _, _⟩ := h2
  obtain rfl : (1 : Nat) = g := Option.some.inj (g64.symm.trans e1)
  obtain rfl : 123 = t := Option.some.inj (g64t.symm.trans e2)
  intro g cells hg
  unfold globs at hg
  rw [g64] at hg
  split at hg
  · rename_i hh
    cases hh
    cases hg
    obtain ⟨xs, m, _, hx, hl, hxl, hel⟩ := DataW.trod_array u123 e4
    rw [k123] at hl
    have hcs : ∀ i, i < 64 → cs[i]? = some (.int .u8 (vals64.getD i 0)) := by
      intro i hi
      have h5 := hel i hi
      rw [k5, Nat.mul_one] at h5
      have hxi : xs[i]? = some xs[i] := by simp [hxl, hi]
      rw [hxi] at h5
      obtain ⟨n, hn, hx5, _⟩ := DataW.trod_int u5 h5
      have hval : n = vals64.getD i 0 := by
        have h6 : (xs.map (·.1))[i]? = some (DataW.lit (.int .u8 n)) := by
          rw [List.getElem?_map, hxi, hx5]; rfl
        have h7 : (xs.map (·.1)) = vals64.map fun n => DataW.lit (.int .u8 n) := by
          have := congrArg Prod.fst hx
          rw [laid64] at this
          injection this with this
          exact this.symm
        rw [h7, List.getElem?_map] at h6
        have h8 : vals64[i]? = some (vals64.getD i 0) := by
          have : i < vals64.length := hi
          rw [List.getD_eq_getElem?_getD, List.getElem?_eq_getElem this]; rfl
        rw [h8] at h6
        simp only [Option.map_some, Option.some.injEq, DataW.lit.injEq, Lit.int.injEq, true_and] at h6
        exact h6.symm
      have h9 : ((cs.toList.drop i).take 1)[0]? = some (.int .u8 n) := by rw [hn]; rfl
      rw [List.getElem?_take_of_lt (by omega), List.getElem?_drop, Nat.add_zero] at h9
      rw [← hval]
      simpa using h9
    -- the block
    have hblk : ∃ T fr, W.heap[1]? = some (.cells cs T fr) := by
      unfold World.var? at e3
      rw [g64] at e3
      simp only [Option.bind_some] at e3
      split at e3
      · rename_i c T fr hh
        cases e3
        exact ⟨T, fr, hh⟩
      · cases e3
    obtain ⟨T, fr, hblk⟩ := hblk
    refine Rep.iptr tz64 1 0 cs T fr (fun i => .int .u8 (vals64.getD i 0)) hblk (fun i hi => ?_) (fun i hi => ?_)
    · rw [Nat.zero_add]; exact hcs i hi
    · have h1 : i < vals64.length := hi
      have : tz64[i] = .int .u8 (vals64.getD i 0) := by
        have e : tz64[i]? = some (.int .u8 (vals64.getD i 0)) := by
          rw [tz64_eq, List.getElem?_map, List.getD_eq_getElem?_getD, List.getElem?_eq_getElem h1]; rfl
        rw [List.getElem?_eq_getElem hi] at e
        exact Option.some.inj e
      exact Eq.mpr (congrArg (fun z => Rep (E0 W) z (Value.int .u8 (vals64.getD i 0))) this) (Rep.int _ _)
  · cases hg
end Go.Proofs.YtbofkeoebnjjkaaDoor

/- A world that meets the condition; the row's builder. -/
set_option linter.unusedVariables false
namespace Go.Proofs.YtbofkeoebnjjkaaDoor
open Go.ChangeShapes Go.WideShapes Go.ChangeAt Go.RowKit Go.Av

def vals32 : List Int := [0, 1, 28, 2, 29, 14, 24, 3, 30, 22, 20, 15, 25, 17, 4, 8, 31, 27, 13, 23, 21, 19, 16, 7, 26, 12, 18, 6, 11, 5, 10, 9]
/-- A world that meets the condition: the settled one, the two tables laid. -/
noncomputable def laidWorld (os : Os) (blocks : Array Obj) : World :=
  let w0 := World.holding Tryd.prog os ⟨blocks, #[], []⟩
  { w0 with heap := (w0.heap.modify 0 fun
      | .cells _ t frozen => .cells (vals32.map (Value.int .u8)).toArray t frozen
      | o => o).modify 1 fun
      | .cells _ t frozen => .cells (vals64.map (Value.int .u8)).toArray t frozen
      | o => o }
set_option maxRecDepth 100000 in
theorem laidWorld_met0 (os : Os) (args : Array Value) : laidMetH Tryd.prog laidL ((laidWorld os #[]).forCall (fun _ _ => 0) ⟨#[], args, []⟩).memory :=
  laidMetH_of_parts (laidMet_of_run3 80 (by kernel_rfl) (by kernel_rfl) (by kernel_rfl)) (by kernel_rfl)
end Go.Proofs.YtbofkeoebnjjkaaDoor

/- MADE BY PROGRAM (rowt.py): the row and the tied card of TableBirkhoff. -/
namespace Go.Proofs.YtbofkeoebnjjkaaDoor.tableBirkhoff
open Go.ChangeShapes Go.WideShapes Go.ChangeAt Go.RowKit Go.Av
set_option linter.unusedVariables false

set_option maxRecDepth 100000 in
theorem lifted (os : Os) (started : os.Started) (H : Type) (enc : TypeId × Value → H) :
    ReturnsInHanded {} Tryd.checked os 7 .any (fun w args => (Rows.tableBirkhoffSpec.pre enc Tryd.prog Tryd.f7 [] false w args ∧ laidMetH Tryd.prog laidL w) ∧ sizedMet enc Tryd.prog Tryd.f7 (OpenSpec.ofChange Rows.tableBirkhoffSpec) false w args)
      (Rows.tableBirkhoffSpec.post enc Tryd.prog Tryd.f7 false true false false) := by
  refine returnsInHanded_of_change_and (C := Tryd.checked) (X := fun w _ => laidMetH Tryd.prog laidL w) (fun _ _ _ hh h => h.of_heap hh) ownK started (by kernel_rfl) Tryd.func7
    (ChangeSpec.witness_at (enc := enc) (C := Tryd.checked) (os := os) (X := fun w _ => laidMetH Tryd.prog laidL w) false (laidWorld os #[]) #[.agg #[.int .u8 0, .int .u8 0, .int .u8 0, .int .u8 0, .int .u8 0, .int .u8 0, .int .u8 0, .int .u8 0, .int .u8 0, .int .u8 0, .int .u8 0, .int .u8 0, .int .u8 0, .int .u8 0, .int .u8 0, .int .u8 0, .int .u8 0, .int .u8 0, .int .u8 0, .int .u8 0, .int .u8 0, .int .u8 0, .int .u8 0, .int .u8 0, .int .u8 0, .int .u8 0, .int .u8 0]] 8 rfl (by kernel_rfl) (by kernel_rfl) (by kernel_rfl) (by kernel_rfl) (by kernel_rfl) (laidWorld_met0 os _)) ?_
  intro W base args ds gs before hval0 hW hcnd _ hL _
  have hval : ∀ (j : Nat) t v, Tryd.f7.params[j]? = some t → args[j]? = some v → Value.okWide Tryd.prog W .any base t v := hval0
  have hW' := hW
  obtain ⟨p, q, hA0, hV, rfl, hfz, hnd⟩ := hW
  have hA : DataW.TrodAll enc Tryd.prog W 0 (fun _ => true) true Tryd.f7.params.toList args.toList ds p := hA0
  have hA1 := hA
  rw [Tryd.params7] at hA hval
  obtain ⟨rfl, rfl⟩ := trodVars_none hV
  clear hA0 hval0
  simp only [List.append_nil] at hW'
  have hlt : ∀ x ∈ p, x.block < W.heap.size := fun x hx => by simpa using hW'.lt x hx
  obtain ⟨v0, d0, rfl, rfl, h0⟩ := trodAll_one hA
  obtain ⟨g0, gl0, gx0, r0⟩ := rep_row (E := E0 W) (n := 27) (u := 5) (.inl ⟨_, Tryd.underlying57⟩) (by kernel_rfl) (by kernel_rfl) Tryd.underlying5 (hval 0 57 v0 rfl rfl)
  refine ((law gl0 gx0).2 (E0 W) W [v0] (glb_of_laid hL) (st0 W) (RepL.cons r0 (RepL.nil _))).mono ?_
  rintro e W' ⟨r, v, E', H', rfl, hr, _, hx, rfl⟩
  cases hr
  exact ⟨_, rfl, _, _, _, [], _, [], hW', trodAll_cons_mk (shut_bool Tryd.underlying4 _) trodAll_mk0, hx.trodAll laidOutK (by kernel_rfl) hA1 hlt, rfl, hx.kept _, fun h => by cases h⟩

theorem over : Rows.tableBirkhoffRow.holds Tryd.pinned (OpenSpec.ofChange Rows.tableBirkhoffSpec) :=
  OpenClaim.holds_of_wide 7 Tryd.f7 rfl rfl rfl rfl rfl rfl rfl ⟨rfl, rfl, rfl, rfl, rfl⟩ rfl rfl rfl rfl rfl (by kernel_rfl) Tryd.func7 (by kernel_rfl)
    (of_decide_eq_true (by kernel_rfl)) (by unfold Func.isWrapper; first | (rw [if_pos (by decide +kernel)]; kernel_rfl) | (rw [if_neg (by decide +kernel)]; exact ⟨rfl, rfl⟩))
    (fun os started H enc _ => lifted os started H enc)

theorem carded : Rows.TableBirkhoffCardSaid :=
  Claim7.holds_tied_plain_at .later [] [.data, .data] true (true, "29ac6a78e3fa4d425541ea16beb52bdc0cb68dcf07b6d1720047e0e447a29f7d") false
    over (fun _ h => by cases h) (by kernel_rfl) (fun _ h => by cases h) tableBirkhoff_row_tie rfl ⟨rfl, rfl⟩ (by kernel_rfl) rfl
    (fun f fn hf hfn => by
      obtain rfl : f = 7 := Option.some.inj ((show Tryd.prog.funcNamed "headword/headwordlaw11.TableBirkhoff" = some 7 by kernel_rfl).symm.trans hf) |>.symm
      obtain rfl : fn = Tryd.f7 := (Option.some.inj (Tryd.func7.symm.trans hfn)).symm
      exact ⟨by kernel_rfl, fun j t ht => by
        rw [Tryd.params7] at ht
        have hm := Array.mem_of_getElem? ht
        obtain rfl : t = 57 := by simpa using hm
        · exact (show Tryd.prog.wantsStandIn 57 = false by kernel_rfl)⟩)
    (by kernel_rfl)
#print axioms carded
end Go.Proofs.YtbofkeoebnjjkaaDoor.tableBirkhoff
