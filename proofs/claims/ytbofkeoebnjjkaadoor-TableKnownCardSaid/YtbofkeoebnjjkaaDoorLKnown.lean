import Derived.Test.YtbofkeoebnjjkaaDoorConB
import Derived.Test.YtbofkeoebnjjkaaDoorBase
import Derived.Test.YtbofkeoebnjjkaaDoorAvB
import Derived.Test.YtbofkeoebnjjkaaDoorRows
import Derived.MakeChecks
import Derived.LaidLaws
import Derived.Deep.DeepLaidRun
import Derived.LaidHandle
import Derived.Test.YtbofkeoebnjjkaaDoorTie
import Derived.Test.YtbofkeoebnjjkaaDoorCards
import Derived.SevenTiedAt
import Derived.Test.YtbofkeoebnjjkaaDoorLKnownW
/- TableKnown: for every input the law returns true, and the input reads as before. No conditions. -/
namespace Go.Proofs.YtbofkeoebnjjkaaDoor
open Go.Av Tab
set_option linter.unusedVariables false
set_option linter.unusedSimpArgs false
set_option maxRecDepth 4000

/-- empty -/
theorem c49 {n : Nat} {H : Heap} {K : AV → Heap → Prop} (hn : 1 ≤ n ∧ n ≤ 1000) (hk : ∀ bo cells H', PT H H' bo cells (zeroT n) → K (.ref 1 bo 0 n none) H') : ACalls Tryd.prog 49 [.int .i64 n] H K := by
  apply W49_ok
  unfold W49
  try simp only [letO_some, cellsOf?_agg, cellsOf?_int, cellsOf?_bool, cellsOf?_imm, cellsOf?_ref, cellsOf?_nils, faddr_iptr, faddr_ptr, List.drop_succ_cons, List.drop_zero, List.take_succ_cons, List.take_zero, load1_iptr, loadN_iptr, List.length_cons, List.length_nil, Nat.le_refl, if_true, List.getElem?_cons_zero, List.getElem?_cons_succ, List.getD_cons_zero, List.getD_cons_succ, extrF_tup, binF_add, binF_sub, binF_mul, binF_eql, binF_neq, binF_lss, binF_leq, binF_gtr, binF_geq, true_and]
  refine ⟨fun L H' => ∃ (i : Nat) (X : AV), eqt L [X, .int .i64 i] ∧ i ≤ n ∧ ((i = 0 ∧ X = .nils ∧ eqt H' H) ∨ ∃ bo cells, X = .ref 1 bo 0 i none ∧ PT H H' bo cells (List.replicate i (List.replicate n 0))), fun L _ => (n - iv L 1).toNat, ⟨0, .nils, rfl, by omega, .inl ⟨rfl, rfl, rfl⟩⟩, ?_⟩
  rintro L H' ⟨i, X, rfl, hi, hX⟩
  try simp only [letO_some, cellsOf?_agg, cellsOf?_int, cellsOf?_bool, cellsOf?_imm, cellsOf?_ref, cellsOf?_nils, faddr_iptr, faddr_ptr, List.drop_succ_cons, List.drop_zero, List.take_succ_cons, List.take_zero, load1_iptr, loadN_iptr, List.length_cons, List.length_nil, Nat.le_refl, if_true, List.getElem?_cons_zero, List.getElem?_cons_succ, List.getD_cons_zero, List.getD_cons_succ, extrF_tup, binF_add, binF_sub, binF_mul, binF_eql, binF_neq, binF_lss, binF_leq, binF_gtr, binF_geq, true_and]
  refine condA_t (fun hlt => ?_) (fun hge => ?_)
  · have a1 : i < n := by omega
    refine ⟨by omega, by omega, by omega, by omega, ?_⟩
    rw [Int.toNat_natCast, rowOf_zero]
    intro b hb
    have hl0 : (List.replicate n (0 : Int)).length = n := by simp
    try simp only [l22 (show cellsOf? (.ref 1 b 0 n (some n)) = some [.ref 1 b 0 n (some n)] from rfl), letO_some]
    rw [wrap_i64 (by omega) (by omega)]
    have key : ∀ (Hx : Heap) (cells : List AV) (X : AV), PR H Hx cells (List.replicate i (List.replicate n 0)) → Hx b = none → Grow 1 (Hx.put b (ints (List.replicate n 0))) (H'.put b (ints (List.replicate n 0))) X i cells → appendA 1 24 X (.imm 1 true [.ref 1 b 0 n (some n)]) (fun t16 H7 =>
        (∃ (i' : Nat) (X : AV), eqt [t16, .int .i64 ((i : Int) + 1)] [X, .int .i64 i'] ∧ i' ≤ n ∧ ((i' = 0 ∧ X = .nils ∧ eqt H7 H) ∨ ∃ bo cells, X = .ref 1 bo 0 i' none ∧ PT H H7 bo cells (List.replicate i' (List.replicate n 0)))) ∧
          (n - iv [t16, .int .i64 ((i : Int) + 1)] 1).toNat < (n - iv [X, .int .i64 (i : Int)] 1).toNat) (H'.put b (ints (List.replicate n 0))) := by
      intro Hx cells X hPR hbx hg
      refine appendA_growR hg (m := 1) (new := [.ref 1 b 0 n (some n)]) (by simp [srcOf]) rfl rfl (by omega) (by omega) (by omega) fun v2 H2 hg2 ho2 => ?_
      obtain ⟨b2, hb2, rfl, rfl⟩ := hg2.own ho2
      have hP1 := hPR.push (l := List.replicate n 0) (cp := some n) hbx
      rw [hl0] at hP1
      have hP2 := hP1.pt hb2
      rw [← List.replicate_succ'] at hP2
      exact ⟨⟨i + 1, _, rfl, by omega, .inr ⟨b2, _, rfl, hP2⟩⟩, by simp <;> omega⟩
    rcases hX with ⟨rfl, rfl, rfl⟩ | ⟨bo, cells, rfl, hP⟩
    · exact key H' [] .nils (PR.nil H') hb (Grow.nils 1 _)
    · have hbo : b ≠ bo := by rintro rfl; rw [hP.out] at hb; cases hb
      refine key (H'.del bo) cells _ (hP.pr fun l hl => by
        have := List.eq_of_mem_replicate hl
        rw [this]
        intro h
        have := congrArg List.length h
        simp at this; omega) (by simp only [Heap.del, if_neg hbo]; exact hb) ?_
      have hd : ((H'.del bo).put b (ints (List.replicate n 0))) bo = none := by rw [Heap.put_ne (Ne.symm hbo)]; simp [Heap.del]
      have hput : H'.put b (ints (List.replicate n 0)) = ((H'.del bo).put b (ints (List.replicate n 0))).put bo cells := by
        funext y
        simp only [Heap.put, Heap.del]
        by_cases hy : y = bo
        · subst hy; rw [if_pos rfl, if_neg (Ne.symm hbo)]; exact hP.out
        · rw [if_neg hy, if_neg hy]
      have := Grow.ref (sz := 1) (H := (H'.del bo).put b (ints (List.replicate n 0))) (b := bo) (n := i) (cells := cells) hd (by rw [hP.len]; simp)
      rwa [← hput] at this
  · have hie : i = n := by omega
    subst hie
    rcases hX with ⟨h0, _, _⟩ | ⟨bo, cells, rfl, hP⟩
    · omega
    · try simp only [letO_some]
      exact endK_ret (hk bo cells H' hP)
section
variable {H : Heap} {K : AV → Heap → Prop}
theorem eA : evenE tA = (2, 0) := by decide
theorem cB : countE tB = (6, 0) := by decide
theorem cC : countE tC = (0, 0) := by decide
theorem gA : weightE tA = (2, 0) := by decide
theorem gC : weightE tC = (0, 0) := by decide
theorem pA : splitsE tA = (1, 0) := by decide
theorem pC : splitsE tC = (0, 17) := by decide
theorem sA : splitS tA = [([0, 1, 2], 1), ([1, 2, 0], 1)] := by decide
def sha : List (List Nat × Int) := [([0, 1, 2], 1), ([1, 2, 0], 1)]
theorem c18A (hk : K (.tup [.int .i64 2, .int .i64 0]) H) : ACalls Tryd.prog 18 [tlit tA] H K := c18 (RT.tlit _ _) lA shA (by rw [eA]; exact hk)
theorem c18C (hk : K (.tup [.int .i64 0, .int .i64 17]) H) : ACalls Tryd.prog 18 [tlit tC] H K := c18 (RT.tlit _ _) lC shC' (by rw [eC]; exact hk)
theorem c22B (hk : K (.tup [.int .i64 6, .int .i64 0]) H) : ACalls Tryd.prog 22 [tlit tB] H K := c22 (RT.tlit _ _) lB shB (by rw [cB, kB]; exact hk)
theorem c22C (hk : K (.tup [.int .i64 0, .int .i64 0]) H) : ACalls Tryd.prog 22 [tlit tC] H K := c22 (RT.tlit _ _) lC shC' (by rw [cC, kC]; exact hk)
theorem c25A (hk : K (.tup [.int .i64 2, .int .i64 0]) H) : ACalls Tryd.prog 25 [tlit tA] H K := c25 (RT.tlit _ _) lA shA (by rw [gA, kA]; exact hk)
theorem c25C (hk : K (.tup [.int .i64 0, .int .i64 0]) H) : ACalls Tryd.prog 25 [tlit tC] H K := c25 (RT.tlit _ _) lC shC' (by rw [gC, kC]; exact hk)
theorem c40A (hk : K (.tup [.int .i64 1, .int .i64 0]) H) : ACalls Tryd.prog 40 [tlit tA] H K := c40 (RT.tlit _ _) lA shA (by rw [pA]; exact hk)
theorem c40C (hk : K (.tup [.int .i64 0, .int .i64 17]) H) : ACalls Tryd.prog 40 [tlit tC] H K := c40 (RT.tlit _ _) lC shC' (by rw [pC]; exact hk)
theorem c38A (hk : K (.tup [.imm sha.length false (sha.flatMap shC), .int .i64 0]) H) : ACalls Tryd.prog 38 [tlit tA] H K := c38 (RT.tlit _ _) lA shA (by rw [eA, sA]; exact hk)
theorem m0 : sumE 3 [([0, 1, 2], 0)] = ([], 1) := by decide
theorem m2 : sumE 2 [([0, 1, 2], 1)] = ([], 5) := by decide
theorem mN : sumE 3 [] = (zeroT 3, 0) := by decide
theorem c42z (hk : K (.tup [tl [], .int .i64 1]) H) : ACalls Tryd.prog 42 [.int .i64 3, .imm 1 true [lit [0, 1, 2], .int .i64 0]] H K := c42 (RS.lit1 _ _ _) (by decide) (by decide) (by rw [m0]; exact hk)
theorem c42s (hk : K (.tup [tl [], .int .i64 5]) H) : ACalls Tryd.prog 42 [.int .i64 2, .imm 1 true [lit [0, 1, 2], .int .i64 1]] H K := c42 (RS.lit1 _ _ _) (by decide) (by decide) (by rw [m2]; exact hk)
theorem c42n (hk : K (.tup [tl (zeroT 3), .int .i64 0]) H) : ACalls Tryd.prog 42 [.int .i64 3, .nils] H K := c42 (ss := []) ⟨[], ⟨rfl, rfl⟩, fun i hi => by simp at hi⟩ (by decide) (by decide) (by rw [mN]; exact hk)
theorem c67s (hk : K (.bool true) H) : ACalls Tryd.prog 67 [.imm sha.length false (sha.flatMap shC), .imm 2 true [lit [0, 1, 2], .int .i64 1, lit [1, 2, 0], .int .i64 1]] H K := c67 (RS.of _ _) (RS.lit2 _ _ _ _ _) (by decide) (by decide) (by rw [decide_eq_true (by decide)]; exact hk)
theorem c49k (hk : ∀ bo H', RT H' (.ref 1 bo 0 3 none) (zeroT 3) → K (.ref 1 bo 0 3 none) H') : ACalls Tryd.prog 49 [.int .i64 3] H K := c49 (n := 3) (by omega) fun bo cells H' hP => hk bo H' (hP.rt none)
theorem c29z {v : AV} (hv : RT H v (zeroT 3)) (hk : K (.bool true) H) : ACalls Tryd.prog 29 [tl (zeroT 3), v] H K := c29 (RT.tl _ _) hv (by decide) (by decide) (by rw [decide_eq_true rfl]; exact hk)
theorem c32c (hk : K (.int .i64 5) H) : ACalls Tryd.prog 32 [tlit tA, lit [0, 1]] H K := c32 (RT.tlit _ _) (lit_reads _ _) lA shA (by decide) (by rw [show withE tA [0, 1] = 5 by decide]; exact hk)
theorem c32d (hk : K (.int .i64 6) H) : ACalls Tryd.prog 32 [tlit tA, lit [0, 0, 1]] H K := c32 (RT.tlit _ _) (lit_reads _ _) lA shA (by decide) (by rw [show withE tA [0, 0, 1] = 6 by decide]; exact hk)
theorem c32e (hk : K (.int .i64 2) H) : ACalls Tryd.prog 32 [tlit tA, lit [0, 3, 1]] H K := c32 (RT.tlit _ _) (lit_reads _ _) lA shA (by decide) (by rw [show withE tA [0, 3, 1] = 2 by decide]; exact hk)
theorem c36c (hk : K (.int .i64 14) H) : ACalls Tryd.prog 36 [tlit tC, lit [0, 2], lit [1, 2]] H K := c36 (RT.tlit _ _) (lit_reads _ _) (lit_reads _ _) lC shC' (by decide) (by decide) (by rw [show provesE tC [0, 2] [1, 2] = 14 by decide]; exact hk)
theorem c36d (hk : K (.int .i64 7) H) : ACalls Tryd.prog 36 [tlit tC, lit [1, 0], lit [1, 2]] H K := c36 (RT.tlit _ _) (lit_reads _ _) (lit_reads _ _) lC shC' (by decide) (by decide) (by rw [show provesE tC [1, 0] [1, 2] = 7 by decide]; exact hk)
theorem c36e (hk : K (.int .i64 2) H) : ACalls Tryd.prog 36 [tlit tC, lit [0, 3], lit [1, 2]] H K := c36 (RT.tlit _ _) (lit_reads _ _) (lit_reads _ _) lC shC' (by decide) (by decide) (by rw [show provesE tC [0, 3] [1, 2] = 2 by decide]; exact hk)
theorem c30n (hk : K (.int .i64 4) H) : ACalls Tryd.prog 30 [.nils] H K := c30 (t := []) ⟨[], ⟨rfl, rfl⟩, fun r hr => by simp at hr⟩ (by decide) (by decide) (by rw [show chkT [] = 4 by decide]; exact hk)
theorem c30s (hk : K (.int .i64 5) H) : ACalls Tryd.prog 30 [tlit [[1, 0], [1]]] H K := c30 (RT.tlit _ _) (by decide) (by decide) (by rw [show chkT [[1, 0], [1]] = 5 by decide]; exact hk)
theorem c30r (hk : K (.int .i64 1) H) : ACalls Tryd.prog 30 [tlit [[10]]] H K := c30 (RT.tlit _ _) (by decide) (by decide) (by rw [show chkT [[10]] = 1 by decide]; exact hk)
theorem c30m {b : Nat} (hb : H b = some (List.replicate 5 .nils)) (hk : K (.int .i64 3) H) : ACalls Tryd.prog 30 [.ref 1 b 0 5 (some 5)] H K := by
  have hr : RT H (.ref 1 b 0 5 (some 5)) (List.replicate 5 []) := by
    refine ⟨List.replicate 5 .nils, ⟨rfl, rfl, rfl, _, hb, by decide, by rfl⟩, fun r hr => ?_⟩
    have hr5 : r < 5 := by simpa using hr
    refine ⟨.nils, by rw [List.getElem?_replicate, if_pos hr5], ?_⟩
    have : (List.replicate 5 ([] : List Int)).getD r [] = [] := by rw [List.getD_eq_getElem?_getD, List.getElem?_replicate, if_pos hr5]; rfl
    rw [this]
    exact rfl
  exact c30 hr (by decide) (by decide) (by rw [show chkT (List.replicate 5 []) = 3 by decide]; exact hk)
theorem exMk {k : AV → Heap → Prop} (h : ∀ b H', H' b = some (List.replicate 5 .nils) → k (.ref 1 b 0 5 (some 5)) H') :
    ∃ J : AV → Heap → Prop, condG (.bool true) true (makeA [.nils] 1 24 (.int .i64 5) (.int .i64 5) (fun t h => J t h) H) (J (.tup []) H) ∧ ∀ t h, J t h → k t h := by
  refine ⟨k, condG_tt.2 ⟨by decide, by decide, by decide, by decide, fun b hb => ?_⟩, fun _ _ h => h⟩
  exact h b _ Heap.put_same
theorem lt1 {a : List Int} : literalF Tryd.prog 22 1 [(0, lit a)] = some [lit a] := by
  rw [literalF_of (show literalPlan Tryd.prog 22 = some ([.nils], 1) by kernel_rfl) (by decide) (by simp)]
  rfl
theorem lt2 {a b : List Int} : literalF Tryd.prog 22 2 [(0, lit a), (1, lit b)] = some [lit a, lit b] := by
  rw [literalF_of (show literalPlan Tryd.prog 22 = some ([.nils], 1) by kernel_rfl) (by decide) (by simp)]
  rfl
end
end Go.Proofs.YtbofkeoebnjjkaaDoor

/- MADE BY PROGRAM (walkt.py): function 15 returns true. -/
namespace Go.Proofs.YtbofkeoebnjjkaaDoor
open Go.Av Tab
set_option linter.unusedVariables false
set_option linter.unusedSimpArgs false
set_option maxRecDepth 20000
theorem c15 {H : Heap} {K : AV → Heap → Prop} (hk : ∀ H', K (.bool true) H') : ACalls Tryd.prog 15 [] H K := by
  apply W15_ok
  unfold W15
  refine letO_of (x := .bool false) rfl ?_
  refine c63 ?_
  refine c18A ?_
  refine letO_of (x := .tup [.int .i64 2, .int .i64 0]) rfl ?_
  refine letO_of (x := .int .i64 2) rfl ?_
  refine letO_of (x := .int .i64 0) rfl ?_
  refine letO_of (x := .int .i64 2) rfl ?_
  refine letO_of (x := .int .i64 0) rfl ?_
  refine c64 ?_
  refine c18C ?_
  refine letO_of (x := .tup [.int .i64 0, .int .i64 17]) rfl ?_
  refine letO_of (x := .int .i64 0) rfl ?_
  refine letO_of (x := .int .i64 17) rfl ?_
  refine letO_of (x := .int .i64 0) rfl ?_
  refine letO_of (x := .int .i64 17) rfl ?_
  refine c65 ?_
  refine c22B ?_
  refine letO_of (x := .tup [.int .i64 6, .int .i64 0]) rfl ?_
  refine letO_of (x := .int .i64 6) rfl ?_
  refine letO_of (x := .int .i64 0) rfl ?_
  refine letO_of (x := .int .i64 6) rfl ?_
  refine letO_of (x := .int .i64 0) rfl ?_
  refine c64 ?_
  refine c22C ?_
  refine letO_of (x := .tup [.int .i64 0, .int .i64 0]) rfl ?_
  refine letO_of (x := .int .i64 0) rfl ?_
  refine letO_of (x := .int .i64 0) rfl ?_
  refine letO_of (x := .int .i64 0) rfl ?_
  refine letO_of (x := .int .i64 0) rfl ?_
  refine c63 ?_
  refine c25A ?_
  refine letO_of (x := .tup [.int .i64 2, .int .i64 0]) rfl ?_
  refine letO_of (x := .int .i64 2) rfl ?_
  refine letO_of (x := .int .i64 0) rfl ?_
  refine letO_of (x := .int .i64 2) rfl ?_
  refine letO_of (x := .int .i64 0) rfl ?_
  refine c64 ?_
  refine c25C ?_
  refine letO_of (x := .tup [.int .i64 0, .int .i64 0]) rfl ?_
  refine letO_of (x := .int .i64 0) rfl ?_
  refine letO_of (x := .int .i64 0) rfl ?_
  refine letO_of (x := .int .i64 0) rfl ?_
  refine letO_of (x := .int .i64 0) rfl ?_
  refine c63 ?_
  refine c40A ?_
  refine letO_of (x := .tup [.int .i64 1, .int .i64 0]) rfl ?_
  refine letO_of (x := .int .i64 1) rfl ?_
  refine letO_of (x := .int .i64 0) rfl ?_
  refine letO_of (x := .int .i64 1) rfl ?_
  refine letO_of (x := .int .i64 0) rfl ?_
  refine c64 ?_
  refine c40C ?_
  refine letO_of (x := .tup [.int .i64 0, .int .i64 17]) rfl ?_
  refine letO_of (x := .int .i64 0) rfl ?_
  refine letO_of (x := .int .i64 17) rfl ?_
  refine letO_of (x := .int .i64 0) rfl ?_
  refine letO_of (x := .int .i64 17) rfl ?_
  refine letO_of (x := .int .i64 0) rfl ?_
  refine letO_of (x := .bool false) rfl ?_
  refine letO_of (x := .bool false) rfl ?_
  refine letO_of (x := .int .i64 17) rfl ?_
  refine letO_of (x := .bool false) rfl ?_
  refine letO_of (x := .bool false) rfl ?_
  refine letO_of (x := .bool false) rfl ?_
  refine letO_of (x := .int .i64 0) rfl ?_
  refine letO_of (x := .bool false) rfl ?_
  refine letO_of (x := .bool false) rfl ?_
  refine letO_of (x := .bool false) rfl ?_
  refine letO_of (x := .int .i64 0) rfl ?_
  refine letO_of (x := .bool false) rfl ?_
  refine letO_of (x := .bool false) rfl ?_
  refine letO_of (x := .bool false) rfl ?_
  refine letO_of (x := .int .i64 0) rfl ?_
  refine letO_of (x := .bool false) rfl ?_
  refine letO_of (x := .bool false) rfl ?_
  refine letO_of (x := .bool false) rfl ?_
  refine letO_of (x := .int .i64 0) rfl ?_
  refine letO_of (x := .bool false) rfl ?_
  refine letO_of (x := .bool false) rfl ?_
  refine letO_of (x := .bool false) rfl ?_
  refine letO_of (x := .int .i64 0) rfl ?_
  refine letO_of (x := .bool false) rfl ?_
  refine letO_of (x := .bool false) rfl ?_
  refine letO_of (x := .bool false) rfl ?_
  refine letO_of (x := .int .i64 17) rfl ?_
  refine letO_of (x := .bool false) rfl ?_
  refine letO_of (x := .bool false) rfl ?_
  refine letO_of (x := .bool false) rfl ?_
  refine letO_of (x := .int .i64 2) rfl ?_
  refine letO_of (x := .bool false) rfl ?_
  refine letO_of (x := .bool false) rfl ?_
  refine letO_of (x := .bool false) rfl ?_
  refine letO_of (x := .int .i64 6) rfl ?_
  refine letO_of (x := .bool false) rfl ?_
  refine letO_of (x := .bool false) rfl ?_
  refine letO_of (x := .bool false) rfl ?_
  refine letO_of (x := .int .i64 0) rfl ?_
  refine letO_of (x := .bool false) rfl ?_
  refine letO_of (x := .bool false) rfl ?_
  refine letO_of (x := .bool false) rfl ?_
  refine letO_of (x := .int .i64 2) rfl ?_
  refine letO_of (x := .bool false) rfl ?_
  refine letO_of (x := .bool false) rfl ?_
  refine letO_of (x := .bool false) rfl ?_
  refine letO_of (x := .int .i64 0) rfl ?_
  refine letO_of (x := .bool false) rfl ?_
  refine letO_of (x := .bool false) rfl ?_
  refine letO_of (x := .bool false) rfl ?_
  refine letO_of (x := .int .i64 1) rfl ?_
  refine letO_of (x := .bool false) rfl ?_
  refine letO_of (x := .bool false) rfl ?_
  refine condA_ff.2 ?_
  refine c63 ?_
  refine c38A ?_
  refine letO_of (x := .tup [.imm sha.length false (sha.flatMap shC), .int .i64 0]) rfl ?_
  refine letO_of (x := .imm sha.length false (sha.flatMap shC)) rfl ?_
  refine letO_of (x := .int .i64 0) rfl ?_
  refine letO_of (x := .imm sha.length false (sha.flatMap shC)) rfl ?_
  refine letO_of (x := .int .i64 0) rfl ?_
  refine letO_of li3 ?_
  rw [mk_lit3]
  refine c66 ?_
  refine letO_of ls1 ?_
  refine c42z ?_
  refine letO_of (x := .tup [tl [], .int .i64 1]) rfl ?_
  refine letO_of (x := tl []) rfl ?_
  refine letO_of (x := .int .i64 1) rfl ?_
  refine letO_of (x := .int .i64 1) rfl ?_
  refine letO_of li3 ?_
  rw [mk_lit3]
  refine c66 ?_
  refine letO_of ls1 ?_
  refine c42s ?_
  refine letO_of (x := .tup [tl [], .int .i64 5]) rfl ?_
  refine letO_of (x := tl []) rfl ?_
  refine letO_of (x := .int .i64 5) rfl ?_
  refine letO_of (x := .int .i64 5) rfl ?_
  refine c42n ?_
  refine letO_of (x := .tup [tl (zeroT 3), .int .i64 0]) rfl ?_
  refine letO_of (x := tl (zeroT 3)) rfl ?_
  refine letO_of (x := .int .i64 0) rfl ?_
  refine letO_of (x := tl (zeroT 3)) rfl ?_
  refine letO_of (x := .int .i64 0) rfl ?_
  refine letO_of (x := .int .i64 0) rfl ?_
  refine letO_of (x := .bool false) rfl ?_
  refine letO_of (x := .bool false) rfl ?_
  refine letO_of (x := .int .i64 1) rfl ?_
  refine letO_of (x := .bool false) rfl ?_
  refine letO_of (x := .bool false) rfl ?_
  refine letO_of (x := .bool false) rfl ?_
  refine letO_of (x := .int .i64 5) rfl ?_
  refine letO_of (x := .bool false) rfl ?_
  refine letO_of (x := .bool false) rfl ?_
  refine letO_of (x := .bool false) rfl ?_
  refine letO_of (x := .int .i64 0) rfl ?_
  refine letO_of (x := .bool false) rfl ?_
  refine letO_of (x := .bool false) rfl ?_
  refine letO_of (x := .bool false) rfl ?_
  refine letO_of (x := .imm sha.length false (sha.flatMap shC)) rfl ?_
  refine letO_of (x := lit [0, 1, 2]) (show _ = _ from (by rw [li3]; rfl)) ?_
  refine exJc (c := false) ?_
  refine c66 ?_
  refine letO_of (x := lit [1, 2, 0]) (show _ = _ from (by rw [li3]; rfl)) ?_
  refine exJc (c := false) ?_
  refine c66 ?_
  refine letO_of (x := .imm 2 true [lit [0, 1, 2], .int .i64 1, lit [1, 2, 0], .int .i64 1]) (show _ = _ from (by rw [ls2]; rfl)) ?_
  refine exJc (c := false) ?_
  refine c67s ?_
  refine letO_of (x := .bool false) rfl ?_
  refine letO_of (x := .bool false) rfl ?_
  refine letO_of (x := .bool false) rfl ?_
  refine letO_of (x := tl (zeroT 3)) rfl ?_
  refine exJc (c := false) ?_
  refine c49k (fun bo H7 hR => ?_)
  refine exJc (c := false) ?_
  refine c29z hR ?_
  refine letO_of (x := .bool false) rfl ?_
  refine letO_of (x := .bool false) rfl ?_
  refine condA_ff.2 ?_
  refine c63 ?_
  refine letO_of li2 ?_
  rw [mk_lit2]
  refine c68 ?_
  refine c32c ?_
  refine letO_of (x := .bool true) rfl ?_
  refine letO_of (x := .bool true) rfl ?_
  refine exJc (c := true) ?_
  refine c63 ?_
  refine letO_of (x := lit [0, 0, 1]) (show _ = _ from (by rw [li3]; rfl)) ?_
  refine exJc (c := true) ?_
  refine c68 ?_
  refine exJc (c := true) ?_
  refine c32d ?_
  refine letO_of (x := .bool true) rfl ?_
  refine letO_of (x := .bool true) rfl ?_
  refine letO_of (x := .bool true) rfl ?_
  refine exJc (c := true) ?_
  refine c63 ?_
  refine letO_of (x := lit [0, 3, 1]) (show _ = _ from (by rw [li3]; rfl)) ?_
  refine exJc (c := true) ?_
  refine c68 ?_
  refine exJc (c := true) ?_
  refine c32e ?_
  refine letO_of (x := .bool true) rfl ?_
  refine letO_of (x := .bool true) rfl ?_
  refine letO_of (x := .bool true) rfl ?_
  refine exJc (c := true) ?_
  refine c64 ?_
  refine letO_of (x := lit [0, 2]) (show _ = _ from (by rw [li2]; rfl)) ?_
  refine exJc (c := true) ?_
  refine c68 ?_
  refine letO_of (x := lit [1, 2]) (show _ = _ from (by rw [li2]; rfl)) ?_
  refine exJc (c := true) ?_
  refine c68 ?_
  refine exJc (c := true) ?_
  refine c36c ?_
  refine letO_of (x := .bool true) rfl ?_
  refine letO_of (x := .bool true) rfl ?_
  refine letO_of (x := .bool true) rfl ?_
  refine exJc (c := true) ?_
  refine c64 ?_
  refine letO_of (x := lit [1, 0]) (show _ = _ from (by rw [li2]; rfl)) ?_
  refine exJc (c := true) ?_
  refine c68 ?_
  refine letO_of (x := lit [1, 2]) (show _ = _ from (by rw [li2]; rfl)) ?_
  refine exJc (c := true) ?_
  refine c68 ?_
  refine exJc (c := true) ?_
  refine c36d ?_
  refine letO_of (x := .bool true) rfl ?_
  refine letO_of (x := .bool true) rfl ?_
  refine letO_of (x := .bool true) rfl ?_
  refine exJc (c := true) ?_
  refine c64 ?_
  refine letO_of (x := lit [0, 3]) (show _ = _ from (by rw [li2]; rfl)) ?_
  refine exJc (c := true) ?_
  refine c68 ?_
  refine letO_of (x := lit [1, 2]) (show _ = _ from (by rw [li2]; rfl)) ?_
  refine exJc (c := true) ?_
  refine c68 ?_
  refine exJc (c := true) ?_
  refine c36e ?_
  refine letO_of (x := .bool true) rfl ?_
  refine letO_of (x := .bool true) rfl ?_
  refine letO_of (x := .bool true) rfl ?_
  refine exJc (c := true) ?_
  refine c30n ?_
  refine letO_of (x := .bool true) rfl ?_
  refine letO_of (x := .bool true) rfl ?_
  refine letO_of (x := .bool true) rfl ?_
  refine letO_of (x := lit [1, 0]) (show _ = _ from (by rw [li2]; rfl)) ?_
  refine exJc (c := true) ?_
  refine c68 ?_
  refine letO_of (x := lit [1]) (show _ = _ from (by rw [li1]; rfl)) ?_
  refine exJc (c := true) ?_
  refine c68 ?_
  refine letO_of (x := tlit [[1, 0], [1]]) (show _ = _ from (by rw [lt2]; rfl)) ?_
  refine exJc (c := true) ?_
  refine c69 ?_
  refine exJc (c := true) ?_
  refine c30s ?_
  refine letO_of (x := .bool true) rfl ?_
  refine letO_of (x := .bool true) rfl ?_
  refine letO_of (x := .bool true) rfl ?_
  refine letO_of (x := lit [10]) (show _ = _ from (by rw [li1]; rfl)) ?_
  refine exJc (c := true) ?_
  refine c68 ?_
  refine letO_of (x := tlit [[10]]) (show _ = _ from (by rw [lt1]; rfl)) ?_
  refine exJc (c := true) ?_
  refine c69 ?_
  refine exJc (c := true) ?_
  refine c30r ?_
  refine letO_of (x := .bool true) rfl ?_
  refine letO_of (x := .bool true) rfl ?_
  refine letO_of (x := .bool true) rfl ?_
  refine exMk (fun b H8 hb => ?_)
  refine exJc (c := true) ?_
  refine c30m hb ?_
  refine letO_of (x := .bool true) rfl ?_
  refine letO_of (x := .bool true) rfl ?_
  refine letO_of (x := .bool true) rfl ?_
  refine exJc (c := true) ?_
  refine c17 ?_
  refine letO_of (x := .bool true) rfl ?_
  refine letO_of (x := .bool true) rfl ?_
  exact endK_ret (hk _)
end Go.Proofs.YtbofkeoebnjjkaaDoor

/- From a walk to a tied row: what the listed variables hold. -/
set_option linter.unusedVariables false
namespace Go.Proofs.YtbofkeoebnjjkaaDoor
open Go.ChangeShapes Go.WideShapes Go.ChangeAt Go.RowKit Go.Av

theorem ownK : ownKnob Tryd.prog.godebug = none := by kernel_rfl
theorem laidOutK : laidOutB Tryd.prog = true := by kernel_rfl
theorem g64 : Tryd.prog.globalNamed "math/bits.deBruijn64tab" = some 1 := by kernel_rfl
theorem g64t : (Tryd.prog.globals[1]?).map (·.type) = some 123 := by kernel_rfl
theorem u123 : Tryd.prog.underlying 123 = some (.array 64 5) := by kernel_rfl
theorem u5 : Tryd.prog.underlying 5 = some (.int .u8) := by kernel_rfl
theorem k5 : Tryd.prog.cellsOf 5 = 1 := by kernel_rfl
theorem k123 : Tryd.prog.cellsOf 123 = 64 := by kernel_rfl
abbrev laidL : List (String × DataW Unit) := [("math/bits.deBruijn32tab", Rows.laid_math_bits_deBruijn32tab), ("math/bits.deBruijn64tab", Rows.laid_math_bits_deBruijn64tab)]
def vals64 : List Int := [0, 1, 56, 2, 57, 49, 28, 3, 61, 58, 42, 50, 38, 29, 17, 4, 62, 47, 59, 36, 45, 43, 51, 22, 53, 39, 33, 30, 24, 18, 12, 5, 63, 55, 48, 27, 60, 41, 37, 16, 46, 35, 44, 21, 52, 32, 23, 11, 54, 26, 40, 15, 34, 20, 31, 10, 25, 14, 19, 9, 13, 8, 7, 6]
theorem laid64 : (Rows.laid_math_bits_deBruijn64tab : DataW Unit) = .agg (vals64.map fun n => .lit (.int .u8 n)) := by rfl
theorem tz64_eq : tz64 = vals64.map (.int .u8) := by rfl
/-- WHAT THE CONDITION GIVES A WALK. -/
theorem glb_of_laid {W : World} (h : laidMetH Tryd.prog laidL W) : Glb Tryd.prog (E0 W) := by
  rw [MakeChecks.laidMetH_plain _ _ _ (by kernel_rfl)] at h
  obtain ⟨ps, h1, _⟩ := h
  obtain ⟨_, _, _, _, _, _, _, _, _, _, h2, _⟩ := h1
  obtain ⟨g, t, cs, fuel, p, q, e1, e2, e3, e4, _, _⟩ := h2
  obtain rfl : (1 : Nat) = g := Option.some.inj (g64.symm.trans e1)
  obtain rfl : 123 = t := Option.some.inj (g64t.symm.trans e2)
  intro g cells hg
  unfold globs at hg
  rw [g64] at hg
  split at hg
  · rename_i hh
    cases hh
    cases hg
    obtain ⟨xs, m, _, hx, hl, hxl, hel⟩ := DataW.trod_array u123 e4
    rw [k123] at hl
    have hcs : ∀ i, i < 64 → cs[i]? = some (.int .u8 (vals64.getD i 0)) := by
      intro i hi
      have h5 := hel i hi
      rw [k5, Nat.mul_one] at h5
      have hxi : xs[i]? = some xs[i] := by simp [hxl, hi]
      rw [hxi] at h5
      obtain ⟨n, hn, hx5, _⟩ := DataW.trod_int u5 h5
      have hval : n = vals64.getD i 0 := by
        have h6 : (xs.map (·.1))[i]? = some (DataW.lit (.int .u8 n)) := by
          rw [List.getElem?_map, hxi, hx5]; rfl
        have h7 : (xs.map (·.1)) = vals64.map fun n => DataW.lit (.int .u8 n) := by
          have := congrArg Prod.fst hx
          rw [laid64] at this
          injection this with this
          exact this.symm
        rw [h7, List.getElem?_map] at h6
        have h8 : vals64[i]? = some (vals64.getD i 0) := by
          have : i < vals64.length := hi
          rw [List.getD_eq_getElem?_getD, List.getElem?_eq_getElem this]; rfl
        rw [h8] at h6
        simp only [Option.map_some, Option.some.injEq, DataW.lit.injEq, Lit.int.injEq, true_and] at h6
        exact h6.symm
      have h9 : ((cs.toList.drop i).take 1)[0]? = some (.int .u8 n) := by rw [hn]; rfl
      rw [List.getElem?_take_of_lt (by omega), List.getElem?_drop, Nat.add_zero] at h9
      rw [← hval]
      simpa using h9
    -- the block
    have hblk : ∃ T fr, W.heap[1]? = some (.cells cs T fr) := by
      unfold World.var? at e3
      rw [g64] at e3
      simp only [Option.bind_some] at e3
      split at e3
      · rename_i c T fr hh
        cases e3
        exact ⟨T, fr, hh⟩
      · cases e3
    obtain ⟨T, fr, hblk⟩ := hblk
    refine Rep.iptr tz64 1 0 cs T fr (fun i => .int .u8 (vals64.getD i 0)) hblk (fun i hi => ?_) (fun i hi => ?_)
    · rw [Nat.zero_add]; exact hcs i hi
    · have h1 : i < vals64.length := hi
      have : tz64[i] = .int .u8 (vals64.getD i 0) := by
        have e : tz64[i]? = some (.int .u8 (vals64.getD i 0)) := by
          rw [tz64_eq, List.getElem?_map, List.getD_eq_getElem?_getD, List.getElem?_eq_getElem h1]; rfl
        rw [List.getElem?_eq_getElem hi] at e
        exact Option.some.inj e
      exact Eq.mpr (congrArg (fun z => Rep (E0 W) z (Value.int .u8 (vals64.getD i 0))) this) (Rep.int _ _)
  · cases hg
end Go.Proofs.YtbofkeoebnjjkaaDoor

/- A world that meets the condition; the row's builder. -/
set_option linter.unusedVariables false
namespace Go.Proofs.YtbofkeoebnjjkaaDoor
open Go.ChangeShapes Go.WideShapes Go.ChangeAt Go.RowKit Go.Av

def vals32 : List Int := [0, 1, 28, 2, 29, 14, 24, 3, 30, 22, 20, 15, 25, 17, 4, 8, 31, 27, 13, 23, 21, 19, 16, 7, 26, 12, 18, 6, 11, 5, 10, 9]
/-- A world that meets the condition: the settled one, the two tables laid. -/
noncomputable def laidWorld (os : Os) (blocks : Array Obj) : World :=
  let w0 := World.holding Tryd.prog os ⟨blocks, #[], []⟩
  { w0 with heap := (w0.heap.modify 0 fun
      | .cells _ t frozen => .cells (vals32.map (Value.int .u8)).toArray t frozen
      | o => o).modify 1 fun
      | .cells _ t frozen => .cells (vals64.map (Value.int .u8)).toArray t frozen
      | o => o }
set_option maxRecDepth 100000 in
theorem laidWorld_met0 (os : Os) (args : Array Value) : laidMetH Tryd.prog laidL ((laidWorld os #[]).forCall (fun _ _ => 0) ⟨#[], args, []⟩).memory :=
  laidMetH_of_parts (laidMet_of_run3 80 (by kernel_rfl) (by kernel_rfl) (by kernel_rfl)) (by kernel_rfl)
end Go.Proofs.YtbofkeoebnjjkaaDoor

namespace Go.Proofs.YtbofkeoebnjjkaaDoor.tableKnown
open Go.ChangeShapes Go.WideShapes Go.ChangeAt Go.RowKit Go.Av
set_option linter.unusedVariables false

set_option maxRecDepth 100000 in
theorem lifted (os : Os) (started : os.Started) (H : Type) (enc : TypeId × Value → H) :
    ReturnsInHanded {} Tryd.checked os 15 .any (fun w args => (Rows.tableKnownSpec.pre enc Tryd.prog Tryd.f15 [] false w args ∧ laidMetH Tryd.prog laidL w) ∧ sizedMet enc Tryd.prog Tryd.f15 (OpenSpec.ofChange Rows.tableKnownSpec) false w args)
      (Rows.tableKnownSpec.post enc Tryd.prog Tryd.f15 false true false false) := by
  refine returnsInHanded_of_change_and (C := Tryd.checked) (X := fun w _ => laidMetH Tryd.prog laidL w) (fun _ _ _ hh h => h.of_heap hh) ownK started (by kernel_rfl) Tryd.func15
    (ChangeSpec.witness_at (enc := enc) (C := Tryd.checked) (os := os) (X := fun w _ => laidMetH Tryd.prog laidL w) false (laidWorld os #[]) #[] 8 rfl (by kernel_rfl) (by kernel_rfl) (by kernel_rfl) (by kernel_rfl) (by kernel_rfl) (laidWorld_met0 os _)) ?_
  intro W base args ds gs before hval0 hW hcnd _ hL _
  have hval : ∀ (j : Nat) t v, Tryd.f15.params[j]? = some t → args[j]? = some v → Value.okWide Tryd.prog W .any base t v := hval0
  have hW' := hW
  obtain ⟨p, q, hA0, hV, rfl, hfz, hnd⟩ := hW
  have hA : DataW.TrodAll enc Tryd.prog W 0 (fun _ => true) true Tryd.f15.params.toList args.toList ds p := hA0
  have hA1 := hA
  rw [Tryd.params15] at hA hval
  obtain ⟨rfl, rfl⟩ := trodVars_none hV
  clear hA0 hval0
  simp only [List.append_nil] at hW'
  obtain ⟨rfl, rfl, rfl⟩ := trodAll_none hA
  refine ((c15 (K := fun r _ => r = .bool true) (H := Heap.none) (fun _ => rfl)).2 (E0 W) W [] (glb_of_laid hL) (st0 W) (RepL.nil _)).mono ?_
  rintro e W' ⟨r, v, E', H', rfl, hr, _, hx, rfl⟩
  cases hr
  exact ⟨_, rfl, _, _, _, [], [], [], hW', trodAll_cons_mk (shut_bool Tryd.underlying4 _) trodAll_mk0, trodAll_mk0, rfl, hx.kept _, fun h => by cases h⟩

theorem over : Rows.tableKnownRow.holds Tryd.pinned (OpenSpec.ofChange Rows.tableKnownSpec) :=
  OpenClaim.holds_of_wide 15 Tryd.f15 rfl rfl rfl rfl rfl rfl rfl ⟨rfl, rfl, rfl, rfl, rfl⟩ rfl rfl rfl rfl rfl (by kernel_rfl) Tryd.func15 (by kernel_rfl)
    (of_decide_eq_true (by kernel_rfl)) (by unfold Func.isWrapper; first | (rw [if_pos (by decide +kernel)]; kernel_rfl) | (rw [if_neg (by decide +kernel)]; exact ⟨rfl, rfl⟩))
    (fun os started H enc _ => lifted os started H enc)

theorem carded : Rows.TableKnownCardSaid :=
  Claim7.holds_tied_plain_at .later [] [.data, .data] true (true, "29ac6a78e3fa4d425541ea16beb52bdc0cb68dcf07b6d1720047e0e447a29f7d") false
    over (fun _ h => by cases h) (by kernel_rfl) (fun _ h => by cases h) tableKnown_row_tie rfl ⟨rfl, rfl⟩ (by kernel_rfl) rfl
    (fun f fn hf hfn => by
      obtain rfl : f = 15 := Option.some.inj ((show Tryd.prog.funcNamed "headword/headwordlaw11.TableKnown" = some 15 by kernel_rfl).symm.trans hf) |>.symm
      obtain rfl : fn = Tryd.f15 := (Option.some.inj (Tryd.func15.symm.trans hfn)).symm
      exact ⟨by kernel_rfl, fun j t ht => by
        rw [Tryd.params15] at ht
        simp at ht⟩)
    (by kernel_rfl)
#print axioms carded
end Go.Proofs.YtbofkeoebnjjkaaDoor.tableKnown
