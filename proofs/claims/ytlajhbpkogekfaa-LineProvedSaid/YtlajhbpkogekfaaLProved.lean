import Derived.Test.YtlajhbpkogekfaaLProvedP1
import Derived.Test.YtlajhbpkogekfaaCon
import Derived.Test.YtlajhbpkogekfaaAvB
import Derived.Test.YtlajhbpkogekfaaRows
/- LineProved: for every input the law returns true, and the input reads as before. No conditions. -/
namespace Go.Proofs.Ytlajhbpkogekfaa
open Go.Av Line
set_option linter.unusedVariables false
set_option linter.unusedSimpArgs false
set_option maxRecDepth 4000

/-- All best ends. -/
def bests (w : Int) (ws : List Int) : List (List Nat) := (extM w ws ws.length ws.length 0).filter fun G => decide (cstL w ws 0 G = ((rst w ws ws.length ws.length).getD 0 (0, 0, 0)).1)
theorem bests_facts {w : Int} {ws : List Int} (hc : chk w ws = 0) : bestOf (cstL w ws 0) (extM w ws ws.length ws.length 0) ((rst w ws ws.length ws.length).getD 0 (0, 0, 0)).1 ((rst w ws ws.length ws.length).getD 0 (0, 0, 0)).2.2 (firstL w ws) ∧ 1 ≤ ((rst w ws ws.length ws.length).getD 0 (0, 0, 0)).2.2 := by
  have hn := chk_ok hc
  obtain ⟨h1, _, h3⟩ := rst_best hc 0 (by omega)
  rw [Nat.sub_zero] at h1
  exact ⟨h1, h3⟩

/-- best, of the reference -/
theorem c65 {w : Int} {v : AV} {ws : List Int} {H : Heap} {K : AV → Heap → Prop} (hv : Reads H v ws) (hc : chk w ws = 0) (hk : K (.imm (bests w ws).length false ((bests w ws).map fun G => sl (up G))) H) : ACalls Try.prog 65 [.agg [.int .i64 w, v]] H K := by
  apply W65_ok
  unfold W65
  obtain ⟨w1, w2, n1, n2, hws⟩ := chk_ok hc
  simp only [letO_some, cellsOf?_agg, cellsOf?_int, cellsOf?_bool, cellsOf?_imm, cellsOf?_ref, cellsOf?_nils, faddr_iptr, faddr_ptr, List.drop_succ_cons, List.drop_zero, List.take_succ_cons, List.take_zero, load1_iptr, loadN_iptr, List.length_cons, List.length_nil, Nat.le_refl, if_true, List.getElem?_cons_zero, List.getElem?_cons_succ, List.getD_cons_zero, List.getD_cons_succ, extrF_tup, binF_add, binF_sub, binF_mul, binF_eql, binF_neq, binF_lss, binF_leq, binF_gtr, binF_geq, true_and, hv.len]
  refine c88 hc (Nat.le_refl _) ws.length 0 [] v .nils H _ hv rfl rfl (by omega) (by omega) (by omega) (by simp) ?_
  rw [allV_top n1]
  have hmem : ∀ F ∈ extM w ws ws.length ws.length 0, chn w ws 0 F ∧ F.getLastD 0 = ws.length := fun F hF => (mem_extM ws.length 0 F (by omega) (by omega)).1 hF
  obtain ⟨⟨hb1, hb2, hb3⟩, hb4⟩ := bests_facts hc
  have hB := extM_len (w := w) (ws := ws) (n := ws.length) (by omega) ws.length 0
  have hp10 : 10 ^ ws.length ≤ 10 ^ 10 := Nat.pow_le_pow_right (by decide) (by omega)
  unfold bests at hk
  generalize ((rst w ws ws.length ws.length).getD 0 (0, 0, 0)).1 = best at *
  generalize ((rst w ws ws.length ws.length).getD 0 (0, 0, 0)).2.2 = ways at *
  generalize extM w ws ws.length ws.length 0 = L at *
  have hLl : lenA (.imm L.length false (L.map fun G => sl (up G))) = some (.int .i64 L.length) := rfl
  simp only [letO_some, cellsOf?_agg, cellsOf?_int, cellsOf?_bool, cellsOf?_imm, cellsOf?_ref, cellsOf?_nils, faddr_iptr, faddr_ptr, List.drop_succ_cons, List.drop_zero, List.take_succ_cons, List.take_zero, load1_iptr, loadN_iptr, List.length_cons, List.length_nil, Nat.le_refl, if_true, List.getElem?_cons_zero, List.getElem?_cons_succ, List.getD_cons_zero, List.getD_cons_succ, extrF_tup, binF_add, binF_sub, binF_mul, binF_eql, binF_neq, binF_lss, binF_leq, binF_gtr, binF_geq, true_and, hLl]
  let flt : Nat → Int → List (List Nat) := fun i m => (L.take i).filter fun G => decide (cstL w ws 0 G = m)
  have hfl : ∀ i m, (flt i m).length ≤ L.length := fun i m => Nat.le_trans (List.length_filter_le _ _) (by simp; omega)
  refine ⟨fun L' H' => ∃ (i : Nat) (least : Int) (X : AV) (H1 : Heap), eqv L' [.int .i64 least, X, .int .i64 i] ∧ i ≤ L.length ∧ H.le H1 ∧ Grow 1 H1 H' X (flt i least).length ((flt i least).map fun G => sl (up G)) ∧ (∀ G ∈ L.take i, least ≤ cstL w ws 0 G) ∧ (0 < i → ∃ G ∈ L.take i, cstL w ws 0 G = least), fun L' _ => (L.length - iv L' 2).toNat,
    ⟨0, 0, .nils, H, rfl, by omega, Heap.le_refl _, by simpa [flt] using Grow.nils 1 H, by simp, fun h => absurd h (by omega)⟩, ?_⟩
  intro L' H' hI
  obtain ⟨i, least, X, H1, rfl, hi, hle1, hg, hmin, hex⟩ := hI
  simp only [letO_some, cellsOf?_agg, cellsOf?_int, cellsOf?_bool, cellsOf?_imm, cellsOf?_ref, cellsOf?_nils, faddr_iptr, faddr_ptr, List.drop_succ_cons, List.drop_zero, List.take_succ_cons, List.take_zero, load1_iptr, loadN_iptr, List.length_cons, List.length_nil, Nat.le_refl, if_true, List.getElem?_cons_zero, List.getElem?_cons_succ, List.getD_cons_zero, List.getD_cons_succ, extrF_tup, binF_add, binF_sub, binF_mul, binF_eql, binF_neq, binF_lss, binF_leq, binF_gtr, binF_geq, true_and]
  refine condA_t (fun hlt => ?_) (fun hge => ?_)
  · have hil : i < L.length := by omega
    have hx : L[i]? = some L[i] := by simp [hil]
    obtain ⟨g1, g2⟩ := hmem L[i] (by simp)
    have htake : L.take (i + 1) = L.take i ++ [L[i]] := by rw [List.take_add_one, hx]; rfl
    generalize L[i] = F at *
    have hlines := chn_lines (n := ws.length) g1 (by omega)
    have hflen := chn_length g1
    rw [g2, Nat.add_zero] at hflen
    have hFne : F ≠ [] := by rintro rfl; simp at g2; omega
    have hFpos : 0 < F.length := List.length_pos_iff.2 hFne
    have hleH : H.le H' := Heap.le_trans hle1 hg.le
    refine ⟨fun L'' h => ∃ (least' : Int) (X' : AV) (H1' : Heap), eqv L'' [.int .i64 least', X'] ∧ H.le H1' ∧ Grow 1 H1' h X' (flt (i + 1) least').length ((flt (i + 1) least').map fun G => sl (up G)) ∧ (∀ G ∈ L.take (i + 1), least' ≤ cstL w ws 0 G) ∧ ∃ G ∈ L.take (i + 1), cstL w ws 0 G = least', ?_, ?_⟩
    · refine lists_get hx ?_
      refine lists_get hx ?_
      simp only [letO_some, cellsOf?_agg, cellsOf?_int, cellsOf?_bool, cellsOf?_imm, cellsOf?_ref, cellsOf?_nils, faddr_iptr, faddr_ptr, List.drop_succ_cons, List.drop_zero, List.take_succ_cons, List.take_zero, load1_iptr, loadN_iptr, List.length_cons, List.length_nil, Nat.le_refl, if_true, List.getElem?_cons_zero, List.getElem?_cons_succ, List.getD_cons_zero, List.getD_cons_succ, extrF_tup, binF_add, binF_sub, binF_mul, binF_eql, binF_neq, binF_lss, binF_leq, binF_gtr, binF_geq, true_and, sl_up_len]
      rw [wrap_i64 (by omega) (by omega), show ((F.length : Int) - 1) = ((F.length - 1 : Nat) : Int) by omega]
      refine c66 (ends := up F) (m := F.length - 1) (hv.le hleH) (Reads.sl _ _) hc (by rw [toN_up]) (by simp) (by simp; omega) (by simpa [toN_up] using hlines) ?_
      rw [toN_up, want_cstL hFne]
      generalize hcF : cstL w ws 0 F = cF at *
      try simp only [letO_some, cellsOf?_agg, cellsOf?_int, cellsOf?_bool, cellsOf?_imm, cellsOf?_ref, cellsOf?_nils, faddr_iptr, faddr_ptr, List.drop_succ_cons, List.drop_zero, List.take_succ_cons, List.take_zero, load1_iptr, loadN_iptr, List.length_cons, List.length_nil, Nat.le_refl, if_true, List.getElem?_cons_zero, List.getElem?_cons_succ, List.getD_cons_zero, List.getD_cons_succ, extrF_tup, binF_add, binF_sub, binF_mul, binF_eql, binF_neq, binF_lss, binF_leq, binF_gtr, binF_geq, true_and]
      refine ⟨fun L'' h => ∃ (least' : Int) (X' : AV) (H1' : Heap), eqv L'' [.int .i64 least', X'] ∧ H.le H1' ∧ Grow 1 H1' h X' (flt i least').length ((flt i least').map fun G => sl (up G)) ∧ least' ≤ cF ∧ (∀ G ∈ L.take i, least' ≤ cstL w ws 0 G) ∧ (least' = cF ∨ ∃ G ∈ L.take i, cstL w ws 0 G = least'), ?_, ?_⟩
      · have new : (i = 0 ∨ cF < least) → ∃ (least' : Int) (X' : AV) (H1' : Heap), eqv [AV.int .i64 cF, AV.nils] [.int .i64 least', X'] ∧ H.le H1' ∧ Grow 1 H1' H' X' (flt i least').length ((flt i least').map fun G => sl (up G)) ∧ least' ≤ cF ∧ (∀ G ∈ L.take i, least' ≤ cstL w ws 0 G) ∧ (least' = cF ∨ ∃ G ∈ L.take i, cstL w ws 0 G = least') := by
          intro h
          have hgt : ∀ G ∈ L.take i, cF < cstL w ws 0 G := by
            intro G hG
            rcases h with h | h
            · subst h; simp at hG
            · have := hmin G hG; omega
          have hnil : flt i cF = [] := by
            simp only [flt]
            rw [List.filter_eq_nil_iff]
            intro G hG
            have := hgt G hG
            simp; omega
          refine ⟨cF, .nils, H', rfl, hleH, by rw [hnil]; exact Grow.nils 1 H', Int.le_refl _, fun G hG => by have := hgt G hG; omega, .inl rfl⟩
        by_cases hi0 : i = 0
        · subst hi0
          have e : (((0 : Nat) : Int) == 0) = true := rfl
          simp only [e, gval_bool, Bool.true_eq_false, if_false, letO_some, pickF_true, condA_tt]
          exact new (.inl rfl)
        · have e : ((i : Int) == 0) = false := by simp; omega
          simp only [e, gval_bool, if_true, letO_some, binF_lss, pickF_false]
          refine condA_t (fun hl1 => ?_) (fun hn1 => ?_)
          · exact new (.inr hl1)
          · exact ⟨least, X, H1, rfl, hle1, hg, by omega, hmin, .inr (hex (by omega))⟩
      · rintro L'' h ⟨least', X', H1', rfl, q1, q2, q3, q4, q5⟩
        simp only [letO_some, cellsOf?_agg, cellsOf?_int, cellsOf?_bool, cellsOf?_imm, cellsOf?_ref, cellsOf?_nils, faddr_iptr, faddr_ptr, List.drop_succ_cons, List.drop_zero, List.take_succ_cons, List.take_zero, load1_iptr, loadN_iptr, List.length_cons, List.length_nil, Nat.le_refl, if_true, List.getElem?_cons_zero, List.getElem?_cons_succ, List.getD_cons_zero, List.getD_cons_succ, extrF_tup, binF_add, binF_sub, binF_mul, binF_eql, binF_neq, binF_lss, binF_leq, binF_gtr, binF_geq, true_and, condA_bool]
        have hflt : flt (i + 1) least' = flt i least' ++ if cF = least' then [F] else [] := by
          simp only [flt, htake, List.filter_append, List.filter_cons, List.filter_nil, hcF]
          by_cases he : cF = least' <;> simp [he]
        have hall : ∀ G ∈ L.take (i + 1), least' ≤ cstL w ws 0 G := by
          intro G hG
          rw [htake] at hG
          rcases List.mem_append.1 hG with hG | hG
          · exact q4 G hG
          · rw [List.mem_singleton] at hG; subst hG; omega
        refine ⟨fun he => ?_, fun he => ?_⟩
        · have he : cF = least' := by simpa using he
          rw [if_pos he] at hflt
          refine lists_get hx ?_
          simp only [l88 (show cellsOf? (sl (up F)) = some [sl (up F)] from rfl), letO_some]
          have hfb := hfl i least'
          refine appendA_grow q2 (m := 1) (new := [sl (up F)]) (by simp [srcOf]) rfl rfl (by omega) (by omega) fun v' H7 g7 => ?_
          refine ⟨least', v', H1', rfl, q1, ?_, hall, F, by rw [htake]; simp, by omega⟩
          rw [hflt, List.length_append, List.map_append]
          exact g7
        · have he : ¬ cF = least' := by simpa using he
          rw [if_neg he, List.append_nil] at hflt
          refine ⟨least', X', H1', rfl, q1, by rw [hflt]; exact q2, hall, ?_⟩
          rcases q5 with h | ⟨G, hG, h⟩
          · exact absurd h.symm he
          · exact ⟨G, by rw [htake]; exact List.mem_append.2 (.inl hG), h⟩
    · rintro L'' h ⟨least', X', H1', rfl, q1, q2, q3, q4⟩
      simp only [letO_some, cellsOf?_agg, cellsOf?_int, cellsOf?_bool, cellsOf?_imm, cellsOf?_ref, cellsOf?_nils, faddr_iptr, faddr_ptr, List.drop_succ_cons, List.drop_zero, List.take_succ_cons, List.take_zero, load1_iptr, loadN_iptr, List.length_cons, List.length_nil, Nat.le_refl, if_true, List.getElem?_cons_zero, List.getElem?_cons_succ, List.getD_cons_zero, List.getD_cons_succ, extrF_tup, binF_add, binF_sub, binF_mul, binF_eql, binF_neq, binF_lss, binF_leq, binF_gtr, binF_geq, true_and]
      rw [wrap_i64 (by omega) (by omega)]
      exact ⟨⟨i + 1, least', X', H1', rfl, by omega, q1, q2, q3, fun _ => q4⟩, by simp <;> omega⟩
  · have hil : i = L.length := by omega
    subst hil
    rw [List.take_length] at hmin hex
    have hFm := List.mem_of_mem_head? hb3
    rw [List.mem_filter] at hFm
    have hpos : 0 < L.length := List.length_pos_of_mem hFm.1
    obtain ⟨G, hG, hGc⟩ := hex hpos
    have hbe : least = best := by
      have h1 := hmin _ hFm.1
      have h2 := hb1 G hG
      have h3 := of_decide_eq_true hFm.2
      omega
    subst hbe
    simp only [flt, List.take_length] at hg
    obtain ⟨H2, hl2, hg2⟩ := hg.shrink hle1
    exact endK_pub (Pub.drop hl2) (hg2.end1 hk)

theorem lists_get0 {L : List (List Nat)} {F : List Nat} {H : Heap} (h : L[0]? = some F) {k : AV → Prop} (hk : k (sl (up F))) :
    letO (idx 1 (.imm L.length false (L.map fun G => sl (up G))) (.int .i64 0)) fun p => letO (load1 p H) k := lists_get (i := 0) h hk
theorem bests_head {w : Int} {ws : List Int} (hc : chk w ws = 0) : (bests w ws)[0]? = some (firstL w ws) := by
  obtain ⟨⟨_, _, h⟩, _⟩ := bests_facts hc
  rw [← List.head?_eq_getElem?]; exact h
theorem first_mem {w : Int} {ws : List Int} (hc : chk w ws = 0) : firstL w ws ∈ extM w ws ws.length ws.length 0 ∧ cstL w ws 0 (firstL w ws) = ((rst w ws ws.length ws.length).getD 0 (0, 0, 0)).1 := by
  obtain ⟨⟨_, _, h⟩, _⟩ := bests_facts hc
  have := List.mem_of_mem_head? h
  rw [List.mem_filter] at this
  exact ⟨this.1, of_decide_eq_true this.2⟩

/-- First, of the reference -/
theorem c18 {w : Int} {v : AV} {ws : List Int} {H : Heap} {K : AV → Heap → Prop} (hv : Reads H v ws) (hlen : ws.length < 2 ^ 60) (hk : K (.tup [sl (firstO w ws), .int .i64 (chk w ws)]) H) : ACalls Try.prog 18 [.agg [.int .i64 w, v]] H K := by
  apply W18_ok
  unfold W18
  simp only [letO_some, cellsOf?_agg, cellsOf?_int, cellsOf?_bool, cellsOf?_imm, cellsOf?_ref, cellsOf?_nils, faddr_iptr, faddr_ptr, List.drop_succ_cons, List.drop_zero, List.take_succ_cons, List.take_zero, load1_iptr, loadN_iptr, List.length_cons, List.length_nil, Nat.le_refl, if_true, List.getElem?_cons_zero, List.getElem?_cons_succ, List.getD_cons_zero, List.getD_cons_succ, extrF_tup, binF_add, binF_sub, binF_mul, binF_eql, binF_neq, binF_lss, binF_leq, binF_gtr, binF_geq, true_and]
  refine c51 hv (by omega) ?_
  simp only [letO_some, cellsOf?_agg, cellsOf?_int, cellsOf?_bool, cellsOf?_imm, cellsOf?_ref, cellsOf?_nils, faddr_iptr, faddr_ptr, List.drop_succ_cons, List.drop_zero, List.take_succ_cons, List.take_zero, load1_iptr, loadN_iptr, List.length_cons, List.length_nil, Nat.le_refl, if_true, List.getElem?_cons_zero, List.getElem?_cons_succ, List.getD_cons_zero, List.getD_cons_succ, extrF_tup, binF_add, binF_sub, binF_mul, binF_eql, binF_neq, binF_lss, binF_leq, binF_gtr, binF_geq, true_and, condA_bool]
  refine ⟨fun h => ?_, fun h => ?_⟩
  · have h : ¬ chk w ws = 0 := by simpa using h
    rw [firstO, if_neg h] at hk
    exact endK_nil (Heap.le_refl _) hk
  have hc : chk w ws = 0 := by simpa using h
  rw [firstO, if_pos hc, hc] at hk
  refine c65 hv hc ?_
  refine lists_get0 (bests_head hc) ?_
  try simp only [letO_some, cellsOf?_agg, cellsOf?_int, cellsOf?_bool, cellsOf?_imm, cellsOf?_ref, cellsOf?_nils, faddr_iptr, faddr_ptr, List.drop_succ_cons, List.drop_zero, List.take_succ_cons, List.take_zero, load1_iptr, loadN_iptr, List.length_cons, List.length_nil, Nat.le_refl, if_true, List.getElem?_cons_zero, List.getElem?_cons_succ, List.getD_cons_zero, List.getD_cons_succ, extrF_tup, binF_add, binF_sub, binF_mul, binF_eql, binF_neq, binF_lss, binF_leq, binF_gtr, binF_geq, true_and]
  exact endK_ret hk
/-- Least, of the reference -/
theorem c20 {w : Int} {v : AV} {ws : List Int} {H : Heap} {K : AV → Heap → Prop} (hv : Reads H v ws) (hlen : ws.length < 2 ^ 60) (hk : K (.tup [.int .i64 (bestO w ws).1, .int .i64 (chk w ws)]) H) : ACalls Try.prog 20 [.agg [.int .i64 w, v]] H K := by
  apply W20_ok
  unfold W20
  simp only [letO_some, cellsOf?_agg, cellsOf?_int, cellsOf?_bool, cellsOf?_imm, cellsOf?_ref, cellsOf?_nils, faddr_iptr, faddr_ptr, List.drop_succ_cons, List.drop_zero, List.take_succ_cons, List.take_zero, load1_iptr, loadN_iptr, List.length_cons, List.length_nil, Nat.le_refl, if_true, List.getElem?_cons_zero, List.getElem?_cons_succ, List.getD_cons_zero, List.getD_cons_succ, extrF_tup, binF_add, binF_sub, binF_mul, binF_eql, binF_neq, binF_lss, binF_leq, binF_gtr, binF_geq, true_and]
  refine c51 hv (by omega) ?_
  simp only [letO_some, cellsOf?_agg, cellsOf?_int, cellsOf?_bool, cellsOf?_imm, cellsOf?_ref, cellsOf?_nils, faddr_iptr, faddr_ptr, List.drop_succ_cons, List.drop_zero, List.take_succ_cons, List.take_zero, load1_iptr, loadN_iptr, List.length_cons, List.length_nil, Nat.le_refl, if_true, List.getElem?_cons_zero, List.getElem?_cons_succ, List.getD_cons_zero, List.getD_cons_succ, extrF_tup, binF_add, binF_sub, binF_mul, binF_eql, binF_neq, binF_lss, binF_leq, binF_gtr, binF_geq, true_and, condA_bool]
  refine ⟨fun h => ?_, fun h => ?_⟩
  · have h : ¬ chk w ws = 0 := by simpa using h
    rw [bestO, if_neg h] at hk
    exact endK_ret hk
  have hc : chk w ws = 0 := by simpa using h
  obtain ⟨w1, w2, n1, n2, hws⟩ := chk_ok hc
  rw [bestO, if_pos hc, hc] at hk
  refine c65 hv hc ?_
  refine lists_get0 (bests_head hc) ?_
  obtain ⟨hm, hcst⟩ := first_mem hc
  obtain ⟨g1, g2⟩ := (mem_extM ws.length 0 _ (by omega) (by omega)).1 hm
  generalize firstL w ws = F at *
  have hlines := chn_lines (n := ws.length) g1 (by omega)
  have hflen := chn_length g1
  rw [g2, Nat.add_zero] at hflen
  have hFne : F ≠ [] := by rintro rfl; simp at g2; omega
  have hFpos : 0 < F.length := List.length_pos_iff.2 hFne
  simp only [letO_some, cellsOf?_agg, cellsOf?_int, cellsOf?_bool, cellsOf?_imm, cellsOf?_ref, cellsOf?_nils, faddr_iptr, faddr_ptr, List.drop_succ_cons, List.drop_zero, List.take_succ_cons, List.take_zero, load1_iptr, loadN_iptr, List.length_cons, List.length_nil, Nat.le_refl, if_true, List.getElem?_cons_zero, List.getElem?_cons_succ, List.getD_cons_zero, List.getD_cons_succ, extrF_tup, binF_add, binF_sub, binF_mul, binF_eql, binF_neq, binF_lss, binF_leq, binF_gtr, binF_geq, true_and, sl_up_len]
  rw [wrap_i64 (by omega) (by omega), show ((F.length : Int) - 1) = ((F.length - 1 : Nat) : Int) by omega]
  refine c66 (ends := up F) (m := F.length - 1) hv (Reads.sl _ _) hc (by rw [toN_up]) (by simp) (by simp; omega) (by simpa [toN_up] using hlines) ?_
  rw [toN_up, want_cstL hFne, hcst]
  try simp only [letO_some, cellsOf?_agg, cellsOf?_int, cellsOf?_bool, cellsOf?_imm, cellsOf?_ref, cellsOf?_nils, faddr_iptr, faddr_ptr, List.drop_succ_cons, List.drop_zero, List.take_succ_cons, List.take_zero, load1_iptr, loadN_iptr, List.length_cons, List.length_nil, Nat.le_refl, if_true, List.getElem?_cons_zero, List.getElem?_cons_succ, List.getD_cons_zero, List.getD_cons_succ, extrF_tup, binF_add, binF_sub, binF_mul, binF_eql, binF_neq, binF_lss, binF_leq, binF_gtr, binF_geq, true_and]
  exact endK_ret hk
/-- Count, of the reference -/
theorem c22 {w : Int} {v : AV} {ws : List Int} {H : Heap} {K : AV → Heap → Prop} (hv : Reads H v ws) (hlen : ws.length < 2 ^ 60) (hk : K (.tup [.int .i64 (bestO w ws).2.2, .int .i64 (chk w ws)]) H) : ACalls Try.prog 22 [.agg [.int .i64 w, v]] H K := by
  apply W22_ok
  unfold W22
  simp only [letO_some, cellsOf?_agg, cellsOf?_int, cellsOf?_bool, cellsOf?_imm, cellsOf?_ref, cellsOf?_nils, faddr_iptr, faddr_ptr, List.drop_succ_cons, List.drop_zero, List.take_succ_cons, List.take_zero, load1_iptr, loadN_iptr, List.length_cons, List.length_nil, Nat.le_refl, if_true, List.getElem?_cons_zero, List.getElem?_cons_succ, List.getD_cons_zero, List.getD_cons_succ, extrF_tup, binF_add, binF_sub, binF_mul, binF_eql, binF_neq, binF_lss, binF_leq, binF_gtr, binF_geq, true_and]
  refine c51 hv (by omega) ?_
  simp only [letO_some, cellsOf?_agg, cellsOf?_int, cellsOf?_bool, cellsOf?_imm, cellsOf?_ref, cellsOf?_nils, faddr_iptr, faddr_ptr, List.drop_succ_cons, List.drop_zero, List.take_succ_cons, List.take_zero, load1_iptr, loadN_iptr, List.length_cons, List.length_nil, Nat.le_refl, if_true, List.getElem?_cons_zero, List.getElem?_cons_succ, List.getD_cons_zero, List.getD_cons_succ, extrF_tup, binF_add, binF_sub, binF_mul, binF_eql, binF_neq, binF_lss, binF_leq, binF_gtr, binF_geq, true_and, condA_bool]
  refine ⟨fun h => ?_, fun h => ?_⟩
  · have h : ¬ chk w ws = 0 := by simpa using h
    rw [bestO, if_neg h] at hk
    exact endK_ret hk
  have hc : chk w ws = 0 := by simpa using h
  rw [bestO, if_pos hc, hc] at hk
  refine c65 hv hc ?_
  obtain ⟨⟨_, h2, _⟩, _⟩ := bests_facts hc
  have hbl : (bests w ws).length = ((rst w ws ws.length ws.length).getD 0 (0, 0, 0)).2.2 := h2
  have hl : lenA (.imm (bests w ws).length false ((bests w ws).map fun G => sl (up G))) = some (.int .i64 (((rst w ws ws.length ws.length).getD 0 (0, 0, 0)).2.2 : Nat)) := by rw [← hbl]; rfl
  simp only [letO_some, cellsOf?_agg, cellsOf?_int, cellsOf?_bool, cellsOf?_imm, cellsOf?_ref, cellsOf?_nils, faddr_iptr, faddr_ptr, List.drop_succ_cons, List.drop_zero, List.take_succ_cons, List.take_zero, load1_iptr, loadN_iptr, List.length_cons, List.length_nil, Nat.le_refl, if_true, List.getElem?_cons_zero, List.getElem?_cons_succ, List.getD_cons_zero, List.getD_cons_succ, extrF_tup, binF_add, binF_sub, binF_mul, binF_eql, binF_neq, binF_lss, binF_leq, binF_gtr, binF_geq, true_and, hl]
  exact endK_ret hk
end Go.Proofs.Ytlajhbpkogekfaa

namespace Go.Proofs.Ytlajhbpkogekfaa
open Go.Av Line
set_option linter.unusedVariables false
set_option linter.unusedSimpArgs false
set_option maxRecDepth 4000

theorem firstO_len {w : Int} {ws : List Int} : (firstO w ws).length ≤ ws.length := by
  unfold firstO
  split
  · have : ∀ (R : List Best) (n f a : Nat), (firstE R n f a).length ≤ f := by
      intro R n f
      induction f with
      | zero => intro a; simp [firstE]
      | succ f ih =>
        intro a
        rw [firstE]
        split
        · have := ih (R.getD a (0, 0, 0)).2.1; rw [List.length_cons]; omega
        · simp
    rw [up_length]
    exact this _ _ _ _
  · simp
/-- LineBests -/
theorem c3 {w : Int} {ws : List Int} {H : Heap} {K : AV → Heap → Prop} (hk : ∀ H', H.le H' → K (.bool true) H') : ACalls Try.prog 3 [.agg [.int .i64 w, sl ws]] H K := by
  apply W3_ok
  unfold W3
  have hv : ∀ {H : Heap}, Reads H (sl ws) ws := Reads.sl _ _
  have hvl := (Reads.sl H ws).len
  simp only [letO_some, cellsOf?_agg, cellsOf?_int, cellsOf?_bool, cellsOf?_imm, cellsOf?_ref, cellsOf?_nils, faddr_iptr, faddr_ptr, List.drop_succ_cons, List.drop_zero, List.take_succ_cons, List.take_zero, load1_iptr, loadN_iptr, List.length_cons, List.length_nil, Nat.le_refl, if_true, List.getElem?_cons_zero, List.getElem?_cons_succ, List.getD_cons_zero, List.getD_cons_succ, extrF_tup, binF_add, binF_sub, binF_mul, binF_eql, binF_neq, binF_lss, binF_leq, binF_gtr, binF_geq, true_and, hvl, condA_bool]
  refine ⟨fun _ => c16 (endK_ret (hk _ (Heap.le_refl _))), fun h1 => ?_⟩
  have h1 : ws.length ≤ 40 := by simp at h1; omega
  refine alloc_store (cs := [.int .i64 w, sl ws]) rfl rfl rfl rfl fun b hb => ?_
  have hle := Heap.le_put_self (cs := [.int .i64 w, sl ws]) hb
  have hL : loadN 2 (.ptr b 0) (H.put b [.int .i64 w, sl ws]) = some (.agg [.int .i64 w, sl ws]) := loadN_at (cells := [.int .i64 w, sl ws]) Heap.put_same
  generalize H.put b [.int .i64 w, sl ws] = H4 at *
  have l1 : ws.length < 2 ^ 60 := by omega
  refine c17 hv l1 ?_
  simp only [letO_some, cellsOf?_agg, cellsOf?_int, cellsOf?_bool, cellsOf?_imm, cellsOf?_ref, cellsOf?_nils, faddr_iptr, faddr_ptr, List.drop_succ_cons, List.drop_zero, List.take_succ_cons, List.take_zero, load1_iptr, loadN_iptr, List.length_cons, List.length_nil, Nat.le_refl, if_true, List.getElem?_cons_zero, List.getElem?_cons_succ, List.getD_cons_zero, List.getD_cons_succ, extrF_tup, binF_add, binF_sub, binF_mul, binF_eql, binF_neq, binF_lss, binF_leq, binF_gtr, binF_geq, true_and, hL]
  refine c18 hv l1 ?_
  simp only [letO_some, cellsOf?_agg, cellsOf?_int, cellsOf?_bool, cellsOf?_imm, cellsOf?_ref, cellsOf?_nils, faddr_iptr, faddr_ptr, List.drop_succ_cons, List.drop_zero, List.take_succ_cons, List.take_zero, load1_iptr, loadN_iptr, List.length_cons, List.length_nil, Nat.le_refl, if_true, List.getElem?_cons_zero, List.getElem?_cons_succ, List.getD_cons_zero, List.getD_cons_succ, extrF_tup, binF_add, binF_sub, binF_mul, binF_eql, binF_neq, binF_lss, binF_leq, binF_gtr, binF_geq, true_and]
  refine c19 hv l1 ?_
  simp only [letO_some, cellsOf?_agg, cellsOf?_int, cellsOf?_bool, cellsOf?_imm, cellsOf?_ref, cellsOf?_nils, faddr_iptr, faddr_ptr, List.drop_succ_cons, List.drop_zero, List.take_succ_cons, List.take_zero, load1_iptr, loadN_iptr, List.length_cons, List.length_nil, Nat.le_refl, if_true, List.getElem?_cons_zero, List.getElem?_cons_succ, List.getD_cons_zero, List.getD_cons_succ, extrF_tup, binF_add, binF_sub, binF_mul, binF_eql, binF_neq, binF_lss, binF_leq, binF_gtr, binF_geq, true_and, hL]
  refine c20 hv l1 ?_
  simp only [letO_some, cellsOf?_agg, cellsOf?_int, cellsOf?_bool, cellsOf?_imm, cellsOf?_ref, cellsOf?_nils, faddr_iptr, faddr_ptr, List.drop_succ_cons, List.drop_zero, List.take_succ_cons, List.take_zero, load1_iptr, loadN_iptr, List.length_cons, List.length_nil, Nat.le_refl, if_true, List.getElem?_cons_zero, List.getElem?_cons_succ, List.getD_cons_zero, List.getD_cons_succ, extrF_tup, binF_add, binF_sub, binF_mul, binF_eql, binF_neq, binF_lss, binF_leq, binF_gtr, binF_geq, true_and]
  refine c21 hv l1 ?_
  simp only [letO_some, cellsOf?_agg, cellsOf?_int, cellsOf?_bool, cellsOf?_imm, cellsOf?_ref, cellsOf?_nils, faddr_iptr, faddr_ptr, List.drop_succ_cons, List.drop_zero, List.take_succ_cons, List.take_zero, load1_iptr, loadN_iptr, List.length_cons, List.length_nil, Nat.le_refl, if_true, List.getElem?_cons_zero, List.getElem?_cons_succ, List.getD_cons_zero, List.getD_cons_succ, extrF_tup, binF_add, binF_sub, binF_mul, binF_eql, binF_neq, binF_lss, binF_leq, binF_gtr, binF_geq, true_and, hL]
  refine c22 hv l1 ?_
  simp only [letO_some, cellsOf?_agg, cellsOf?_int, cellsOf?_bool, cellsOf?_imm, cellsOf?_ref, cellsOf?_nils, faddr_iptr, faddr_ptr, List.drop_succ_cons, List.drop_zero, List.take_succ_cons, List.take_zero, load1_iptr, loadN_iptr, List.length_cons, List.length_nil, Nat.le_refl, if_true, List.getElem?_cons_zero, List.getElem?_cons_succ, List.getD_cons_zero, List.getD_cons_succ, extrF_tup, binF_add, binF_sub, binF_mul, binF_eql, binF_neq, binF_lss, binF_leq, binF_gtr, binF_geq, true_and]
  refine c23 hv l1 ?_
  simp only [letO_some, cellsOf?_agg, cellsOf?_int, cellsOf?_bool, cellsOf?_imm, cellsOf?_ref, cellsOf?_nils, faddr_iptr, faddr_ptr, List.drop_succ_cons, List.drop_zero, List.take_succ_cons, List.take_zero, load1_iptr, loadN_iptr, List.length_cons, List.length_nil, Nat.le_refl, if_true, List.getElem?_cons_zero, List.getElem?_cons_succ, List.getD_cons_zero, List.getD_cons_succ, extrF_tup, binF_add, binF_sub, binF_mul, binF_eql, binF_neq, binF_lss, binF_leq, binF_gtr, binF_geq, true_and, hL]
  refine c24 hv l1 ?_
  simp only [letO_some, cellsOf?_agg, cellsOf?_int, cellsOf?_bool, cellsOf?_imm, cellsOf?_ref, cellsOf?_nils, faddr_iptr, faddr_ptr, List.drop_succ_cons, List.drop_zero, List.take_succ_cons, List.take_zero, load1_iptr, loadN_iptr, List.length_cons, List.length_nil, Nat.le_refl, if_true, List.getElem?_cons_zero, List.getElem?_cons_succ, List.getD_cons_zero, List.getD_cons_succ, extrF_tup, binF_add, binF_sub, binF_mul, binF_eql, binF_neq, binF_lss, binF_leq, binF_gtr, binF_geq, true_and]
  have hfl := firstO_len (w := w) (ws := ws)
  have hso : (startsO w ws).length ≤ 40 := by
    unfold startsO
    split
    · rw [starts_len]; omega
    · simp
  refine c25p (Reads.sl _ _) (Reads.sl _ _) (by omega) ?_
  have d1 : ∀ l : List Int, decide (l = l) = true := fun l => decide_eq_true rfl
  simp only [d1, decide_true, beq_self_eq_true, letO_some, cellsOf?_agg, cellsOf?_int, cellsOf?_bool, cellsOf?_imm, cellsOf?_ref, cellsOf?_nils, faddr_iptr, faddr_ptr, List.drop_succ_cons, List.drop_zero, List.take_succ_cons, List.take_zero, load1_iptr, loadN_iptr, List.length_cons, List.length_nil, Nat.le_refl, if_true, List.getElem?_cons_zero, List.getElem?_cons_succ, List.getD_cons_zero, List.getD_cons_succ, extrF_tup, binF_add, binF_sub, binF_mul, binF_eql, binF_neq, binF_lss, binF_leq, binF_gtr, binF_geq, true_and, gval_bool, Int.reduceBNe, Int.reduceBEq, pickF_true, pickF_false, reduceIte, Bool.true_eq_false, Bool.false_eq_true, if_false, condA_tt, condA_ff, condG_tt, condG_ff, condG_tt', condG_ff', condG_undef, gval_undef]
  refine exJ ?_
  refine c25p (Reads.sl _ _) (Reads.sl _ _) (by omega) ?_
  simp only [d1, decide_true, beq_self_eq_true, letO_some, cellsOf?_agg, cellsOf?_int, cellsOf?_bool, cellsOf?_imm, cellsOf?_ref, cellsOf?_nils, faddr_iptr, faddr_ptr, List.drop_succ_cons, List.drop_zero, List.take_succ_cons, List.take_zero, load1_iptr, loadN_iptr, List.length_cons, List.length_nil, Nat.le_refl, if_true, List.getElem?_cons_zero, List.getElem?_cons_succ, List.getD_cons_zero, List.getD_cons_succ, extrF_tup, binF_add, binF_sub, binF_mul, binF_eql, binF_neq, binF_lss, binF_leq, binF_gtr, binF_geq, true_and, gval_bool, Int.reduceBNe, Int.reduceBEq, pickF_true, pickF_false, reduceIte, Bool.true_eq_false, Bool.false_eq_true, if_false, condA_tt, condA_ff, condG_tt, condG_ff, condG_tt', condG_ff', condG_undef, gval_undef]
  refine exJ ?_
  refine c16 ?_
  try simp only [letO_some, cellsOf?_agg, cellsOf?_int, cellsOf?_bool, cellsOf?_imm, cellsOf?_ref, cellsOf?_nils, faddr_iptr, faddr_ptr, List.drop_succ_cons, List.drop_zero, List.take_succ_cons, List.take_zero, load1_iptr, loadN_iptr, List.length_cons, List.length_nil, Nat.le_refl, if_true, List.getElem?_cons_zero, List.getElem?_cons_succ, List.getD_cons_zero, List.getD_cons_succ, extrF_tup, binF_add, binF_sub, binF_mul, binF_eql, binF_neq, binF_lss, binF_leq, binF_gtr, binF_geq, true_and, gval_bool, Int.reduceBNe, Int.reduceBEq, pickF_true, pickF_false, reduceIte, Bool.true_eq_false, Bool.false_eq_true, if_false, condA_tt, condA_ff, condG_tt, condG_ff, condG_tt', condG_ff', condG_undef, gval_undef]
  exact endK_ret (hk _ hle)
theorem lineBests.law {w : Int} {ws : List Int} (_ : -9223372036854775808 ≤ w ∧ w ≤ 9223372036854775807) (_ : ws.length ≤ maxLen) (_ : ∀ n ∈ ws, (-9223372036854775808 ≤ n ∧ n ≤ 9223372036854775807)) :
    ACalls Try.prog 3 [.agg [.int .i64 w, sl ws]] Heap.none fun r _ => r = .bool true := c3 fun _ _ => rfl
end Go.Proofs.Ytlajhbpkogekfaa

/- What prices prove. -/
set_option linter.unusedVariables false
namespace Go.Proofs.Ytlajhbpkogekfaa
open Go.Av Line

theorem ext_extM {w : Int} {ws : List Int} : ∀ (f fr : Nat), ext w ws f fr = extM w ws ws.length f fr
  | 0, fr => by unfold ext extM; rfl
  | f + 1, fr => by
    by_cases h : fr = ws.length
    · subst h; rw [extM_done]; unfold ext; rw [if_pos rfl]
    · rw [ext_succ h, extM_succ h]
      unfold extTo extMTo
      congr 1
      funext d
      rw [ext_extM f]

def good (w : Int) (ws P : List Int) : Prop := P.getD 0 0 = 0 ∧ ∀ i j, i < j → j < ws.length → ¬ viol w ws P i j
theorem potential {w : Int} {ws P : List Int} (hg : good w ws P) (G : List Nat) : chn w ws 0 G → G.getLastD 0 < ws.length → P.getD (G.getLastD 0) 0 ≤ cst w ws 0 G := by
  refine snoc_ind (P := fun G => chn w ws 0 G → G.getLastD 0 < ws.length → P.getD (G.getLastD 0) 0 ≤ cst w ws 0 G) (fun _ _ => ?_) (fun G j ih h1 h2 => ?_) G
  · have := hg.1
    simp only [List.getLastD_nil, cst]; omega
  · obtain ⟨g1, g2, g3⟩ := chn_snoc.1 h1
    rw [lastD_one] at h2
    have h3 := ih g1 (by omega)
    have h4 := hg.2 _ _ g2 h2
    rw [lastD_one, cst_snoc]
    unfold viol at h4
    have : ¬ (P.getD (G.getLastD 0) 0 + sqf w ws (G.getLastD 0) j < P.getD j 0) := fun h => h4 ⟨g3, h⟩
    omega
theorem snoc_of {F : List Nat} (h : F ≠ []) : ∃ G j, F = G ++ [j] := ⟨F.dropLast, F.getLast h, (List.dropLast_concat_getLast h).symm⟩
theorem good_le {w : Int} {ws P : List Int} (hc : chk w ws = 0) (hg : good w ws P) : mn w ws P ws.length (P.getD (ws.length - 1) 0) ≤ ((rst w ws ws.length ws.length).getD 0 (0, 0, 0)).1 := by
  obtain ⟨w1, w2, n1, n2, hws⟩ := chk_ok hc
  obtain ⟨hm, hcst⟩ := first_mem hc
  obtain ⟨g1, g2⟩ := (mem_extM ws.length 0 _ (by omega) (by omega)).1 hm
  rw [← hcst]
  generalize firstL w ws = F at *
  have hne : F ≠ [] := by rintro rfl; simp at g2; omega
  obtain ⟨G, j, rfl⟩ := snoc_of hne
  rw [lastD_one] at g2
  subst g2
  obtain ⟨c1, c2, c3⟩ := chn_snoc.1 g1
  rw [cstL_snoc]
  have h1 := potential hg G c1 c2
  have h2 := (mn_spec (w := w) (ws := ws) (P := P) ws.length (P.getD (ws.length - 1) 0)).2.1 _ c2 c3
  omega

theorem prices_at {w : Int} {ws : List Int} {k : Nat} (h : k < ws.length) : (pricesL w ws).getD k 0 = ((pls w ws k).getD k (0, 0)).1 := by
  rw [List.getD_eq_getElem?_getD, prices_get h]; rfl
theorem pls_bd {w : Int} {ws : List Int} (hc : chk w ws = 0) : ∀ k, k ≤ ws.length → 0 ≤ ((pls w ws k).getD k (0, 0)).1 ∧ ((pls w ws k).getD k (0, 0)).1 ≤ 1521 * k
  | 0, _ => by simp [pls]
  | k + 1, hk => by
    obtain ⟨w1, w2, n1, n2, hws⟩ := chk_ok hc
    have hb := pls_bst hc (k := k) (by omega)
    have hlow := (pls_lex hc (k + 1) hk (by omega)).1
    obtain ⟨F, _, hF, _⟩ := hlow
    have hnn : ∀ (F : List Nat) fr, 0 ≤ cst w ws fr F := by
      intro F
      induction F with
      | nil => intro fr; simp [cst]
      | cons a F ih => intro fr; have := ih a; have := (sqf_bnd hc fr a).1; rw [cst]; omega
    have h0 := hnn F 0
    obtain ⟨_, _, _, h4⟩ := hb
    have h5 := (h4 k (by omega) (lf_one hc (by omega))).1
    have ih := pls_bd hc k (by omega)
    unfold costL at h5
    have hl : 0 ≤ lf w ws k (k + 1) ∧ lf w ws k (k + 1) ≤ 39 := by
      refine ⟨lf_one hc (by omega), ?_⟩
      rw [lf_eq (by omega) (by omega), psum_succ (by omega)]
      have : ws.getD k 0 ∈ ws := by rw [List.getD_eq_getElem?_getD]; simp [show k < ws.length by omega]
      have := hws _ this
      omega
    have hs := sq_le (x := lf w ws k (k + 1)) 39 (by omega)
    have hsq : sqf w ws k (k + 1) = lf w ws k (k + 1) * lf w ws k (k + 1) := rfl
    simp at hs
    omega
theorem prices_good {w : Int} {ws : List Int} (hc : chk w ws = 0) : good w ws (pricesL w ws) := by
  obtain ⟨w1, w2, n1, n2, hws⟩ := chk_ok hc
  refine ⟨by rw [prices_at (by omega)]; simp [pls], fun i j h1 h2 h3 => ?_⟩
  obtain ⟨h4, h5⟩ := h3
  rw [prices_at (by omega), prices_at h2] at h5
  obtain ⟨k, rfl⟩ : ∃ k, j = k + 1 := ⟨j - 1, by omega⟩
  have := (pls_bst hc (k := k) (by omega)).2.2.2 i (by omega) h4
  have h6 := pls_get (w := w) (ws := ws) (k := i) (m := i) (Nat.le_refl _) (k - i)
  rw [show i + (k - i) = k by omega] at h6
  unfold costL at this
  rw [h6] at this
  omega
theorem in_range {w : Int} {ws P : List Int} (hl : P.length = ws.length) (hr : ∀ k, k < ws.length → 0 ≤ P.getD k 0 ∧ P.getD k 0 ≤ 20000) : P.any badP = false := by
  rw [List.any_eq_false]
  intro x hx
  obtain ⟨k, hk, rfl⟩ := List.mem_iff_getElem.1 hx
  have := hr k (by omega)
  rw [List.getD_eq_getElem?_getD, List.getElem?_eq_getElem hk] at this
  simp only [Option.getD_some] at this
  simp only [badP, decide_eq_true_eq]
  omega
theorem bnd_good {w : Int} {ws P : List Int} (hc : chk w ws = 0) (hl : P.length = ws.length) (hr : ∀ k, k < ws.length → 0 ≤ P.getD k 0 ∧ P.getD k 0 ≤ 20000) (hg : good w ws P) : bndR w ws P = (mn w ws P ws.length (P.getD (ws.length - 1) 0), 0) := by
  obtain ⟨w1, w2, n1, n2, hws⟩ := chk_ok hc
  have hb := bndI_good (w := w) (ws := ws) (P := P) hc hg.2 20000 ws.length 0 (by omega)
  rw [mn] at hb
  have h0 := hg.1
  rw [bndR, if_neg (by omega), if_neg (by rw [in_range (w := w) hl hr]; simp), if_neg (by omega), hb, mn_same hc (hr _ (by omega)).2]
theorem bnd_bad {w : Int} {ws P : List Int} (hc : chk w ws = 0) (hl : P.length = ws.length) (hr : ∀ k, k < ws.length → 0 ≤ P.getD k 0 ∧ P.getD k 0 ≤ 20000) (hg : ¬ good w ws P) : bndR w ws P = (0, 14) := by
  rw [bndR, if_neg (by omega), if_neg (by rw [in_range (w := w) hl hr]; simp)]
  by_cases h0 : P.getD 0 0 = 0
  · rw [if_neg (by omega)]
    have : ∃ i j, i < j ∧ j < ws.length ∧ viol w ws P i j := by
      refine Classical.byContradiction fun h => hg ⟨h0, fun i j h1 h2 h3 => h ⟨i, j, h1, h2, h3⟩⟩
    obtain ⟨i, j, h1, h2, h3⟩ := this
    rw [bndI_bad hc ws.length 0 20000 (by omega) ⟨i, j, by omega, h1, h2, h3⟩]
  · rw [if_pos h0]
theorem prices_range {w : Int} {ws : List Int} (hc : chk w ws = 0) : ∀ k, k < ws.length → 0 ≤ (pricesL w ws).getD k 0 ∧ (pricesL w ws).getD k 0 ≤ 15210 := by
  intro k hk
  obtain ⟨w1, w2, n1, n2, hws⟩ := chk_ok hc
  have := pls_bd hc k (by omega)
  rw [prices_at hk]; omega
theorem prices_mn {w : Int} {ws : List Int} (hc : chk w ws = 0) : mn w ws (pricesL w ws) ws.length ((pricesL w ws).getD (ws.length - 1) 0) = ((rst w ws ws.length ws.length).getD 0 (0, 0, 0)).1 := by
  obtain ⟨w1, w2, n1, n2, hws⟩ := chk_ok hc
  have h1 := good_le hc (prices_good hc)
  obtain ⟨⟨hb1, _, _⟩, _⟩ := bests_facts hc
  have hi : ∃ i, i < ws.length ∧ 0 ≤ lf w ws i ws.length ∧ mn w ws (pricesL w ws) ws.length ((pricesL w ws).getD (ws.length - 1) 0) = (pricesL w ws).getD i 0 := by
    rcases (mn_spec (w := w) (ws := ws) (P := pricesL w ws) ws.length ((pricesL w ws).getD (ws.length - 1) 0)).2.2 with h | h
    · refine ⟨ws.length - 1, by omega, ?_, h⟩
      have := lf_one hc (show ws.length - 1 < ws.length by omega)
      rwa [show ws.length - 1 + 1 = ws.length by omega] at this
    · exact h
  obtain ⟨i, i1, i2, i3⟩ := hi
  have hG : ∃ G, chn w ws 0 G ∧ G.getLastD 0 = i ∧ cst w ws 0 G = (pricesL w ws).getD i 0 := by
    rw [prices_at i1]
    by_cases h0 : i = 0
    · subst h0; exact ⟨[], trivial, rfl, by simp [pls, cst]⟩
    · obtain ⟨F, a1, a2, _⟩ := (pls_lex hc i (by omega) (by omega)).1
      obtain ⟨b1, b2⟩ := (mem_extM i 0 F (by omega) (by omega)).1 a1
      exact ⟨F, b1, b2, a2⟩
  obtain ⟨G, g1, g2, g3⟩ := hG
  have := hb1 (G ++ [ws.length]) ((mem_extM ws.length 0 _ (by omega) (by omega)).2 ⟨chn_snoc.2 ⟨g1, by omega, by rw [g2]; exact i2⟩, lastD_one _ _⟩)
  rw [cstL_snoc] at this
  omega
theorem bnd_prices {w : Int} {ws : List Int} (hc : chk w ws = 0) : bndR w ws (pricesL w ws) = (((rst w ws ws.length ws.length).getD 0 (0, 0, 0)).1, 0) := by
  rw [bnd_good hc prices_len (fun k hk => by have := prices_range hc k hk; omega) (prices_good hc), prices_mn hc]
theorem first_ok {w : Int} {ws : List Int} (hc : chk w ws = 0) : okEnds w ws (firstL w ws) := by
  have := firstE_ok hc ws.length 0 [] (part_nil w ws) rfl (by omega) (by omega)
  rwa [List.nil_append] at this
theorem first_cost {w : Int} {ws : List Int} (hc : chk w ws = 0) : costE w ws (up (firstL w ws)) = ((rst w ws ws.length ws.length).getD 0 (0, 0, 0)).1 := by
  obtain ⟨w1, w2, n1, n2, hws⟩ := chk_ok hc
  obtain ⟨hm, hcst⟩ := first_mem hc
  obtain ⟨g1, g2⟩ := (mem_extM ws.length 0 _ (by omega) (by omega)).1 hm
  have hok := first_ok hc
  rw [← hcst]
  generalize firstL w ws = F at *
  have hne : F ≠ [] := by rintro rfl; simp at g2; omega
  have hpos : 0 < F.length := List.length_pos_iff.2 hne
  unfold costE
  rw [toN_up, up_length]
  have := costE_eq (w := w) (ws := ws) hok.1 hne F.length (by omega)
  rw [this, ← want_cstL hne]
  obtain ⟨m, hm⟩ : ∃ m, F.length = m + 1 := ⟨F.length - 1, by omega⟩
  rw [hm, Nat.add_sub_cancel, wantE, if_neg (show ¬ (m < m) by omega), Int.add_zero]
theorem first_proves {w : Int} {ws P : List Int} (hc : chk w ws = 0) : provesO w ws (up (firstL w ws)) P = if (bndR w ws P).2 ≠ 0 then (bndR w ws P).2 else if (bndR w ws P).1 ≠ ((rst w ws ws.length ws.length).getD 0 (0, 0, 0)).1 then 14 else 0 := by
  rw [provesO, if_pos (ok_ended hc (first_ok hc)), first_cost hc]
end Go.Proofs.Ytlajhbpkogekfaa

namespace Go.Proofs.Ytlajhbpkogekfaa
open Go.Av Line
set_option linter.unusedVariables false
set_option linter.unusedSimpArgs false
set_option maxRecDepth 4000

def sqs (l : List Int) : Int := (l.map fun x => x * x).sum
theorem sqs_snoc (l : List Int) (x : Int) : sqs (l ++ [x]) = sqs l + x * x := by simp [sqs]
theorem sqs_bd {l : List Int} (h : ∀ x ∈ l, -200000 ≤ x ∧ x ≤ 200000) : 0 ≤ sqs l ∧ sqs l ≤ 40000000000 * l.length := by
  induction l with
  | nil => simp [sqs]
  | cons a l ih =>
    have h1 := ih fun x hx => h x (by simp [hx])
    have h2 := sq_le (x := a) 200000 (by have := h a (by simp); omega)
    have h3 := sq_nn a
    simp only [sqs, List.map_cons, List.sum_cons, List.length_cons] at *
    omega
/-- squares -/
theorem c85 {v : AV} {l : List Int} {H : Heap} {K : AV → Heap → Prop} (hv : Reads H v l) (hl : l.length ≤ 1000) (hb : ∀ x ∈ l, -200000 ≤ x ∧ x ≤ 200000) (hk : K (.int .i64 (sqs l)) H) : ACalls Try.prog 85 [v] H K := by
  apply W85_ok
  unfold W85
  simp only [letO_some, cellsOf?_agg, cellsOf?_int, cellsOf?_bool, cellsOf?_imm, cellsOf?_ref, cellsOf?_nils, faddr_iptr, faddr_ptr, List.drop_succ_cons, List.drop_zero, List.take_succ_cons, List.take_zero, load1_iptr, loadN_iptr, List.length_cons, List.length_nil, Nat.le_refl, if_true, List.getElem?_cons_zero, List.getElem?_cons_succ, List.getD_cons_zero, List.getD_cons_succ, extrF_tup, binF_add, binF_sub, binF_mul, binF_eql, binF_neq, binF_lss, binF_leq, binF_gtr, binF_geq, true_and, hv.len]
  refine ⟨fun L H' => ∃ i : Nat, eqs L [.int .i64 (sqs (l.take i)), .int .i64 i] ∧ i ≤ l.length ∧ eqs H' H, fun L _ => (l.length - iv L 1).toNat, ⟨0, by simp [eqs, sqs], by omega, rfl⟩, ?_⟩
  intro L H' hI
  obtain ⟨i, rfl, hi, rfl⟩ := hI
  simp only [letO_some, cellsOf?_agg, cellsOf?_int, cellsOf?_bool, cellsOf?_imm, cellsOf?_ref, cellsOf?_nils, faddr_iptr, faddr_ptr, List.drop_succ_cons, List.drop_zero, List.take_succ_cons, List.take_zero, load1_iptr, loadN_iptr, List.length_cons, List.length_nil, Nat.le_refl, if_true, List.getElem?_cons_zero, List.getElem?_cons_succ, List.getD_cons_zero, List.getD_cons_succ, extrF_tup, binF_add, binF_sub, binF_mul, binF_eql, binF_neq, binF_lss, binF_leq, binF_gtr, binF_geq, true_and]
  have hbd := sqs_bd (l := l.take i) fun x hx => hb x (List.mem_of_mem_take hx)
  have htl : (l.take i).length = i := by simp; omega
  rw [htl] at hbd
  refine condA_t (fun hlt => ?_) (fun hge => ?_)
  · refine hv.get (Heap.le_refl _) (by omega) hlt ?_
    rw [Int.toNat_natCast]
    have hx : l[i]? = some (l.getD i 0) := by rw [List.getD_eq_getElem?_getD, List.getElem?_eq_getElem (by omega)]; rfl
    have hm := hb _ (List.mem_of_getElem? hx)
    have h2 := sq_le (x := l.getD i 0) 200000 (by omega)
    have h3 := sq_nn (l.getD i 0)
    have ht : l.take (i + 1) = l.take i ++ [l.getD i 0] := by rw [List.take_add_one, hx]; rfl
    simp only [letO_some, cellsOf?_agg, cellsOf?_int, cellsOf?_bool, cellsOf?_imm, cellsOf?_ref, cellsOf?_nils, faddr_iptr, faddr_ptr, List.drop_succ_cons, List.drop_zero, List.take_succ_cons, List.take_zero, load1_iptr, loadN_iptr, List.length_cons, List.length_nil, Nat.le_refl, if_true, List.getElem?_cons_zero, List.getElem?_cons_succ, List.getD_cons_zero, List.getD_cons_succ, extrF_tup, binF_add, binF_sub, binF_mul, binF_eql, binF_neq, binF_lss, binF_leq, binF_gtr, binF_geq, true_and]
    rw [wrap_i64 (n := l.getD i 0 * l.getD i 0) (by omega) (by omega), wrap_i64 (n := sqs (l.take i) + _) (by omega) (by omega), wrap_i64 (by omega) (by omega)]
    refine ⟨⟨i + 1, ?_, by omega, rfl⟩, by simp <;> omega⟩
    rw [ht, sqs_snoc]; rfl
  · have : i = l.length := by omega
    subst this
    rw [List.take_length]
    exact endK_ret hk

theorem sqs_left {w : Int} {ws : List Int} {F : List Nat} {m : Nat} : ∀ k, k ≤ m → sqs (leftL w ws F k) = wantE w ws F m k
  | 0, _ => rfl
  | k + 1, h => by
    rw [leftL_succ, sqs_snoc, wantE, if_pos (by omega), sqs_left (m := m) k (by omega)]; rfl
theorem left_take {w : Int} {ws : List Int} {F : List Nat} {k n : Nat} (h : k ≤ n) : (leftL w ws F n).take k = leftL w ws F k := by
  simp only [leftL, ← List.map_take, List.take_range, Nat.min_eq_left h]

/-- the visitor of best -/
theorem c84 {w : Int} {ws : List Int} {F : List Nat} {X : AV} {m y : Int} {b2 b3 b4 : Nat} {H : Heap} {K : AV → Heap → Prop} (hc : chk w ws = 0) (hF : okEnds w ws F) (h2 : H b2 = some [X]) (h3 : H b3 = some [.int .i64 m]) (h4 : H b4 = some [.int .i64 y])
    (h23 : b2 ≠ b3) (h24 : b2 ≠ b4) (h34 : b3 ≠ b4)
    (k1 : (y = 0 ∨ cstL w ws 0 F < m) → K (.tup []) (((H.put b2 [sl (up F)]).put b3 [.int .i64 (cstL w ws 0 F)]).put b4 [.int .i64 1]))
    (k2 : y ≠ 0 → cstL w ws 0 F = m → K (.tup []) (H.put b4 [.int .i64 (IntKind.i64.wrap (y + 1))]))
    (k3 : y ≠ 0 → m < cstL w ws 0 F → K (.tup []) H) : ACalls Try.prog 84 [sl (up F), sl (leftL w ws F F.length), .ptr b4 0, .ptr b3 0, .ptr b2 0] H K := by
  apply W84_ok
  unfold W84
  obtain ⟨w1, w2, n1, n2, hws⟩ := chk_ok hc
  have hlen : F.length ≤ ws.length := by
    have h2 := scan_len (ended_ok (ok_ended hc hF)).2.1
    simp at h2; omega
  have hne : F ≠ [] := by rintro rfl; have := hF.2.1; simp at this; omega
  have hpos : 0 < F.length := List.length_pos_iff.2 hne
  have hll : lenA (sl (leftL w ws F F.length)) = some (.int .i64 F.length) := by have := (Reads.sl H (leftL w ws F F.length)).len; simpa using this
  obtain ⟨v', hs, hr⟩ := slc_pre (Reads.sl H (leftL w ws F F.length)) (k := F.length - 1) (by simp)
  rw [left_take (by omega)] at hr
  have l3 : load1 (.ptr b3 0) H = some (.int .i64 m) := load1_at h3 rfl
  have l4 : load1 (.ptr b4 0) H = some (.int .i64 y) := load1_at h4 rfl
  simp only [letO_some, cellsOf?_agg, cellsOf?_int, cellsOf?_bool, cellsOf?_imm, cellsOf?_ref, cellsOf?_nils, faddr_iptr, faddr_ptr, List.drop_succ_cons, List.drop_zero, List.take_succ_cons, List.take_zero, load1_iptr, loadN_iptr, List.length_cons, List.length_nil, Nat.le_refl, if_true, List.getElem?_cons_zero, List.getElem?_cons_succ, List.getD_cons_zero, List.getD_cons_succ, extrF_tup, binF_add, binF_sub, binF_mul, binF_eql, binF_neq, binF_lss, binF_leq, binF_gtr, binF_geq, true_and, hll]
  rw [wrap_i64 (by omega) (by omega), show ((F.length : Int) - 1) = ((F.length - 1 : Nat) : Int) by omega, hs]
  simp only [letO_some]
  refine c85 hr (by simp; omega) (fun x hx => ?_) ?_
  · simp only [leftL, List.mem_map] at hx
    obtain ⟨k, _, rfl⟩ := hx
    exact lf_bnd hc _ _
  rw [sqs_left _ (Nat.le_refl _), want_cstL hne]
  generalize cstL w ws 0 F = c at *
  have take : (y = 0 ∨ c < m) → storeA 1 (.ptr b2 0) (sl (up F)) (fun H2 => storeA 1 (.ptr b3 0) (.int .i64 c) (fun H3 => storeA 1 (.ptr b4 0) (.int .i64 1) (fun H4 => endK (.tup []) H4 K) H3) H2) H := by
    intro h
    refine storeA_of (cs := [sl (up F)]) h2 rfl rfl rfl (by simp) ?_
    refine storeA_of (cs := [.int .i64 c]) (by rw [Heap.put_ne (Ne.symm h23)]; exact h3) rfl rfl rfl (by simp) ?_
    refine storeA_of (cs := [.int .i64 1]) (by rw [Heap.put_ne (Ne.symm h34), Heap.put_ne (Ne.symm h24)]; exact h4) rfl rfl rfl (by simp) ?_
    exact endK_ret (k1 h)
  simp only [l3, l4, letO_some, binF_eql]
  by_cases h0 : y = 0
  · have e : (y == 0) = true := by simpa using h0
    simp only [e, gval_bool, Bool.true_eq_false, if_false, letO_some, gval_undef, pickF_true, condA_tt]
    exact take (.inl h0)
  · have e : (y == 0) = false := by simpa using h0
    simp only [e, gval_bool, if_true, letO_some, binF_lss, pickF_false, l3]
    refine condA_t (fun hlt => take (.inr hlt)) (fun hge => ?_)
    simp only [l3, l4, letO_some, binF_eql, binF_add, condA_bool]
    refine ⟨fun he => ?_, fun he => ?_⟩
    · refine storeA_of (cs := [.int .i64 (IntKind.i64.wrap (y + 1))]) h4 rfl rfl rfl (by simp) ?_
      exact endK_ret (k2 h0 (by simpa using he))
    · have he : ¬ c = m := by simpa using he
      exact endK_ret (k3 h0 (by omega))

/-- What the visitor knows. -/
def stB (w : Int) (ws : List Int) (done : List (List Nat)) (X : AV) (m y : Int) : Prop :=
  (done = [] ∧ y = 0) ∨ ∃ F k, eqs X (sl (up F)) ∧ y = (k : Nat) ∧ 1 ≤ k ∧ bestOf (cstL w ws 0) done m k F
theorem one_best {c : List Nat → Int} {F : List Nat} : bestOf c [F] (c F) 1 F := by
  refine ⟨fun G hG => by rw [List.mem_singleton] at hG; subst hG; exact Int.le_refl _, by simp, by simp⟩

/-- best -/
theorem c53 {w : Int} {ws : List Int} {H : Heap} {K : AV → Heap → Prop} (hc : chk w ws = 0) (hk : K (.tup [sl (up (firstL w ws)), .int .i64 ((rst w ws ws.length ws.length).getD 0 (0, 0, 0)).1, .int .i64 ((rst w ws ws.length ws.length).getD 0 (0, 0, 0)).2.2]) H) :
    ACalls Try.prog 53 [.agg [.int .i64 w, sl ws]] H K := by
  apply W53_ok
  unfold W53
  obtain ⟨w1, w2, n1, n2, hws⟩ := chk_ok hc
  simp only [letO_some, cellsOf?_agg, cellsOf?_int, cellsOf?_bool, cellsOf?_imm, cellsOf?_ref, cellsOf?_nils, faddr_iptr, faddr_ptr, List.drop_succ_cons, List.drop_zero, List.take_succ_cons, List.take_zero, load1_iptr, loadN_iptr, List.length_cons, List.length_nil, Nat.le_refl, if_true, List.getElem?_cons_zero, List.getElem?_cons_succ, List.getD_cons_zero, List.getD_cons_succ, extrF_tup, binF_add, binF_sub, binF_mul, binF_eql, binF_neq, binF_lss, binF_leq, binF_gtr, binF_geq, true_and]
  intro b2 hb2
  intro b3 hb3
  intro b4 hb4
  have h23 : b2 ≠ b3 := Heap.ne_of Heap.put_same hb3
  have h24 : b2 ≠ b4 := Heap.ne_of (by rw [Heap.put_ne h23]; exact Heap.put_same) hb4
  have h34 : b3 ≠ b4 := Heap.ne_of Heap.put_same hb4
  have f3 : H b3 = none := by rwa [Heap.put_ne (Ne.symm h23)] at hb3
  have f4 : H b4 = none := by rwa [Heap.put_ne (Ne.symm h34), Heap.put_ne (Ne.symm h24)] at hb4
  have g2 : (((H.put b2 [.nils]).put b3 [.int .i64 0]).put b4 [.int .i64 0]) b2 = some [.nils] := by rw [Heap.put_ne h24, Heap.put_ne h23]; exact Heap.put_same
  have g3 : (((H.put b2 [.nils]).put b3 [.int .i64 0]).put b4 [.int .i64 0]) b3 = some [.int .i64 0] := by rw [Heap.put_ne h34]; exact Heap.put_same
  have g4 : (((H.put b2 [.nils]).put b3 [.int .i64 0]).put b4 [.int .i64 0]) b4 = some [.int .i64 0] := Heap.put_same
  have gl : H.le (((H.put b2 [.nils]).put b3 [.int .i64 0]).put b4 [.int .i64 0]) := Heap.le_put (Heap.le_put (Heap.le_put (Heap.le_refl _) hb2) f3) f4
  generalize (((H.put b2 [.nils]).put b3 [.int .i64 0]).put b4 [.int .i64 0]) = H4 at *
  have hL : loadN 2 (.iptr [.int .i64 w, sl ws]) H4 = some (.agg [.int .i64 w, sl ws]) := rfl
  try simp only [hL, letO_some]
  let fp : Nat → AV := fun b => .fn 80 [.iptr [.int .i64 w, sl ws], .iptr [.fn 84 [.ptr b4 0, .ptr b3 0, .ptr b2 0]], .ptr b 0]
  refine c37 hc (fun b done H' => ∃ X m y, H' b2 = some [X] ∧ H' b3 = some [.int .i64 m] ∧ H' b4 = some [.int .i64 y] ∧ H' b = some [fp b] ∧ H.le H' ∧ (b2 ≠ b ∧ b3 ≠ b ∧ b4 ≠ b) ∧ (done.length ≤ 2 ^ 62 → stB w ws done X m y)) (fun b hb => ?_) (fun b done H' h => ?_) (fun b done H' F hF h K hK => ?_) fun b H' hb h => ?_
  · have n2 : b2 ≠ b := Heap.ne_of g2 hb
    have n3 : b3 ≠ b := Heap.ne_of g3 hb
    have n4 : b4 ≠ b := Heap.ne_of g4 hb
    exact ⟨.nils, 0, 0, by rw [Heap.put_ne n2]; exact g2, by rw [Heap.put_ne n3]; exact g3, by rw [Heap.put_ne n4]; exact g4, Heap.put_same, Heap.le_trans gl (Heap.le_put_self hb), ⟨n2, n3, n4⟩, fun _ => .inl ⟨rfl, rfl⟩⟩
  · obtain ⟨X, m, y, _, _, _, h4, _⟩ := h
    exact h4
  · obtain ⟨X, m, y, q2, q3, q4, qb, ql, ⟨n2, n3, n4⟩, qs⟩ := h
    refine c84 hc hF q2 q3 q4 h23 h24 h34 (fun hy => hK _ _ ?_) (fun hy he => hK _ _ ?_) (fun hy hm => hK _ _ ?_)
    · refine ⟨sl (up F), cstL w ws 0 F, 1, ?_, ?_, Heap.put_same, ?_, Heap.le_put (Heap.le_put (Heap.le_put ql hb2) f3) f4, ⟨n2, n3, n4⟩, fun hd => .inr ⟨F, 1, rfl, rfl, Nat.le_refl _, ?_⟩⟩
      · rw [Heap.put_ne h24, Heap.put_ne h23]; exact Heap.put_same
      · rw [Heap.put_ne h34]; exact Heap.put_same
      · rw [Heap.put_ne (Ne.symm n4), Heap.put_ne (Ne.symm n3), Heap.put_ne (Ne.symm n2)]; exact qb
      · rcases qs (by simp at hd; omega) with ⟨rfl, _⟩ | ⟨F', k, _, hk1, hk2, hk3⟩
        · exact one_best
        · exact bestOf_gt hk3 one_best (by rcases hy with h | h <;> omega)
    · refine ⟨X, m, _, by rw [Heap.put_ne h24]; exact q2, by rw [Heap.put_ne h34]; exact q3, Heap.put_same, by rw [Heap.put_ne (Ne.symm n4)]; exact qb, Heap.le_put ql f4, ⟨n2, n3, n4⟩, fun hd => ?_⟩
      rcases qs (by simp at hd; omega) with ⟨_, h0⟩ | ⟨F', k, hX, hk1, hk2, hk3⟩
      · exact absurd h0 hy
      · subst hk1
        have hkd : k ≤ done.length := by rw [← hk3.2.1]; exact List.length_filter_le _ _
        refine .inr ⟨F', k + 1, hX, ?_, by omega, ?_⟩
        · simp at hd
          rw [wrap_i64 (by omega) (by omega)]; omega
        · have := bestOf_eq hk3 (show bestOf (cstL w ws 0) [F] m 1 F by rw [← he]; exact one_best)
          rwa [Nat.add_comm] at this
    · refine ⟨X, m, y, q2, q3, q4, qb, ql, ⟨n2, n3, n4⟩, fun hd => ?_⟩
      rcases qs (by simp at hd; omega) with ⟨_, h0⟩ | ⟨F', k, hX, hk1, hk2, hk3⟩
      · exact absurd h0 hy
      · exact .inr ⟨F', k, hX, hk1, hk2, bestOf_lt hk3 one_best hm⟩
  · obtain ⟨X, m, y, q2, q3, q4, qb, ql, _, qs⟩ := h
    rw [ext_extM] at qs
    have hB := extM_len (w := w) (ws := ws) (n := ws.length) (by omega) ws.length 0
    have hp10 : 10 ^ ws.length ≤ 10 ^ 10 := Nat.pow_le_pow_right (by decide) (by omega)
    obtain ⟨hbf, hb1⟩ := bests_facts hc
    have hs := qs (by omega)
    have hnn : extM w ws ws.length ws.length 0 ≠ [] := by
      intro h0
      have := (first_mem hc).1
      rw [h0] at this; simp at this
    rcases hs with ⟨h0, _⟩ | ⟨F', k, hX, hk1, hk2, hk3⟩
    · exact absurd h0 hnn
    · obtain ⟨rfl, rfl, rfl⟩ := bestOf_unique hk3 hbf
      subst hk1
      cases hX
      have l2 : load1 (.ptr b2 0) H' = some (sl (up (firstL w ws))) := load1_at q2 rfl
      have l3 : load1 (.ptr b3 0) H' = some (.int .i64 ((rst w ws ws.length ws.length).getD 0 (0, 0, 0)).1) := load1_at q3 rfl
      have l4 : load1 (.ptr b4 0) H' = some (.int .i64 ((rst w ws ws.length ws.length).getD 0 (0, 0, 0)).2.2) := load1_at q4 rfl
      simp only [l2, l3, l4, letO_some, true_and]
      refine ⟨⟨_, _, q2, rfl, rfl, rfl, by simp, rfl⟩, ⟨_, _, q3, rfl, rfl, rfl, by simp, rfl⟩, ⟨_, _, q4, rfl, rfl, rfl, by simp, rfl⟩, ?_⟩
      exact endK_drop ql hk
end Go.Proofs.Ytlajhbpkogekfaa

namespace Go.Proofs.Ytlajhbpkogekfaa
open Go.Av Line
set_option linter.unusedVariables false
set_option linter.unusedSimpArgs false
set_option maxRecDepth 4000

/-- Proved so far. -/
def soFar (w : Int) (ws P : List Int) (i j : Nat) : Prop := P.getD 0 0 = 0 ∧ ∀ i' j', i' < j' → (j' < j ∨ (j' = j ∧ i' < i)) → j' < ws.length → ¬ viol w ws P i' j'
/-- proved -/
theorem c55 {w : Int} {v u : AV} {ws P : List Int} {H : Heap} {K : AV → Heap → Prop} (hv : Reads H v ws) (hu : Reads H u P) (hc : chk w ws = 0) (hl : P.length = ws.length) (hr : ∀ k, k < ws.length → 0 ≤ P.getD k 0 ∧ P.getD k 0 ≤ 20000)
    (hk : ∀ b, (b = true ↔ good w ws P) → K (.tup [.int .i64 (mn w ws P ws.length (P.getD (ws.length - 1) 0)), .bool b]) H) : ACalls Try.prog 55 [.agg [.int .i64 w, v], u] H K := by
  apply W55_ok
  unfold W55
  obtain ⟨w1, w2, n1, n2, hws⟩ := chk_ok hc
  simp only [letO_some, cellsOf?_agg, cellsOf?_int, cellsOf?_bool, cellsOf?_imm, cellsOf?_ref, cellsOf?_nils, faddr_iptr, faddr_ptr, List.drop_succ_cons, List.drop_zero, List.take_succ_cons, List.take_zero, load1_iptr, loadN_iptr, List.length_cons, List.length_nil, Nat.le_refl, if_true, List.getElem?_cons_zero, List.getElem?_cons_succ, List.getD_cons_zero, List.getD_cons_succ, extrF_tup, binF_add, binF_sub, binF_mul, binF_eql, binF_neq, binF_lss, binF_leq, binF_gtr, binF_geq, true_and, hv.len]
  rw [wrap_i64 (n := (ws.length : Int) - 1) (by omega) (by omega), wrap_i64 (n := (ws.length : Int) + 1) (by omega) (by omega)]
  refine hu.get (Heap.le_refl _) (by omega) (by omega) ?_
  rw [show ((ws.length : Int) - 1).toNat = ws.length - 1 by omega]
  refine hu.get (Heap.le_refl _) (by omega) (by omega) ?_
  simp only [letO_some, cellsOf?_agg, cellsOf?_int, cellsOf?_bool, cellsOf?_imm, cellsOf?_ref, cellsOf?_nils, faddr_iptr, faddr_ptr, List.drop_succ_cons, List.drop_zero, List.take_succ_cons, List.take_zero, load1_iptr, loadN_iptr, List.length_cons, List.length_nil, Nat.le_refl, if_true, List.getElem?_cons_zero, List.getElem?_cons_succ, List.getD_cons_zero, List.getD_cons_succ, extrF_tup, binF_add, binF_sub, binF_mul, binF_eql, binF_neq, binF_lss, binF_leq, binF_gtr, binF_geq, true_and, Int.toNat_zero]
  refine ⟨fun L H' => ∃ (j : Nat) (b : Bool), eqs L [.int .i64 (mn w ws P (if j ≤ ws.length then 0 else ws.length) (P.getD (ws.length - 1) 0)), .bool b, .int .i64 j] ∧ j ≤ ws.length + 1 ∧ eqs H' H ∧ (b = true ↔ soFar w ws P 0 j), fun L _ => (ws.length + 1 - iv L 2).toNat,
    ⟨0, P.getD 0 0 == 0, by simp only [eqs, Nat.zero_le, if_true, mn]; rfl, by omega, rfl, by
      rw [beq_iff_eq]
      exact ⟨fun h => ⟨h, fun i' j' h1 h2 => by omega⟩, fun h => h.1⟩⟩, ?_⟩
  intro L H' hI
  obtain ⟨j, b, rfl, hj, rfl, hb⟩ := hI
  simp only [letO_some, cellsOf?_agg, cellsOf?_int, cellsOf?_bool, cellsOf?_imm, cellsOf?_ref, cellsOf?_nils, faddr_iptr, faddr_ptr, List.drop_succ_cons, List.drop_zero, List.take_succ_cons, List.take_zero, load1_iptr, loadN_iptr, List.length_cons, List.length_nil, Nat.le_refl, if_true, List.getElem?_cons_zero, List.getElem?_cons_succ, List.getD_cons_zero, List.getD_cons_succ, extrF_tup, binF_add, binF_sub, binF_mul, binF_eql, binF_neq, binF_lss, binF_leq, binF_gtr, binF_geq, true_and]
  refine condA_t (fun hlt => ?_) (fun hge => ?_)
  · have hjn : j ≤ ws.length := by omega
    rw [if_pos hjn, mn]
    refine ⟨fun L h => ∃ (i : Nat) (b : Bool), eqs L [.int .i64 (mn w ws P (if j = ws.length then i else 0) (P.getD (ws.length - 1) 0)), .bool b, .int .i64 i] ∧ i ≤ j ∧ eqs h H' ∧ (b = true ↔ soFar w ws P i j), fun L _ => (j - iv L 2).toNat,
      ⟨0, b, by simp only [eqs, ite_self, mn]; rfl, by omega, rfl, hb⟩, ?_⟩
    intro L h hJ
    obtain ⟨i, b', rfl, hi, rfl, hb'⟩ := hJ
    simp only [letO_some, cellsOf?_agg, cellsOf?_int, cellsOf?_bool, cellsOf?_imm, cellsOf?_ref, cellsOf?_nils, faddr_iptr, faddr_ptr, List.drop_succ_cons, List.drop_zero, List.take_succ_cons, List.take_zero, load1_iptr, loadN_iptr, List.length_cons, List.length_nil, Nat.le_refl, if_true, List.getElem?_cons_zero, List.getElem?_cons_succ, List.getD_cons_zero, List.getD_cons_succ, extrF_tup, binF_add, binF_sub, binF_mul, binF_eql, binF_neq, binF_lss, binF_leq, binF_gtr, binF_geq, true_and]
    refine condA_t (fun hlt2 => ?_) (fun hge2 => ?_)
    · have hij : i < j := by omega
      refine ⟨fun L h' => ∃ b'' : Bool, eqs L [.int .i64 (mn w ws P (if j = ws.length then i + 1 else 0) (P.getD (ws.length - 1) 0)), .bool b''] ∧ eqs h' h ∧ (b'' = true ↔ soFar w ws P (i + 1) j), ?_, ?_⟩
      · refine c43 hv hc hij hjn ?_
        simp only [letO_some, cellsOf?_agg, cellsOf?_int, cellsOf?_bool, cellsOf?_imm, cellsOf?_ref, cellsOf?_nils, faddr_iptr, faddr_ptr, List.drop_succ_cons, List.drop_zero, List.take_succ_cons, List.take_zero, load1_iptr, loadN_iptr, List.length_cons, List.length_nil, Nat.le_refl, if_true, List.getElem?_cons_zero, List.getElem?_cons_succ, List.getD_cons_zero, List.getD_cons_succ, extrF_tup, binF_add, binF_sub, binF_mul, binF_eql, binF_neq, binF_lss, binF_leq, binF_gtr, binF_geq, true_and]
        have hstep : (j < ws.length → ¬ viol w ws P i j) → (b' = true ↔ soFar w ws P (i + 1) j) := by
          intro hn
          rw [hb']
          refine ⟨fun h => ⟨h.1, fun i' j' h1 h2 h3 => ?_⟩, fun h => ⟨h.1, fun i' j' h1 h2 h3 => h.2 i' j' h1 (by omega) h3⟩⟩
          by_cases he : i' = i ∧ j' = j
          · obtain ⟨rfl, rfl⟩ := he; exact hn h3
          · exact h.2 i' j' h1 (by omega) h3
        refine condA_t (fun hneg => ?_) (fun hnn => ?_)
        · refine ⟨b', ?_, rfl, hstep fun _ hv => by have := hv.1; omega⟩
          by_cases he : j = ws.length
          · rw [if_pos he, if_pos he, mn, if_neg (by rw [← he]; omega)]; rfl
          · rw [if_neg he, if_neg he]; rfl
        · simp only [condA_bool]
          refine ⟨fun he => ?_, fun he => ?_⟩
          · have he : j = ws.length := by simp at he; omega
            refine hu.get (Heap.le_refl _) (by omega) (by omega) ?_
            rw [Int.toNat_natCast]
            simp only [min2F, letO_some]
            refine ⟨b', ?_, rfl, hstep fun h => by omega⟩
            rw [if_pos he, if_pos he, mn, if_pos (show 0 ≤ lf w ws i ws.length by rw [← he]; omega)]
            rfl
          · have he : ¬ j = ws.length := by simp at he; omega
            have hq := sqf_bnd hc i j
            have hPi := hr i (by omega)
            have hPj := hr j (by omega)
            have hsqf : lf w ws i j * lf w ws i j = sqf w ws i j := rfl
            cases b' with
            | false =>
              simp only [gval_bool, Bool.false_eq_true, if_false, letO_some, gval_undef, pickF_false]
              refine ⟨false, ?_, rfl, ?_⟩
              · rw [if_neg he, if_neg he]; rfl
              · refine ⟨fun h => by simp at h, fun h => hb'.2 ⟨h.1, fun i' j' h1 h2 h3 => h.2 i' j' h1 (by omega) h3⟩⟩
            | true =>
              have hso := hb'.1 rfl
              simp only [gval_bool, if_true, letO_some]
              refine hu.get (Heap.le_refl _) (by omega) (by omega) ?_
              rw [Int.toNat_natCast]
              refine hu.get (Heap.le_refl _) (by omega) (by omega) ?_
              rw [Int.toNat_natCast]
              simp only [letO_some, binF_sub, binF_mul, binF_leq, pickF_true]
              rw [hsqf, wrap_i64 (n := sqf w ws i j) (by omega) (by omega), wrap_i64 (n := P.getD j 0 - P.getD i 0) (by omega) (by omega)]
              refine ⟨decide (P.getD j 0 - P.getD i 0 ≤ sqf w ws i j), ?_, rfl, ?_⟩
              · rw [if_neg he, if_neg he]; rfl
              · rw [decide_eq_true_iff]
                refine ⟨fun h => ⟨hso.1, fun i' j' h1 h2 h3 => ?_⟩, fun h => ?_⟩
                · by_cases he2 : i' = i ∧ j' = j
                  · obtain ⟨rfl, rfl⟩ := he2; unfold viol; omega
                  · exact hso.2 i' j' h1 (by omega) h3
                · have := h.2 i j hij (.inr ⟨rfl, by omega⟩) (by omega)
                  unfold viol at this
                  omega
      · rintro L h' ⟨b'', rfl, rfl, hb''⟩
        simp only [letO_some, cellsOf?_agg, cellsOf?_int, cellsOf?_bool, cellsOf?_imm, cellsOf?_ref, cellsOf?_nils, faddr_iptr, faddr_ptr, List.drop_succ_cons, List.drop_zero, List.take_succ_cons, List.take_zero, load1_iptr, loadN_iptr, List.length_cons, List.length_nil, Nat.le_refl, if_true, List.getElem?_cons_zero, List.getElem?_cons_succ, List.getD_cons_zero, List.getD_cons_succ, extrF_tup, binF_add, binF_sub, binF_mul, binF_eql, binF_neq, binF_lss, binF_leq, binF_gtr, binF_geq, true_and]
        rw [wrap_i64 (by omega) (by omega)]
        exact ⟨⟨i + 1, b'', rfl, by omega, rfl, hb''⟩, by simp <;> omega⟩
    · have hij : i = j := by omega
      subst hij
      rw [wrap_i64 (by omega) (by omega)]
      refine ⟨⟨i + 1, b', ?_, by omega, rfl, ?_⟩, by simp <;> omega⟩
      · by_cases he : i = ws.length
        · rw [if_pos he, if_neg (by omega), he]; rfl
        · rw [if_neg he, if_pos (by omega)]; rfl
      · rw [hb']
        exact ⟨fun h => ⟨h.1, fun i' j' h1 h2 h3 => h.2 i' j' h1 (by omega) h3⟩, fun h => ⟨h.1, fun i' j' h1 h2 h3 => h.2 i' j' h1 (by omega) h3⟩⟩
  · have hj2 : j = ws.length + 1 := by omega
    subst hj2
    rw [if_neg (by omega)]
    refine endK_ret (hk b ?_)
    rw [hb]
    exact ⟨fun h => ⟨h.1, fun i j h1 h2 => h.2 i j h1 (by omega) h2⟩, fun h => ⟨h.1, fun i' j' h1 h2 h3 => h.2 i' j' h1 h3⟩⟩
end Go.Proofs.Ytlajhbpkogekfaa

namespace Go.Proofs.Ytlajhbpkogekfaa
open Go.Av Line
set_option linter.unusedVariables false
set_option linter.unusedSimpArgs false
set_option maxRecDepth 4000

/-- LineProved -/
theorem c12 {W M S : Nat} {l st : List Nat} {H : Heap} {K : AV → Heap → Prop} (hW : W < 256) (hM : M < 256) (hS : S < 256) (hl : l.length = 10) (hlx : ∀ x ∈ l, x < 256) (hst : st.length = 10) (hsx : ∀ x ∈ st, x < 256) (hk : ∀ H', H.le H' → K (.bool true) H') :
    ACalls Try.prog 12 [.agg (u8s (W :: M :: S :: l)), .agg (u8s st)] H K := by
  apply W12_ok
  unfold W12
  have hc := chk_made (W := W) (M := M) (S := S) (most := 9) hl (by omega)
  have hL13 : loadN 13 (.iptr (u8s (W :: M :: S :: l))) H = some (.agg (u8s (W :: M :: S :: l))) := by
    rw [loadN_iptr, if_pos (by simp [hl]), List.take_of_length_le (by simp [hl])]
  simp only [cellsOf?_agg, letO_some, hL13]
  have hn9 : (madeL W M S l 9).length ≤ 9 := by simp [madeL, gwords]; omega
  refine c34 (most := 9) hW hM hS hl hlx (by omega) ?_
  generalize madeL W M S l 9 = ws at *
  generalize ((gw W : Nat) : Int) = w at *
  obtain ⟨w1, w2, n1, n2, hws⟩ := chk_ok hc
  refine alloc_store (cs := [.int .i64 w, sl ws]) rfl rfl rfl rfl fun b5 hb5 => ?_
  have hle5 := Heap.le_put_self (cs := [.int .i64 w, sl ws]) hb5
  have hb : (H.put b5 [.int .i64 w, sl ws]) b5 = some [.int .i64 w, sl ws] := Heap.put_same
  generalize H.put b5 [.int .i64 w, sl ws] = H5 at *
  have hL : loadN 2 (.ptr b5 0) H5 = some (.agg [.int .i64 w, sl ws]) := loadN_at (cells := [.int .i64 w, sl ws]) hb
  have hv : ∀ {H : Heap}, Reads H (sl ws) ws := Reads.sl _ _
  have hlw : ws.length < 2 ^ 60 := by omega
  have hbo : bestO w ws = (rst w ws ws.length ws.length).getD 0 (0, 0, 0) := by rw [bestO, if_pos hc]
  have hfo : firstO w ws = up (firstL w ws) := by rw [firstO, if_pos hc]
  have hpo : pricesO w ws = pricesL w ws := by rw [pricesO, if_pos hc]
  have hbp : boundO w ws (pricesL w ws) = (((rst w ws ws.length ws.length).getD 0 (0, 0, 0)).1, 0) := by rw [boundO, if_pos hc, bnd_prices hc]
  have hpr : provesO w ws (up (firstL w ws)) (pricesL w ws) = 0 := by rw [first_proves hc, bnd_prices hc]; simp
  have hfp : ∀ P, provesO w ws (up (firstL w ws)) P = _ := fun P => first_proves (P := P) hc
  have hgl : ∀ P, good w ws P → mn w ws P ws.length (P.getD (ws.length - 1) 0) ≤ ((rst w ws ws.length ws.length).getD 0 (0, 0, 0)).1 := fun P h => good_le hc h
  have hfl := firstO_len (w := w) (ws := ws)
  rw [hfo, up_length] at hfl
  have hpl := prices_len (w := w) (ws := ws)
  have hprg := prices_range hc
  simp only [hL, letO_some]
  refine c53 hc ?_
  simp only [letO_some, cellsOf?_agg, cellsOf?_int, cellsOf?_bool, cellsOf?_imm, cellsOf?_ref, cellsOf?_nils, faddr_iptr, faddr_ptr, List.drop_succ_cons, List.drop_zero, List.take_succ_cons, List.take_zero, load1_iptr, loadN_iptr, List.length_cons, List.length_nil, Nat.le_refl, if_true, List.getElem?_cons_zero, List.getElem?_cons_succ, List.getD_cons_zero, List.getD_cons_succ, extrF_tup, binF_add, binF_sub, binF_mul, binF_eql, binF_neq, binF_lss, binF_leq, binF_gtr, binF_geq, true_and, hL]
  refine c17 hv hlw ?_
  simp only [letO_some, cellsOf?_agg, cellsOf?_int, cellsOf?_bool, cellsOf?_imm, cellsOf?_ref, cellsOf?_nils, faddr_iptr, faddr_ptr, List.drop_succ_cons, List.drop_zero, List.take_succ_cons, List.take_zero, load1_iptr, loadN_iptr, List.length_cons, List.length_nil, Nat.le_refl, if_true, List.getElem?_cons_zero, List.getElem?_cons_succ, List.getD_cons_zero, List.getD_cons_succ, extrF_tup, binF_add, binF_sub, binF_mul, binF_eql, binF_neq, binF_lss, binF_leq, binF_gtr, binF_geq, true_and, hL]
  refine c19 hv hlw ?_
  simp only [letO_some, cellsOf?_agg, cellsOf?_int, cellsOf?_bool, cellsOf?_imm, cellsOf?_ref, cellsOf?_nils, faddr_iptr, faddr_ptr, List.drop_succ_cons, List.drop_zero, List.take_succ_cons, List.take_zero, load1_iptr, loadN_iptr, List.length_cons, List.length_nil, Nat.le_refl, if_true, List.getElem?_cons_zero, List.getElem?_cons_succ, List.getD_cons_zero, List.getD_cons_succ, extrF_tup, binF_add, binF_sub, binF_mul, binF_eql, binF_neq, binF_lss, binF_leq, binF_gtr, binF_geq, true_and, hL]
  refine c21 hv hlw ?_
  simp only [letO_some, cellsOf?_agg, cellsOf?_int, cellsOf?_bool, cellsOf?_imm, cellsOf?_ref, cellsOf?_nils, faddr_iptr, faddr_ptr, List.drop_succ_cons, List.drop_zero, List.take_succ_cons, List.take_zero, load1_iptr, loadN_iptr, List.length_cons, List.length_nil, Nat.le_refl, if_true, List.getElem?_cons_zero, List.getElem?_cons_succ, List.getD_cons_zero, List.getD_cons_succ, extrF_tup, binF_add, binF_sub, binF_mul, binF_eql, binF_neq, binF_lss, binF_leq, binF_gtr, binF_geq, true_and, hL]
  refine c26 hv hlw ?_
  simp only [letO_some, cellsOf?_agg, cellsOf?_int, cellsOf?_bool, cellsOf?_imm, cellsOf?_ref, cellsOf?_nils, faddr_iptr, faddr_ptr, List.drop_succ_cons, List.drop_zero, List.take_succ_cons, List.take_zero, load1_iptr, loadN_iptr, List.length_cons, List.length_nil, Nat.le_refl, if_true, List.getElem?_cons_zero, List.getElem?_cons_succ, List.getD_cons_zero, List.getD_cons_succ, extrF_tup, binF_add, binF_sub, binF_mul, binF_eql, binF_neq, binF_lss, binF_leq, binF_gtr, binF_geq, true_and, hL]
  refine c54 hv hc ?_
  simp only [letO_some, cellsOf?_agg, cellsOf?_int, cellsOf?_bool, cellsOf?_imm, cellsOf?_ref, cellsOf?_nils, faddr_iptr, faddr_ptr, List.drop_succ_cons, List.drop_zero, List.take_succ_cons, List.take_zero, load1_iptr, loadN_iptr, List.length_cons, List.length_nil, Nat.le_refl, if_true, List.getElem?_cons_zero, List.getElem?_cons_succ, List.getD_cons_zero, List.getD_cons_succ, extrF_tup, binF_add, binF_sub, binF_mul, binF_eql, binF_neq, binF_lss, binF_leq, binF_gtr, binF_geq, true_and, hL]
  refine c50 hv (by omega) ?_
  rw [hc, hbo, hfo, hpo]
  generalize pricesL w ws = P at *
  generalize (rst w ws ws.length ws.length).getD 0 (0, 0, 0) = B at *
  simp only [letO_some, cellsOf?_agg, cellsOf?_int, cellsOf?_bool, cellsOf?_imm, cellsOf?_ref, cellsOf?_nils, faddr_iptr, faddr_ptr, List.drop_succ_cons, List.drop_zero, List.take_succ_cons, List.take_zero, load1_iptr, loadN_iptr, List.length_cons, List.length_nil, Nat.le_refl, if_true, List.getElem?_cons_zero, List.getElem?_cons_succ, List.getD_cons_zero, List.getD_cons_succ, extrF_tup, binF_add, binF_sub, binF_mul, binF_eql, binF_neq, binF_lss, binF_leq, binF_gtr, binF_geq, true_and, gval_bool, Int.reduceBNe, Int.reduceBEq, pickF_true, pickF_false, reduceIte, Bool.true_eq_false, Bool.false_eq_true, if_false, condA_tt, condA_ff, condG_tt, condG_ff, condG_tt', condG_ff', condG_undef, gval_undef]
  refine exJ ?_
  refine c25p (Reads.sl _ _) (Reads.sl _ _) (by simp; omega) ?_
  have d1 : ∀ l : List Int, decide (l = l) = true := fun l => decide_eq_true rfl
  simp only [d1, decide_true, not_b, Bool.not_true, bne_self_eq_false, letO_some, cellsOf?_agg, cellsOf?_int, cellsOf?_bool, cellsOf?_imm, cellsOf?_ref, cellsOf?_nils, faddr_iptr, faddr_ptr, List.drop_succ_cons, List.drop_zero, List.take_succ_cons, List.take_zero, load1_iptr, loadN_iptr, List.length_cons, List.length_nil, Nat.le_refl, if_true, List.getElem?_cons_zero, List.getElem?_cons_succ, List.getD_cons_zero, List.getD_cons_succ, extrF_tup, binF_add, binF_sub, binF_mul, binF_eql, binF_neq, binF_lss, binF_leq, binF_gtr, binF_geq, true_and, gval_bool, Int.reduceBNe, Int.reduceBEq, pickF_true, pickF_false, reduceIte, Bool.true_eq_false, Bool.false_eq_true, if_false, condA_tt, condA_ff, condG_tt, condG_ff, condG_tt', condG_ff', condG_undef, gval_undef]
  refine exJ ?_
  refine c25p (Reads.sl _ _) (Reads.sl _ _) (by omega) ?_
  simp only [d1, decide_true, not_b, Bool.not_true, bne_self_eq_false, letO_some, cellsOf?_agg, cellsOf?_int, cellsOf?_bool, cellsOf?_imm, cellsOf?_ref, cellsOf?_nils, faddr_iptr, faddr_ptr, List.drop_succ_cons, List.drop_zero, List.take_succ_cons, List.take_zero, load1_iptr, loadN_iptr, List.length_cons, List.length_nil, Nat.le_refl, if_true, List.getElem?_cons_zero, List.getElem?_cons_succ, List.getD_cons_zero, List.getD_cons_succ, extrF_tup, binF_add, binF_sub, binF_mul, binF_eql, binF_neq, binF_lss, binF_leq, binF_gtr, binF_geq, true_and, gval_bool, Int.reduceBNe, Int.reduceBEq, pickF_true, pickF_false, reduceIte, Bool.true_eq_false, Bool.false_eq_true, if_false, condA_tt, condA_ff, condG_tt, condG_ff, condG_tt', condG_ff', condG_undef, gval_undef, hL]
  refine c28 hv (Reads.sl _ _) hlw (by omega) ?_
  rw [hbp]
  simp only [bne_self_eq_false, letO_some, cellsOf?_agg, cellsOf?_int, cellsOf?_bool, cellsOf?_imm, cellsOf?_ref, cellsOf?_nils, faddr_iptr, faddr_ptr, List.drop_succ_cons, List.drop_zero, List.take_succ_cons, List.take_zero, load1_iptr, loadN_iptr, List.length_cons, List.length_nil, Nat.le_refl, if_true, List.getElem?_cons_zero, List.getElem?_cons_succ, List.getD_cons_zero, List.getD_cons_succ, extrF_tup, binF_add, binF_sub, binF_mul, binF_eql, binF_neq, binF_lss, binF_leq, binF_gtr, binF_geq, true_and, gval_bool, Int.reduceBNe, Int.reduceBEq, pickF_true, pickF_false, reduceIte, Bool.true_eq_false, Bool.false_eq_true, if_false, condA_tt, condA_ff, condG_tt, condG_ff, condG_tt', condG_ff', condG_undef, gval_undef, hL]
  refine exJ ?_
  refine c30 hv (Reads.sl _ _) (Reads.sl _ _) hlw (by simp; omega) (by omega) ?_
  rw [hpr]
  simp only [bne_self_eq_false, letO_some, cellsOf?_agg, cellsOf?_int, cellsOf?_bool, cellsOf?_imm, cellsOf?_ref, cellsOf?_nils, faddr_iptr, faddr_ptr, List.drop_succ_cons, List.drop_zero, List.take_succ_cons, List.take_zero, load1_iptr, loadN_iptr, List.length_cons, List.length_nil, Nat.le_refl, if_true, List.getElem?_cons_zero, List.getElem?_cons_succ, List.getD_cons_zero, List.getD_cons_succ, extrF_tup, binF_add, binF_sub, binF_mul, binF_eql, binF_neq, binF_lss, binF_leq, binF_gtr, binF_geq, true_and, gval_bool, Int.reduceBNe, Int.reduceBEq, pickF_true, pickF_false, reduceIte, Bool.true_eq_false, Bool.false_eq_true, if_false, condA_tt, condA_ff, condG_tt, condG_ff, condG_tt', condG_ff', condG_undef, gval_undef]
  refine c40 (Reads.sl _ _) (by rintro rfl; simp at hpl; omega) (by omega) fun v' H23 hg23 ho => ?_
  have hlen0 : lenA v' = some (.int .i64 ws.length) := by rw [hg23.reads.len, hpl]
  simp only [letO_some, cellsOf?_agg, cellsOf?_int, cellsOf?_bool, cellsOf?_imm, cellsOf?_ref, cellsOf?_nils, faddr_iptr, faddr_ptr, List.drop_succ_cons, List.drop_zero, List.take_succ_cons, List.take_zero, load1_iptr, loadN_iptr, List.length_cons, List.length_nil, Nat.le_refl, if_true, List.getElem?_cons_zero, List.getElem?_cons_succ, List.getD_cons_zero, List.getD_cons_succ, extrF_tup, binF_add, binF_sub, binF_mul, binF_eql, binF_neq, binF_lss, binF_leq, binF_gtr, binF_geq, true_and, hlen0]
  rw [hpl] at hg23
  refine ⟨fun L H' => ∃ (k : Nat) (Q : List Int), eqs L [.int .i64 k] ∧ k ≤ ws.length ∧ Grow 1 H5 H' v' ws.length (ints Q) ∧ Q.length = ws.length ∧ (∀ i, i < ws.length → 0 ≤ Q.getD i 0 ∧ Q.getD i 0 ≤ 20000) ∧ (∀ i, k ≤ i → i < ws.length → Q.getD i 0 ≤ 15210), fun L _ => (ws.length - iv L 0).toNat,
    ⟨0, P, rfl, by omega, hg23, hpl, fun i hi => by have := hprg i hi; omega, fun i _ hi => (hprg i hi).2⟩, ?_⟩
  intro L H' hI
  obtain ⟨k, Q, rfl, hkn, hg, hQl, hQ1, hQ2⟩ := hI
  simp only [letO_some, cellsOf?_agg, cellsOf?_int, cellsOf?_bool, cellsOf?_imm, cellsOf?_ref, cellsOf?_nils, faddr_iptr, faddr_ptr, List.drop_succ_cons, List.drop_zero, List.take_succ_cons, List.take_zero, load1_iptr, loadN_iptr, List.length_cons, List.length_nil, Nat.le_refl, if_true, List.getElem?_cons_zero, List.getElem?_cons_succ, List.getD_cons_zero, List.getD_cons_succ, extrF_tup, binF_add, binF_sub, binF_mul, binF_eql, binF_neq, binF_lss, binF_leq, binF_gtr, binF_geq, true_and]
  refine condA_t (fun hlt => ?_) (fun hge => ?_)
  · have hkl : k < ws.length := by omega
    obtain ⟨b, hbn, hix, hld, hst2⟩ := grow_at hg ho hkl
    have hia : idxArr 10 1 (.iptr (u8s st)) (.int .i64 (k : Int)) = some (.iptr ((u8s st).drop k)) := by
      simp [idxArr]; omega
    have hx : ((u8s st).drop k)[0]? = some (.int .u8 ((st[k]'(by omega) : Nat) : Int)) := by
      simp [u8s, List.getElem?_drop, show k < st.length by omega]
    have hxb := hsx (st[k]'(by omega)) (by simp)
    generalize st[k]'(by omega) = x at *
    have hr8 : binF Try.prog .rem 3 (.int .i64 (x : Int)) (.int .i64 8) = some (.int .i64 ((x % 8 : Nat) : Int)) := rem_nat (b := 8) (by decide)
    have hq2 : binF Try.prog .quo 3 (.int .i64 (x : Int)) (.int .i64 200) = some (.int .i64 ((x / 200 : Nat) : Int)) := quo_nat (b := 200) (by decide) (by omega)
    have hcv : convF Try.prog 5 3 (.int .u8 (x : Int)) = some (.int .i64 (x : Int)) := conv53 (by omega)
    have hQk := hQ1 k hkl
    have hQk2 := hQ2 k (Nat.le_refl _) hkl
    simp only [hix, hld _ (Heap.le_refl _), hia, load1_iptr, hx, hcv, hr8, hq2, letO_some, cellsOf?_agg, cellsOf?_int, cellsOf?_bool, cellsOf?_imm, cellsOf?_ref, cellsOf?_nils, faddr_iptr, faddr_ptr, List.drop_succ_cons, List.drop_zero, List.take_succ_cons, List.take_zero, load1_iptr, loadN_iptr, List.length_cons, List.length_nil, Nat.le_refl, if_true, List.getElem?_cons_zero, List.getElem?_cons_succ, List.getD_cons_zero, List.getD_cons_succ, extrF_tup, binF_add, binF_sub, binF_mul, binF_eql, binF_neq, binF_lss, binF_leq, binF_gtr, binF_geq, true_and]
    rw [wrap_i64 (n := Q.getD k 0 - ((x % 8 : Nat) : Int)) (by omega) (by omega), wrap_i64 (n := Q.getD k 0 - ((x % 8 : Nat) : Int) + ((x / 200 : Nat) : Int)) (by omega) (by omega)]
    simp only [max2F, letO_some, cellsOf?_agg, cellsOf?_int, cellsOf?_bool, cellsOf?_imm, cellsOf?_ref, cellsOf?_nils, faddr_iptr, faddr_ptr, List.drop_succ_cons, List.drop_zero, List.take_succ_cons, List.take_zero, load1_iptr, loadN_iptr, List.length_cons, List.length_nil, Nat.le_refl, if_true, List.getElem?_cons_zero, List.getElem?_cons_succ, List.getD_cons_zero, List.getD_cons_succ, extrF_tup, binF_add, binF_sub, binF_mul, binF_eql, binF_neq, binF_lss, binF_leq, binF_gtr, binF_geq, true_and]
    refine hst2 _ _ fun H2 hg2 hld2 => ?_
    rw [wrap_i64 (by omega) (by omega)]
    refine ⟨⟨k + 1, _, rfl, by omega, hg2, by simp [hQl], fun i hi => ?_, fun i hi1 hi2 => ?_⟩, by simp <;> omega⟩
    · rw [List.getD_eq_getElem?_getD]
      by_cases he : k = i
      · subst he
        rw [List.getElem?_set_self (by omega), Option.getD_some]
        split <;> omega
      · rw [List.getElem?_set_ne he, ← List.getD_eq_getElem?_getD]; exact hQ1 i hi
    · rw [List.getD_eq_getElem?_getD, List.getElem?_set_ne (by omega), ← List.getD_eq_getElem?_getD]
      exact hQ2 i (by omega) hi2
  have hLl : ∀ {H6 : Heap}, H5.le H6 → loadN 2 (.ptr b5 0) H6 = some (.agg [.int .i64 w, sl ws]) := fun hl => loadN_at (cells := [.int .i64 w, sl ws]) (hl _ _ hb)
  simp only [hLl hg.le, letO_some, cellsOf?_agg, cellsOf?_int, cellsOf?_bool, cellsOf?_imm, cellsOf?_ref, cellsOf?_nils, faddr_iptr, faddr_ptr, List.drop_succ_cons, List.drop_zero, List.take_succ_cons, List.take_zero, load1_iptr, loadN_iptr, List.length_cons, List.length_nil, Nat.le_refl, if_true, List.getElem?_cons_zero, List.getElem?_cons_succ, List.getD_cons_zero, List.getD_cons_succ, extrF_tup, binF_add, binF_sub, binF_mul, binF_eql, binF_neq, binF_lss, binF_leq, binF_gtr, binF_geq, true_and]
  refine c55 hv hg.reads hc hQl hQ1 fun bb hbb => ?_
  simp only [hLl hg.le, letO_some, cellsOf?_agg, cellsOf?_int, cellsOf?_bool, cellsOf?_imm, cellsOf?_ref, cellsOf?_nils, faddr_iptr, faddr_ptr, List.drop_succ_cons, List.drop_zero, List.take_succ_cons, List.take_zero, load1_iptr, loadN_iptr, List.length_cons, List.length_nil, Nat.le_refl, if_true, List.getElem?_cons_zero, List.getElem?_cons_succ, List.getD_cons_zero, List.getD_cons_succ, extrF_tup, binF_add, binF_sub, binF_mul, binF_eql, binF_neq, binF_lss, binF_leq, binF_gtr, binF_geq, true_and]
  refine c28 hv hg.reads hlw (by omega) ?_
  have hboQ : boundO w ws Q = bndR w ws Q := by rw [boundO, if_pos hc]
  rw [hboQ]
  have fin : K (.bool true) H' := hk _ (Heap.le_trans hle5 hg.le)
  cases bb with
  | false =>
    have hng : ¬ good w ws Q := fun h => by have := hbb.2 h; simp at this
    rw [bnd_bad hc hQl hQ1 hng]
    simp only [not_b, Bool.not_false, beq_self_eq_true, letO_some, cellsOf?_agg, cellsOf?_int, cellsOf?_bool, cellsOf?_imm, cellsOf?_ref, cellsOf?_nils, faddr_iptr, faddr_ptr, List.drop_succ_cons, List.drop_zero, List.take_succ_cons, List.take_zero, load1_iptr, loadN_iptr, List.length_cons, List.length_nil, Nat.le_refl, if_true, List.getElem?_cons_zero, List.getElem?_cons_succ, List.getD_cons_zero, List.getD_cons_succ, extrF_tup, binF_add, binF_sub, binF_mul, binF_eql, binF_neq, binF_lss, binF_leq, binF_gtr, binF_geq, true_and, gval_bool, Int.reduceBNe, Int.reduceBEq, pickF_true, pickF_false, reduceIte, Bool.true_eq_false, Bool.false_eq_true, if_false, condA_tt, condA_ff, condG_tt, condG_ff, condG_tt', condG_ff', condG_undef, gval_undef]
    refine exJ ?_
    refine c16 ?_
    try simp only [letO_some, cellsOf?_agg, cellsOf?_int, cellsOf?_bool, cellsOf?_imm, cellsOf?_ref, cellsOf?_nils, faddr_iptr, faddr_ptr, List.drop_succ_cons, List.drop_zero, List.take_succ_cons, List.take_zero, load1_iptr, loadN_iptr, List.length_cons, List.length_nil, Nat.le_refl, if_true, List.getElem?_cons_zero, List.getElem?_cons_succ, List.getD_cons_zero, List.getD_cons_succ, extrF_tup, binF_add, binF_sub, binF_mul, binF_eql, binF_neq, binF_lss, binF_leq, binF_gtr, binF_geq, true_and, gval_bool, Int.reduceBNe, Int.reduceBEq, pickF_true, pickF_false, reduceIte, Bool.true_eq_false, Bool.false_eq_true, if_false, condA_tt, condA_ff, condG_tt, condG_ff, condG_tt', condG_ff', condG_undef, gval_undef]
    exact endK_ret fin
  | true =>
    have hg' : good w ws Q := hbb.1 rfl
    have hmle := hgl Q hg'
    rw [bnd_good hc hQl hQ1 hg']
    have hpQ := hfp Q
    rw [bnd_good hc hQl hQ1 hg'] at hpQ
    generalize mn w ws Q ws.length (Q.getD (ws.length - 1) 0) = m at *
    simp only [not_b, Bool.not_true, letO_some, cellsOf?_agg, cellsOf?_int, cellsOf?_bool, cellsOf?_imm, cellsOf?_ref, cellsOf?_nils, faddr_iptr, faddr_ptr, List.drop_succ_cons, List.drop_zero, List.take_succ_cons, List.take_zero, load1_iptr, loadN_iptr, List.length_cons, List.length_nil, Nat.le_refl, if_true, List.getElem?_cons_zero, List.getElem?_cons_succ, List.getD_cons_zero, List.getD_cons_succ, extrF_tup, binF_add, binF_sub, binF_mul, binF_eql, binF_neq, binF_lss, binF_leq, binF_gtr, binF_geq, true_and, gval_bool, Int.reduceBNe, Int.reduceBEq, pickF_true, pickF_false, reduceIte, Bool.true_eq_false, Bool.false_eq_true, if_false, condA_tt, condA_ff, condG_tt, condG_ff, condG_tt', condG_ff', condG_undef, gval_undef]
    have tail : ∀ e : Int, e = provesO w ws (up (firstL w ws)) Q → (letO (some (AV.int .i64 0)) fun t174 => True) → True := fun _ _ _ => trivial
    refine ⟨fun L h => eqs L [.int .i64 (if m = B.1 then 0 else 14)] ∧ eqs h H', ?_, ?_⟩
    · simp only [condA_bool]
      refine ⟨fun he => ?_, fun he => ?_⟩
      · rw [if_pos (by simpa using he)]; exact ⟨rfl, rfl⟩
      · rw [if_neg (by simpa using he)]; exact ⟨rfl, rfl⟩
    · rintro L h ⟨rfl, rfl⟩
      have e1 : decide (m ≤ B.1) = true := decide_eq_true hmle
      simp only [beq_self_eq_true, e1, letO_some, cellsOf?_agg, cellsOf?_int, cellsOf?_bool, cellsOf?_imm, cellsOf?_ref, cellsOf?_nils, faddr_iptr, faddr_ptr, List.drop_succ_cons, List.drop_zero, List.take_succ_cons, List.take_zero, load1_iptr, loadN_iptr, List.length_cons, List.length_nil, Nat.le_refl, if_true, List.getElem?_cons_zero, List.getElem?_cons_succ, List.getD_cons_zero, List.getD_cons_succ, extrF_tup, binF_add, binF_sub, binF_mul, binF_eql, binF_neq, binF_lss, binF_leq, binF_gtr, binF_geq, true_and, gval_bool, Int.reduceBNe, Int.reduceBEq, pickF_true, pickF_false, reduceIte, Bool.true_eq_false, Bool.false_eq_true, if_false, condA_tt, condA_ff, condG_tt, condG_ff, condG_tt', condG_ff', condG_undef, gval_undef, hLl hg.le]
      refine exJ ?_
      refine c30 hv (Reads.sl _ _) hg.reads hlw (by simp; omega) (by omega) ?_
      have e2 : provesO w ws (up (firstL w ws)) Q = if m = B.1 then 0 else 14 := by
        rw [hpQ, if_neg (by simp)]
        by_cases he : m = B.1
        · rw [if_neg (by simpa using he), if_pos he]
        · rw [if_pos he, if_neg he]
      rw [e2]
      simp only [beq_self_eq_true, letO_some, cellsOf?_agg, cellsOf?_int, cellsOf?_bool, cellsOf?_imm, cellsOf?_ref, cellsOf?_nils, faddr_iptr, faddr_ptr, List.drop_succ_cons, List.drop_zero, List.take_succ_cons, List.take_zero, load1_iptr, loadN_iptr, List.length_cons, List.length_nil, Nat.le_refl, if_true, List.getElem?_cons_zero, List.getElem?_cons_succ, List.getD_cons_zero, List.getD_cons_succ, extrF_tup, binF_add, binF_sub, binF_mul, binF_eql, binF_neq, binF_lss, binF_leq, binF_gtr, binF_geq, true_and, gval_bool, Int.reduceBNe, Int.reduceBEq, pickF_true, pickF_false, reduceIte, Bool.true_eq_false, Bool.false_eq_true, if_false, condA_tt, condA_ff, condG_tt, condG_ff, condG_tt', condG_ff', condG_undef, gval_undef]
      refine exJ ?_
      refine c16 ?_
      try simp only [letO_some, cellsOf?_agg, cellsOf?_int, cellsOf?_bool, cellsOf?_imm, cellsOf?_ref, cellsOf?_nils, faddr_iptr, faddr_ptr, List.drop_succ_cons, List.drop_zero, List.take_succ_cons, List.take_zero, load1_iptr, loadN_iptr, List.length_cons, List.length_nil, Nat.le_refl, if_true, List.getElem?_cons_zero, List.getElem?_cons_succ, List.getD_cons_zero, List.getD_cons_succ, extrF_tup, binF_add, binF_sub, binF_mul, binF_eql, binF_neq, binF_lss, binF_leq, binF_gtr, binF_geq, true_and, gval_bool, Int.reduceBNe, Int.reduceBEq, pickF_true, pickF_false, reduceIte, Bool.true_eq_false, Bool.false_eq_true, if_false, condA_tt, condA_ff, condG_tt, condG_ff, condG_tt', condG_ff', condG_undef, gval_undef]
      exact endK_ret fin
theorem lineProved.law {W M S : Nat} {l st : List Nat} (hW : W < 256) (hM : M < 256) (hS : S < 256) (hl : l.length = 10) (hlx : ∀ x ∈ l, x < 256) (hst : st.length = 10) (hsx : ∀ x ∈ st, x < 256) :
    ACalls Try.prog 12 [.agg (u8s (W :: M :: S :: l)), .agg (u8s st)] Heap.none fun r _ => r = .bool true := c12 hW hM hS hl hlx hst hsx fun _ _ => rfl
end Go.Proofs.Ytlajhbpkogekfaa

/- MADE BY PROGRAM (row.py): the row of LineProved. -/
namespace Go.Proofs.Ytlajhbpkogekfaa.lineProved
open Go.ChangeShapes Go.WideShapes Go.ChangeAt Go.RowKit Go.Av
set_option linter.unusedVariables false

theorem own : ownKnob Try.prog.godebug = none := by kernel_rfl
theorem laidOut : laidOutB Try.prog = true := by kernel_rfl
theorem split13 {g : List Nat} (h : g.length = 13) : ∃ a b c l, g = a :: b :: c :: l ∧ l.length = 10 := by
  match g, h with
  | a :: b :: c :: l, h => exact ⟨a, b, c, l, rfl, by simpa using h⟩

set_option maxRecDepth 100000 in
theorem lifted (os : Os) (started : os.Started) (H : Type) (enc : TypeId × Value → H) :
    ReturnsInHanded {} Try.checked os 12 .any (Rows.lineProvedSpec.pre6 enc Try.prog Try.f12 Rows.lineProvedRow.domain false) (Rows.lineProvedSpec.post enc Try.prog Try.f12 false true false false) := by
  refine returnsInHanded_of_change (C := Try.checked) own started (by kernel_rfl) Try.func12
    (ChangeSpec.witness6 (enc := enc) (C := Try.checked) false ⟨#[], #[.agg #[.int .u8 0, .int .u8 0, .int .u8 0, .int .u8 0, .int .u8 0, .int .u8 0, .int .u8 0, .int .u8 0, .int .u8 0, .int .u8 0, .int .u8 0, .int .u8 0, .int .u8 0], .agg #[.int .u8 0, .int .u8 0, .int .u8 0, .int .u8 0, .int .u8 0, .int .u8 0, .int .u8 0, .int .u8 0, .int .u8 0, .int .u8 0]], []⟩ 8 (by kernel_rfl) (by kernel_rfl) (by kernel_rfl) (by kernel_rfl)) ?_
  intro W base args ds gs before hval0 hW hcnd _
  have hval : ∀ (j : Nat) t v, Try.f12.params[j]? = some t → args[j]? = some v → Value.okWide Try.prog W .any base t v := hval0
  have hW' := hW
  obtain ⟨p, q, hA0, hV, rfl, hfz, hnd⟩ := hW
  have hA : DataW.TrodAll enc Try.prog W 0 (fun _ => true) true Try.f12.params.toList args.toList ds p := hA0
  have hA1 := hA
  rw [Try.params12] at hA hval
  obtain ⟨rfl, rfl⟩ := trodVars_none hV
  clear hA0 hval0
  simp only [List.append_nil] at hW'
  have hlt : ∀ x ∈ p, x.block < W.heap.size := fun x hx => by simpa using hW'.lt x hx
  obtain ⟨v0, v1, d0, d1, p0, p1, rfl, rfl, rfl, h0, h1⟩ := trodAll_two hA
  obtain ⟨g0, gl0, gx0, r0⟩ := rep_row (E := E0 W) (n := 13) (u := 5) (.inl ⟨_, Try.underlying47⟩) (by kernel_rfl) (by kernel_rfl) Try.underlying5 (hval 0 47 v0 rfl rfl)
  obtain ⟨W0, M0, S0, l0, rfl, hl0⟩ := split13 gl0
  obtain ⟨a1, al1, ax1, r1⟩ := rep_row (E := E0 W) (n := 10) (u := 5) (.inr ⟨_, _, Try.underlying45⟩) (by kernel_rfl) (by kernel_rfl) Try.underlying5 (hval 1 45 v1 rfl rfl)
  refine ((law (gx0 _ (by simp)) (gx0 _ (by simp)) (gx0 _ (by simp)) hl0 (fun x hx => gx0 x (by simp [hx])) al1 ax1).2 (E0 W) W [v0, v1] (st0 W) (RepL.cons r0 (RepL.cons r1 (RepL.nil _)))).mono ?_
  rintro e W' ⟨r, v, E', H', rfl, hr, _, hx, rfl⟩
  cases hr
  exact ⟨_, rfl, _, _, _, [], _, [], hW', trodAll_cons_mk (shut_bool Try.underlying4 _) trodAll_mk0, hx.trodAll laidOut (by kernel_rfl) hA1 hlt, rfl, hx.kept _, fun h => by cases h⟩

theorem over : Rows.lineProvedRow.holds Try.pinned (OpenSpec.ofChange Rows.lineProvedSpec) :=
  OpenClaim.holds_of_wide 12 Try.f12 rfl rfl rfl rfl rfl rfl rfl ⟨rfl, rfl, rfl, rfl, rfl⟩ rfl rfl rfl rfl rfl (by kernel_rfl) Try.func12 (by kernel_rfl)
    (of_decide_eq_true (by kernel_rfl)) (by unfold Func.isWrapper; first | (rw [if_pos (by decide +kernel)]; kernel_rfl) | (rw [if_neg (by decide +kernel)]; exact ⟨rfl, rfl⟩))
    (fun os started H enc _ => lifted os started H enc)

theorem proved : Rows.LineProvedSaid := over
#print axioms proved
end Go.Proofs.Ytlajhbpkogekfaa.lineProved
