import Derived.Test.YtbofkeoebnjjkaaDoorLBlockedP1
import Derived.Test.YtbofkeoebnjjkaaDoorConB
import Derived.Test.YtbofkeoebnjjkaaDoorAvB
import Derived.Test.YtbofkeoebnjjkaaDoorTie
import Derived.Test.YtbofkeoebnjjkaaDoorCards
import Derived.SevenTiedAt
/- TableBlocked: for every input the law returns true, and the input reads as before. No conditions. -/
namespace Go.Proofs.YtbofkeoebnjjkaaDoor
open Go.Av Tab
set_option linter.unusedVariables false
set_option linter.unusedSimpArgs false
set_option maxRecDepth 4000

theorem PT.base {H H1 H' : Heap} {bo : Nat} {cells : List AV} {t : Tbl} (h : PT H1 H' bo cells t) (hl : H.le H1) : PT H H' bo cells t := by
  refine ⟨Heap.le_trans hl h.le, none_of_le hl h.fo, h.out, h.len, fun k hk => ?_, h.dis⟩
  rcases h.row k hk with h1 | ⟨b, cp, q1, q2, q3, q4⟩
  · exact .inl h1
  · exact .inr ⟨b, cp, q1, q2, none_of_le hl q3, q4⟩
/-- Lists, each nothing or a block from its beginning on. -/
def OT (H : Heap) (X : AV) (t : Tbl) : Prop := ∃ cells : List AV, ReadsC 1 H X t.length cells ∧ ∀ k, k < t.length → (cells[k]? = some .nils ∧ t.getD k [] = []) ∨ ∃ b cp, cells[k]? = some (.ref 1 b 0 (t.getD k []).length cp) ∧ H b = some (ints (t.getD k []))
theorem BT.ot {H H' : Heap} {X : AV} {t : Tbl} (h : BT H H' X t) : OT H' X t := by
  rcases h with ⟨rfl, rfl, rfl⟩ | ⟨bo, cells, rfl, hP⟩
  · exact ⟨[], ⟨rfl, rfl⟩, fun k hk => by simp at hk⟩
  · refine ⟨cells, ⟨by rw [hP.len, Nat.mul_one], rfl, rfl, cells, hP.out, by rw [hP.len]; omega, by rw [List.drop_zero, List.take_of_length_le (by rw [hP.len]; omega)]⟩, fun k hk => ?_⟩
    rcases hP.row k hk with h1 | ⟨b, cp, q1, q2, q3, q4⟩
    · exact .inl h1
    · exact .inr ⟨b, cp, q1, q2⟩
/-- A number behind a list of which the capacity is cut. -/
theorem append_cap {H : Heap} {a : AV} {l : List Int} {x : Int} {n : Nat} (hn : n = l.length) (h : (a = .nils ∧ l = []) ∨ ∃ b cp, a = .ref 1 b 0 l.length cp ∧ H b = some (ints l)) (hl : l.length < 1000000) :
    ∃ s, slc 1 a none (some (.int .i64 (n : Int))) (some (.int .i64 (n : Int))) = some s ∧ ∀ (H' : Heap) (K : AV → Heap → Prop), H.le H' → (∀ b, H' b = none → K (.ref 1 b 0 (n + 1) none) (H'.put b (ints (l ++ [x])))) → appendA 1 8 s (.imm 1 true [.int .i64 x]) K H' := by
  subst hn
  have n1 : ∀ d, natOf none d = some d := fun d => rfl
  have n2 : ∀ d, natOf (some (.int .i64 (l.length : Int))) d = some l.length := fun d => by simp [natOf]
  rcases h with ⟨rfl, rfl⟩ | ⟨b, cp, rfl, hb⟩
  · refine ⟨.nils, by simp [slc, natOf], fun H' K hle hk => ?_⟩
    refine appendA_growR (Grow.nils 1 H') (m := 1) (new := [.int .i64 x]) (by simp [srcOf]) rfl rfl (by omega) (by omega) (by omega) fun v' H2 hg ho => ?_
    obtain ⟨b, hb, rfl, rfl⟩ := hg.own ho
    exact hk b hb
  · refine ⟨.ref 1 b 0 l.length (some l.length), ?_, fun H' K hle hk => ?_⟩
    · simp only [slc, n1, n2, Option.bind_some]
      rw [if_pos (by simp)]
      simp
    · refine ⟨1, [.int .i64 x], by simp [srcOf], rfl, rfl, rfl, ints l, hle _ _ hb, by simp, by omega, by omega, ?_⟩
      simp only
      rw [if_neg (by omega)]
      intro b' hb'
      have := hk b' hb'
      have e : (ints l).take (l.length * 1) ++ [AV.int .i64 x] = ints (l ++ [x]) := by
        rw [List.take_of_length_le (by simp)]
        simp [ints]
      rw [e]; exact this
/-- The lists of so many columns, all different. -/
def lvl (n : Nat) : Nat → List (List Nat)
  | 0 => [[]]
  | i + 1 => (lvl n i).flatMap fun l => ((List.range n).filter fun c => decide (c ∉ l)).map fun c => l ++ [c]
theorem ext_snoc {n : Nat} : ∀ (f : Nat) (E : List Nat), ext n (f + 1) E = (ext n f E).flatMap fun G => ((List.range n).filter fun c => decide (c ∉ E ++ G)).map fun c => G ++ [c]
  | 0, E => by
    simp only [ext, List.flatMap_cons, List.flatMap_nil, List.append_nil, List.nil_append, List.map_cons, List.map_nil]
    induction List.range n with
    | nil => rfl
    | cons a l ih =>
      simp only [List.flatMap_cons, List.filter_cons, ih]
      by_cases h : a ∈ E <;> simp [h]
  | f + 1, E => by
    rw [ext]
    have ih := fun c => ext_snoc (n := n) f (E ++ [c])
    have h1 : ∀ c, (if c ∈ E then [] else (ext n (f + 1) (E ++ [c])).map (c :: ·)) = (if c ∈ E then [] else (ext n f (E ++ [c])).map (c :: ·)).flatMap fun G => ((List.range n).filter fun x => decide (x ∉ E ++ G)).map fun x => G ++ [x] := by
      intro c
      by_cases hc : c ∈ E
      · rw [if_pos hc, if_pos hc]; rfl
      · rw [if_neg hc, if_neg hc, ih c, List.map_flatMap, List.flatMap_map]
        congr 1
        funext G
        rw [List.map_map]
        simp [Function.comp_def, List.append_assoc]
    rw [show ext n (f + 1) E = (List.range n).flatMap fun c => if c ∈ E then [] else (ext n f (E ++ [c])).map (c :: ·) from rfl, List.flatMap_assoc]
    congr 1
    funext c
    exact h1 c
theorem lvl_ext (n : Nat) : ∀ i, lvl n i = ext n i []
  | 0 => rfl
  | i + 1 => by
    rw [lvl, lvl_ext n i, ext_snoc]
    simp
theorem lvl_mem {n i : Nat} {l : List Nat} (h : l ∈ lvl n i) : l.length = i ∧ ∀ c ∈ l, c < n := by
  rw [lvl_ext] at h; exact ext_mem i [] l h
theorem lvl_len {n i : Nat} (hn : n ≤ 4) (hi : i ≤ 4) : (lvl n i).length ≤ 256 := by
  rw [lvl_ext]
  exact Nat.le_trans (ext_len i []) (pow_le4 hn hi)
/-- What the round has, behind some lists and some columns. -/
def nxt (n : Nat) (P : List (List Nat)) : List (List Nat) := P.flatMap fun l => ((List.range n).filter fun c => decide (c ∉ l)).map fun c => l ++ [c]
def nxtC (l : List Nat) (m : Nat) : List (List Nat) := ((List.range m).filter fun c => decide (c ∉ l)).map fun c => l ++ [c]
theorem nxtC_succ (l : List Nat) (m : Nat) : nxtC l (m + 1) = nxtC l m ++ if m ∈ l then [] else [l ++ [m]] := by
  unfold nxtC
  rw [List.range_succ, List.filter_append, List.map_append]
  by_cases h : m ∈ l <;> simp [h]
theorem nxt_take {n : Nat} {P : List (List Nat)} {i : Nat} (h : i < P.length) : nxt n (P.take (i + 1)) = nxt n (P.take i) ++ nxtC P[i] n := by
  unfold nxt
  rw [take_snoc h, List.flatMap_append]
  simp [nxtC]
theorem nxtC_len (l : List Nat) (m : Nat) : (nxtC l m).length ≤ m := by
  unfold nxtC
  rw [List.length_map]
  exact Nat.le_trans (List.length_filter_le _ _) (by simp)
theorem nxt_len {n : Nat} : ∀ P : List (List Nat), (nxt n P).length ≤ P.length * n
  | [] => by simp [nxt]
  | p :: P => by
    have h1 := nxt_len (n := n) P
    have h2 := nxtC_len p n
    have e : nxt n (p :: P) = nxtC p n ++ nxt n P := by simp [nxt, nxtC]
    rw [e, List.length_append, List.length_cons, Nat.add_mul, Nat.one_mul]
    omega
/-- plans -/
theorem c45 {n : Nat} {H : Heap} {K : AV → Heap → Prop} (hn : 1 ≤ n ∧ n ≤ 4) (hk : K (tl ((plansS n).map up)) H) : ACalls Tryd.prog 45 [.int .i64 n] H K := by
  apply W45_ok
  unfold W45
  simp only [letO_some, cellsOf?_agg, cellsOf?_int, cellsOf?_bool, cellsOf?_imm, cellsOf?_ref, cellsOf?_nils, faddr_iptr, faddr_ptr, List.drop_succ_cons, List.drop_zero, List.take_succ_cons, List.take_zero, load1_iptr, loadN_iptr, List.length_cons, List.length_nil, Nat.le_refl, if_true, List.getElem?_cons_zero, List.getElem?_cons_succ, List.getD_cons_zero, List.getD_cons_succ, extrF_tup, binF_add, binF_sub, binF_mul, binF_eql, binF_neq, binF_lss, binF_leq, binF_gtr, binF_geq, true_and, l22 (show cellsOf? AV.nils = some [AV.nils] from rfl)]
  refine ⟨fun L H' => ∃ (i : Nat) (X : AV), eqt L [X, .int .i64 i] ∧ i ≤ n ∧ H.le H' ∧ OT H' X ((lvl n i).map up) ∧ (i = 0 ∨ ∃ H1, H.le H1 ∧ BT H1 H' X ((lvl n i).map up)), fun L _ => (n - iv L 1).toNat,
    ⟨0, _, rfl, by omega, Heap.le_refl _, ⟨[.nils], ⟨rfl, rfl, rfl⟩, fun k hk => ?_⟩, .inl rfl⟩, ?_⟩
  · have : k = 0 := by simp [lvl] at hk; omega
    subst this
    exact .inl ⟨rfl, rfl⟩
  rintro L H1 ⟨i, X, rfl, hi, hle1, hO, hB⟩
  try simp only [letO_some, cellsOf?_agg, cellsOf?_int, cellsOf?_bool, cellsOf?_imm, cellsOf?_ref, cellsOf?_nils, faddr_iptr, faddr_ptr, List.drop_succ_cons, List.drop_zero, List.take_succ_cons, List.take_zero, load1_iptr, loadN_iptr, List.length_cons, List.length_nil, Nat.le_refl, if_true, List.getElem?_cons_zero, List.getElem?_cons_succ, List.getD_cons_zero, List.getD_cons_succ, extrF_tup, binF_add, binF_sub, binF_mul, binF_eql, binF_neq, binF_lss, binF_leq, binF_gtr, binF_geq, true_and]
  refine condA_t (fun hlt => ?_) (fun hge => ?_)
  · have a1 : i < n := by omega
    have hPm : ∀ l ∈ lvl n i, l.length = i ∧ ∀ c ∈ l, c < n := fun l hl => lvl_mem hl
    have hPl : (lvl n i).length ≤ 256 := lvl_len hn.2 (by omega)
    have hnext : lvl n (i + 1) = nxt n (lvl n i) := rfl
    generalize hP : lvl n i = P at *
    obtain ⟨cells, hcs, hrow⟩ := hO
    have hlX : lenA X = some (.int .i64 P.length) := by have := hcs.len; simpa using this
    simp only [hlX, letO_some]
    have hne : ∀ Q : List (List Nat), (∀ l ∈ Q, l ≠ []) → ∀ l ∈ Q.map up, l ≠ [] := by
      intro Q hQ l hl h
      obtain ⟨m, hm, rfl⟩ := List.mem_map.1 hl
      exact hQ m hm (List.eq_nil_of_length_eq_zero (by have := congrArg List.length h; simpa [up] using this))
    have hnn : ∀ Q m l, (∀ x ∈ nxt n Q ++ nxtC l m, x ≠ []) := by
      intro Q m l x hx
      rcases List.mem_append.1 hx with h | h
      · unfold nxt at h
        rw [List.mem_flatMap] at h
        obtain ⟨y, _, h⟩ := h
        obtain ⟨c, _, rfl⟩ := List.mem_map.1 h
        simp
      · obtain ⟨c, _, rfl⟩ := List.mem_map.1 h
        simp
    refine ⟨fun L H' => ∃ (j : Nat) (Y : AV), eqt L [Y, .int .i64 j] ∧ j ≤ P.length ∧ BT H1 H' Y ((nxt n (P.take j)).map up), fun L _ => (P.length - iv L 1).toNat, ⟨0, .nils, rfl, by omega, BT.nil H1⟩, ?_⟩
    rintro L H2 ⟨j, Y, rfl, hj, hBY⟩
    try simp only [letO_some, cellsOf?_agg, cellsOf?_int, cellsOf?_bool, cellsOf?_imm, cellsOf?_ref, cellsOf?_nils, faddr_iptr, faddr_ptr, List.drop_succ_cons, List.drop_zero, List.take_succ_cons, List.take_zero, load1_iptr, loadN_iptr, List.length_cons, List.length_nil, Nat.le_refl, if_true, List.getElem?_cons_zero, List.getElem?_cons_succ, List.getD_cons_zero, List.getD_cons_succ, extrF_tup, binF_add, binF_sub, binF_mul, binF_eql, binF_neq, binF_lss, binF_leq, binF_gtr, binF_geq, true_and]
    refine condA_t (fun hlt2 => ?_) (fun hge2 => ?_)
    · have b1 : j < P.length := by omega
      have hrj := hrow j (by simpa using b1)
      have hgj : (P.map up).getD j [] = up P[j] := by simp [List.getD_eq_getElem?_getD, b1]
      rw [hgj] at hrj
      obtain ⟨a, ha, hra⟩ : ∃ a, cells[j]? = some a ∧ ((a = .nils ∧ up P[j] = []) ∨ ∃ b cp, a = .ref 1 b 0 (up P[j]).length cp ∧ H1 b = some (ints (up P[j]))) := by
        rcases hrj with ⟨h1, h2⟩ | ⟨b, cp, h1, h2⟩
        · exact ⟨_, h1, .inl ⟨rfl, h2⟩⟩
        · exact ⟨_, h1, .inr ⟨b, cp, rfl, h2⟩⟩
      have hpl := (hPm P[j] (List.getElem_mem b1)).1
      have hRa : Reads H1 a (up P[j]) := by
        rcases hra with ⟨rfl, h2⟩ | ⟨b, cp, rfl, h2⟩
        · rw [h2]; rfl
        · exact ⟨rfl, rfl, _, h2, by simp, by rw [List.drop_zero, List.take_of_length_le (by simp)]⟩
      refine hcs.get hBY.le (by omega) (by simpa using b1) (by rw [Int.toNat_natCast]; exact ha) ?_
      try simp only [letO_some]
      have hnl := nxt_len (n := n) (P.take j)
      have hjl : (P.take j).length ≤ 256 := by rw [List.length_take]; omega
      have hmul : (P.take j).length * n ≤ 256 * 4 := Nat.mul_le_mul hjl hn.2
      have hjt : nxt n (P.take (j + 1)) = nxt n (P.take j) ++ nxtC P[j] n := nxt_take b1
      have hQne : ∀ x ∈ nxt n (P.take j), x ≠ [] := fun x hx => hnn (P.take j) 0 [] x (List.mem_append.2 (.inl hx))
      generalize P[j] = l at *
      generalize nxt n (P.take j) = Q at *
      refine ⟨fun L H' => ∃ (m : Nat) (Z : AV), eqt L [Z, .int .i64 m] ∧ m ≤ n ∧ BT H1 H' Z ((Q ++ nxtC l m).map up), fun L _ => (n - iv L 1).toNat, ⟨0, Y, rfl, by omega, by simpa [nxtC] using hBY⟩, ?_⟩
      rintro L H3 ⟨m, Z, rfl, hm, hBZ⟩
      try simp only [letO_some, cellsOf?_agg, cellsOf?_int, cellsOf?_bool, cellsOf?_imm, cellsOf?_ref, cellsOf?_nils, faddr_iptr, faddr_ptr, List.drop_succ_cons, List.drop_zero, List.take_succ_cons, List.take_zero, load1_iptr, loadN_iptr, List.length_cons, List.length_nil, Nat.le_refl, if_true, List.getElem?_cons_zero, List.getElem?_cons_succ, List.getD_cons_zero, List.getD_cons_succ, extrF_tup, binF_add, binF_sub, binF_mul, binF_eql, binF_neq, binF_lss, binF_leq, binF_gtr, binF_geq, true_and]
      refine condA_t (fun hlt3 => ?_) (fun hge3 => ?_)
      · have c1 : m < n := by omega
        have hRl := (hRa.le hBZ.le).len
        have hcl := nxtC_len l m
        refine ⟨fun L H' => ∃ Z' : AV, eqt L [Z'] ∧ BT H1 H' Z' ((Q ++ nxtC l (m + 1)).map up), ?_, ?_⟩
        · refine c62 (hRa.le hBZ.le) (by rw [up_length]; omega) ?_
          try simp only [not_v, letO_some, cellsOf?_agg, cellsOf?_int, cellsOf?_bool, cellsOf?_imm, cellsOf?_ref, cellsOf?_nils, faddr_iptr, faddr_ptr, List.drop_succ_cons, List.drop_zero, List.take_succ_cons, List.take_zero, load1_iptr, loadN_iptr, List.length_cons, List.length_nil, Nat.le_refl, if_true, List.getElem?_cons_zero, List.getElem?_cons_succ, List.getD_cons_zero, List.getD_cons_succ, extrF_tup, binF_add, binF_sub, binF_mul, binF_eql, binF_neq, binF_lss, binF_leq, binF_gtr, binF_geq, true_and]
          rw [nxtC_succ]
          by_cases hin : m ∈ l
          · have e2 : decide ((m : Int) ∈ up l) = true := decide_eq_true (mem_up.2 hin)
            simp only [e2, Bool.not_true, condA_ff]
            rw [if_pos hin, List.append_nil]
            exact ⟨Z, rfl, hBZ⟩
          · have e2 : decide ((m : Int) ∈ up l) = false := decide_eq_false (fun h => hin (mem_up.1 h))
            obtain ⟨s, hs, happ⟩ := append_cap (H := H1) (a := a) (l := up l) (x := (m : Int)) rfl hra (by rw [up_length]; omega)
            simp only [e2, Bool.not_false, condA_tt, hRl, hs, l23 cellsOf?_int, letO_some]
            refine happ H3 _ hBZ.le fun b hb => ?_
            simp only [l22 cellsOf?_ref, letO_some]
            have hup : up l ++ [(m : Int)] = up (l ++ [m]) := by simp [up]
            rw [hup]
            refine hBZ.push (l := up (l ++ [m])) (hne _ fun x hx => (List.mem_append.1 hx).elim (hQne x) fun h => by
              obtain ⟨c, _, rfl⟩ := List.mem_map.1 h
              simp) hb (by simp [up]) (by rw [List.length_map, List.length_append]; omega) fun Z' H7 hB7 => ?_
            refine ⟨Z', rfl, ?_⟩
            rw [if_neg hin, ← List.append_assoc, List.map_append (l₁ := Q ++ nxtC l m)]
            exact hB7
        · rintro L H4 ⟨Z', rfl, hBZ'⟩
          try simp only [letO_some, cellsOf?_agg, cellsOf?_int, cellsOf?_bool, cellsOf?_imm, cellsOf?_ref, cellsOf?_nils, faddr_iptr, faddr_ptr, List.drop_succ_cons, List.drop_zero, List.take_succ_cons, List.take_zero, load1_iptr, loadN_iptr, List.length_cons, List.length_nil, Nat.le_refl, if_true, List.getElem?_cons_zero, List.getElem?_cons_succ, List.getD_cons_zero, List.getD_cons_succ, extrF_tup, binF_add, binF_sub, binF_mul, binF_eql, binF_neq, binF_lss, binF_leq, binF_gtr, binF_geq, true_and]
          rw [wrap_i64 (by omega) (by omega)]
          exact ⟨⟨m + 1, Z', rfl, by omega, hBZ'⟩, by simp <;> omega⟩
      · have hme : m = n := by omega
        subst hme
        rw [wrap_i64 (by omega) (by omega)]
        refine ⟨⟨j + 1, Z, rfl, by omega, ?_⟩, by simp <;> omega⟩
        rw [hjt]; exact hBZ
    · have hje : j = P.length := by omega
      subst hje
      rw [List.take_length] at hBY
      rw [wrap_i64 (by omega) (by omega)]
      refine ⟨⟨i + 1, Y, rfl, by omega, Heap.le_trans hle1 hBY.le, ?_, .inr ⟨H1, hle1, ?_⟩⟩, by simp <;> omega⟩
      · rw [hnext]; exact hBY.ot
      · rw [hnext]; exact hBY
  · have hie : i = n := by omega
    subst hie
    rcases hB with h0 | ⟨H2, hle2, hB⟩
    · omega
    · have e : (lvl i i).map up = (plansS i).map up := by rw [lvl_ext]; rfl
      rw [e] at hB
      rcases hB with ⟨rfl, rfl, ht⟩ | ⟨bo, cells, rfl, hP⟩
      · exfalso
        have := congrArg List.length ht
        rw [List.length_map] at this
        have hx : 0 < (plansS i).length := by
          have hi4 : i = 1 ∨ i = 2 ∨ i = 3 ∨ i = 4 := by omega
          rcases hi4 with rfl | rfl | rfl | rfl <;> decide
        simp at this; rw [this] at hx; simp at hx
      · exact BT.end1 (.inr ⟨bo, cells, rfl, hP.base hle2⟩) hk
end Go.Proofs.YtbofkeoebnjjkaaDoor

namespace Go.Proofs.YtbofkeoebnjjkaaDoor
open Go.Av Tab
set_option linter.unusedVariables false
set_option linter.unusedSimpArgs false
set_option maxRecDepth 4000

/-- Two lists that are being built at once. -/
theorem grow_swap {H H1 H' : Heap} {A B : AV} {n m : Nat} {ca cb : List AV} (h1 : Grow 1 H H1 A n ca) (h2 : Grow 1 H1 H' B m cb) : ∃ H2, Grow 1 H H2 B m cb ∧ Grow 1 H2 H' A n ca := by
  rcases h2 with ⟨l2, ⟨rfl, rfl, rfl⟩ | ⟨rfl, rfl⟩ | ⟨b2, hb2, rfl, rfl⟩⟩
  · exact ⟨H, ⟨l2, .inl ⟨rfl, rfl, rfl⟩⟩, h1⟩
  · exact ⟨H, ⟨l2, .inr (.inl ⟨rfl, rfl⟩)⟩, h1⟩
  · rcases h1 with ⟨l1, ⟨rfl, rfl, rfl⟩ | ⟨rfl, rfl⟩ | ⟨b1, hb1, rfl, rfl⟩⟩
    · exact ⟨_, Grow.ref hb2 l2, l1, .inl ⟨rfl, rfl, rfl⟩⟩
    · exact ⟨_, Grow.ref hb2 l2, l1, .inr (.inl ⟨rfl, rfl⟩)⟩
    · have hne : b1 ≠ b2 := Heap.ne_of Heap.put_same hb2
      have hb2' : H b2 = none := by rwa [Heap.put_ne (Ne.symm hne)] at hb2
      refine ⟨H.put b2 cb, Grow.ref hb2' l2, l1, .inr (.inr ⟨b1, by rw [Heap.put_ne hne]; exact hb1, rfl, Heap.put_comm hne⟩)⟩
/-- One bit of a byte. -/
theorem shr_u8 {x k : Nat} (hx : x < 256) (hk : k < 4) : binF Tryd.prog .shr 5 (.int .u8 (x : Int)) (.int .i64 (k : Int)) = some (.int .u8 ((x / 2 ^ k : Nat) : Int)) := by
  have e : min (k : Int).toNat 8 = k := by omega
  show (if (k : Int) < 0 then none else some (AV.int .u8 ((x : Int).fdiv (2 ^ min (k : Int).toNat 8)))) = _
  rw [if_neg (by omega), e, Int.ofNat_fdiv]
  rfl
theorem and_one {y : Nat} (hy : y < 256) : binF Tryd.prog .and 5 (.int .u8 (y : Int)) (.int .u8 1) = some (.int .u8 ((y % 2 : Nat) : Int)) := by
  have key : ∀ y : Fin 256, IntKind.u8.wrap ((BitVec.ofInt 8 (y.val : Int) &&& BitVec.ofInt 8 1).toNat) = ((y.val % 2 : Nat) : Int) := by decide +kernel
  have := key ⟨y, hy⟩
  show (if IntKind.u8 = IntKind.u8 then some (AV.int .u8 (IntKind.u8.wrap ((BitVec.ofInt 8 (y : Int) &&& BitVec.ofInt 8 1).toNat))) else none) = _
  rw [if_pos rfl]
  congr 2
theorem bit_eq {x k : Nat} : (((x / 2 ^ k % 2 : Nat) : Int) == 1) = x.testBit k := by
  rw [Nat.testBit_eq_decide_div_mod_eq]
  by_cases h : x / 2 ^ k % 2 = 1
  · rw [h]; rfl
  · rw [decide_eq_false h, beq_eq_false_iff_ne]; omega
/-- The product of the numbers of a table at the first places of a plan. -/
def prodZ (t : Tb) (p : List Int) : Nat → Int
  | 0 => 1
  | i + 1 => prodZ t p i * cell t i (p.getD i 0).toNat
theorem prodZ_bd {t : Tb} {B : Int} (hb : ∀ r c, 0 ≤ cell t r c ∧ cell t r c ≤ B) (p : List Int) : ∀ i, 0 ≤ prodZ t p i ∧ prodZ t p i ≤ B ^ i
  | 0 => by simp [prodZ]
  | i + 1 => by
    obtain ⟨h1, h2⟩ := prodZ_bd hb p i
    obtain ⟨h3, h4⟩ := hb i (p.getD i 0).toNat
    rw [prodZ, Int.pow_succ]
    exact ⟨Int.mul_nonneg h1 h3, Int.mul_le_mul h2 h4 h3 (Int.pow_nonneg (by omega))⟩
/-- weight -/
theorem c48 {v u : AV} {t : Tbl} {p : List Int} {H : Heap} {K : AV → Heap → Prop} (hv : RT H v t) (hu : Reads H u p) (hpl : p.length ≤ t.length) (h4 : p.length ≤ 4) (hb : ∀ r c, 0 ≤ cell t r c ∧ cell t r c ≤ 1000)
    (hp : ∀ r, r < p.length → 0 ≤ p.getD r 0 ∧ (p.getD r 0).toNat < (row t r).length) (hk : K (.int .i64 (prodZ t p p.length)) H) : ACalls Tryd.prog 48 [v, u] H K := by
  apply W48_ok
  unfold W48
  simp only [letO_some, cellsOf?_agg, cellsOf?_int, cellsOf?_bool, cellsOf?_imm, cellsOf?_ref, cellsOf?_nils, faddr_iptr, faddr_ptr, List.drop_succ_cons, List.drop_zero, List.take_succ_cons, List.take_zero, load1_iptr, loadN_iptr, List.length_cons, List.length_nil, Nat.le_refl, if_true, List.getElem?_cons_zero, List.getElem?_cons_succ, List.getD_cons_zero, List.getD_cons_succ, extrF_tup, binF_add, binF_sub, binF_mul, binF_eql, binF_neq, binF_lss, binF_leq, binF_gtr, binF_geq, true_and, hu.len]
  refine ⟨fun L H' => ∃ i : Nat, eqt L [.int .i64 (prodZ t p i), .int .i64 i] ∧ i ≤ p.length ∧ eqt H' H, fun L _ => (p.length - iv L 1).toNat, ⟨0, rfl, by omega, rfl⟩, ?_⟩
  rintro L H' ⟨i, rfl, hi, rfl⟩
  try simp only [letO_some, cellsOf?_agg, cellsOf?_int, cellsOf?_bool, cellsOf?_imm, cellsOf?_ref, cellsOf?_nils, faddr_iptr, faddr_ptr, List.drop_succ_cons, List.drop_zero, List.take_succ_cons, List.take_zero, load1_iptr, loadN_iptr, List.length_cons, List.length_nil, Nat.le_refl, if_true, List.getElem?_cons_zero, List.getElem?_cons_succ, List.getD_cons_zero, List.getD_cons_succ, extrF_tup, binF_add, binF_sub, binF_mul, binF_eql, binF_neq, binF_lss, binF_leq, binF_gtr, binF_geq, true_and]
  refine condA_t (fun hlt => ?_) (fun hge => ?_)
  · have a1 : i < p.length := by omega
    have hpi := hp i a1
    refine hu.get (Heap.le_refl _) (by omega) (by omega) ?_
    rw [Int.toNat_natCast]
    refine hv.get (Heap.le_refl _) (by omega) (by omega) fun a ha => ?_
    rw [Int.toNat_natCast, show t.getD i [] = row t i from rfl] at ha
    refine ha.get (Heap.le_refl _) hpi.1 (by omega) ?_
    rw [show (row t i).getD (p.getD i 0).toNat 0 = cell t i (p.getD i 0).toNat from rfl]
    have b1 := prodZ_bd hb p i
    have b2 := prodZ_bd hb p (i + 1)
    have h9 : ∀ j, j ≤ 4 → (1000 : Int) ^ j ≤ 1000000000000 := by
      intro j hj
      have : j = 0 ∨ j = 1 ∨ j = 2 ∨ j = 3 ∨ j = 4 := by omega
      rcases this with h | h | h | h | h <;> rw [h] <;> decide
    have b3 := h9 (i + 1) (by omega)
    rw [prodZ] at b2
    try simp only [letO_some, cellsOf?_agg, cellsOf?_int, cellsOf?_bool, cellsOf?_imm, cellsOf?_ref, cellsOf?_nils, faddr_iptr, faddr_ptr, List.drop_succ_cons, List.drop_zero, List.take_succ_cons, List.take_zero, load1_iptr, loadN_iptr, List.length_cons, List.length_nil, Nat.le_refl, if_true, List.getElem?_cons_zero, List.getElem?_cons_succ, List.getD_cons_zero, List.getD_cons_succ, extrF_tup, binF_add, binF_sub, binF_mul, binF_eql, binF_neq, binF_lss, binF_leq, binF_gtr, binF_geq, true_and]
    rw [wrap_i64 (n := prodZ t p i * _) (by omega) (by omega), wrap_i64 (by omega) (by omega)]
    exact ⟨⟨i + 1, rfl, by omega, rfl⟩, by simp <;> omega⟩
  · have hie : i = p.length := by omega
    subst hie
    exact endK_ret hk
theorem prodZ_zero {t : Tb} {p : List Int} : ∀ n, prodZ t p n = 0 ↔ ∃ i, i < n ∧ cell t i (p.getD i 0).toNat = 0
  | 0 => by simp [prodZ]
  | n + 1 => by
    rw [prodZ, Int.mul_eq_zero, prodZ_zero n]
    constructor
    · rintro (⟨i, h1, h2⟩ | h)
      · exact ⟨i, by omega, h2⟩
      · exact ⟨n, by omega, h⟩
    · rintro ⟨i, h1, h2⟩
      by_cases hi : i = n
      · subst hi; exact .inr h2
      · exact .inl ⟨i, by omega, h2⟩
theorem planS_snoc {n : Nat} : ∀ (l seen : List Int) (c : Int), planS n seen (l ++ [c]) = if planS n seen l ≠ 0 then planS n seen l else if c < 0 ∨ (n : Int) ≤ c then 2 else if c ∈ seen ++ l then 6 else 0
  | [], seen, c => by simp [planS]
  | a :: l, seen, c => by
    rw [List.cons_append, planS, planS]
    by_cases h1 : a < 0 ∨ (n : Int) ≤ a
    · rw [if_pos h1, if_pos h1, if_pos (by decide)]
    · rw [if_neg h1, if_neg h1]
      by_cases h2 : a ∈ seen
      · rw [if_pos h2, if_pos h2, if_pos (by decide)]
      · rw [if_neg h2, if_neg h2, planS_snoc l (seen ++ [a]) c]
        simp [List.append_assoc]
/-- Rows or columns by the bits of a byte. -/
def bitL (x n : Nat) : List Nat := (List.range n).filter x.testBit
theorem bitL_succ (x n : Nat) : bitL x (n + 1) = bitL x n ++ if x.testBit n then [n] else [] := by
  rw [bitL, List.range_succ, List.filter_append, ← bitL]
  by_cases h : x.testBit n <;> simp [h]
theorem bitL_len (x n : Nat) : (bitL x n).length ≤ n := by
  refine Nat.le_trans (List.length_filter_le _ _) (by simp)
theorem bitL_lt {x n c : Nat} (h : c ∈ bitL x n) : c < n := by
  have := (List.mem_filter.1 h).1
  simpa using this
theorem rdE_snoc {n : Nat} : ∀ {l : List Int} {last x : Int}, rdE n last l = 0 → rdE n last (l ++ [x]) = if x < 0 ∨ (n : Int) ≤ x then 2 else if (∃ y ∈ last :: l, x ≤ y) then 7 else 0
  | [], last, x, _ => by simp [rdE]
  | a :: l, last, x, h => by
    unfold rdE at h
    split at h
    · cases h
    · rename_i h1
      split at h
      · cases h
      · rename_i h2
        rw [List.cons_append, rdE, if_neg h1, if_neg h2, rdE_snoc h]
        by_cases hx : x < 0 ∨ (n : Int) ≤ x
        · rw [if_pos hx, if_pos hx]
        · rw [if_neg hx, if_neg hx]
          by_cases hy : ∃ y ∈ a :: l, x ≤ y
          · rw [if_pos hy, if_pos (by obtain ⟨y, q1, q2⟩ := hy; exact ⟨y, by simp at q1 ⊢; exact .inr q1, q2⟩)]
          · rw [if_neg hy, if_neg (by
              rintro ⟨y, q1, q2⟩
              rcases List.mem_cons.1 q1 with rfl | q1
              · exact hy ⟨a, by simp, by omega⟩
              · exact hy ⟨y, q1, q2⟩)]
theorem rdE_bitL {x n : Nat} : ∀ m, m ≤ n → rdE n (-1) (up (bitL x m)) = 0
  | 0, _ => by simp [bitL, up, rdE]
  | m + 1, h => by
    have ih := rdE_bitL (x := x) (n := n) m (by omega)
    rw [bitL_succ]
    by_cases hb : x.testBit m
    · rw [if_pos hb]
      have : up (bitL x m ++ [m]) = up (bitL x m) ++ [(m : Int)] := by simp [up]
      rw [this, rdE_snoc ih, if_neg (by omega), if_neg]
      rintro ⟨y, q1, q2⟩
      rcases List.mem_cons.1 q1 with rfl | q1
      · omega
      · obtain ⟨z, hz, rfl⟩ := List.mem_map.1 q1
        have h9 : z < m := bitL_lt hz
        have q3 : (m : Int) ≤ (z : Int) := q2
        omega
    · rw [if_neg hb, List.append_nil]; exact ih
end Go.Proofs.YtbofkeoebnjjkaaDoor
namespace Go.Proofs.YtbofkeoebnjjkaaDoor
open Go.Av Tab
/-- slices.Clone: a list of one's own, or nothing. -/
theorem c59' {v : AV} {l : List Int} {H : Heap} {K : AV → Heap → Prop} (hv : Reads H v l) (hnil : l = [] → v = .nils) (hl : l.length < 1000000) (hk : ∀ v' H', Grow 1 H H' v' l.length (ints l) → K v' H') : ACalls Tryd.prog 59 [v] H K := by
  by_cases hne : l = []
  · obtain rfl := hnil hne
    subst hne
    apply W59_ok
    unfold W59
    simp only [letO_some, nil_nil]
    exact condA_tt.2 (endK_ret (hk _ _ (Grow.nils 1 H)))
  · exact c59 hv hne hl fun b hb => hk _ _ (Grow.ref hb (by simp))
end Go.Proofs.YtbofkeoebnjjkaaDoor

namespace Go.Proofs.YtbofkeoebnjjkaaDoor
open Go.Av Tab
set_option linter.unusedVariables false
set_option linter.unusedSimpArgs false
set_option maxRecDepth 4000

theorem first_eq (t : Tb) : (if chkT t ≠ 0 then [] else match withinS t with | [] => [] | p :: _ => up p) = (if chkT t ≠ 0 then [] else match wkAll t with | [] => [] | x :: _ => up x.1) := by
  by_cases hc : chkT t = 0
  · rw [if_neg (by simp [hc]), if_neg (by simp [hc]), wkAll_eq hc]
    cases withinS t <;> rfl
  · rw [if_pos hc, if_pos hc]
theorem firstE_eq (t : Tb) : (if chkT t ≠ 0 then chkT t else match withinS t with | [] => 12 | _ => 0) = (if chkT t ≠ 0 then chkT t else if wkAll t = [] then 12 else 0) := by
  by_cases hc : chkT t = 0
  · rw [if_neg (by simp [hc]), if_neg (by simp [hc]), wkAll_eq hc]
    cases withinS t <;> simp
  · rw [if_pos hc, if_pos hc]
theorem count_eq (t : Tb) : (if chkT t ≠ 0 then 0 else ((withinS t).length : Int)) = (countE t).1 := by
  by_cases hc : chkT t = 0
  · rw [if_neg (by simp [hc]), countE_eq hc]
  · rw [if_pos hc, countE, if_pos hc]
theorem weight_eq (t : Tb) : (if chkT t ≠ 0 then 0 else sumP t (plansS t.length)) = (weightE t).1 := by
  by_cases hc : chkT t = 0
  · rw [if_neg (by simp [hc]), weightE_eq hc]
  · rw [if_pos hc, weightE, if_pos hc]
theorem turn_len (t : Tb) : (if chkT t ≠ 0 then [] else turnE t).length < 2 ^ 63 ∧ ∀ l ∈ (if chkT t ≠ 0 then [] else turnE t), l.length < 2 ^ 63 := by
  by_cases hc : chkT t = 0
  · obtain ⟨n1, n2, hrows⟩ := chkT_ok hc
    rw [if_neg (by simp [hc])]
    refine ⟨by rw [turnE_length]; omega, fun l hl => ?_⟩
    obtain ⟨k, hk, rfl⟩ := List.mem_map.1 hl
    simp; omega
  · rw [if_pos hc]; simp
theorem first_len {t : Tb} : (if chkT t ≠ 0 then [] else match wkAll t with | [] => [] | x :: _ => up x.1).length < 2 ^ 63 := by
  by_cases hc : chkT t = 0
  · obtain ⟨n1, n2, hrows⟩ := chkT_ok hc
    rw [if_neg (by simp [hc])]
    cases hw : wkAll t with
    | nil => simp
    | cons x r =>
      have := (wk_mem hc _ _ _ _ x (by rw [show wk t t.length [] 1 9 = wkAll t from rfl, hw]; simp)).1
      simp only [up_length]
      simp at this; omega
  · rw [if_pos hc]; simp
def firstW (t : Tb) : List Int := if chkT t ≠ 0 then [] else match wkAll t with | [] => [] | x :: _ => up x.1
def firstX (t : Tb) : Int := if chkT t ≠ 0 then chkT t else if wkAll t = [] then 12 else 0
theorem c20w {v : AV} {t : Tbl} {H : Heap} {K : AV → Heap → Prop} (hv : RT H v t) (hl : t.length < 2 ^ 63) (hl2 : ∀ l ∈ t, l.length < 2 ^ 63)
    (hk : K (.tup [sl (firstW t), .int .i64 (firstX t)]) H) : ACalls Tryd.prog 20 [v] H K := c20 hv hl hl2 hk
theorem c21w {v : AV} {t : Tbl} {H : Heap} {K : AV → Heap → Prop} (hv : RT H v t) (hl : t.length < 2 ^ 63) (hl2 : ∀ l ∈ t, l.length < 2 ^ 63)
    (hk : ∀ a, Reads H a (firstW t) → K (.tup [a, .int .i64 (firstX t)]) H) : ACalls Tryd.prog 21 [v] H K := by
  refine c21 hv hl hl2 fun a ha => ?_
  have h1 := hk a (by
    have e := first_eq t
    unfold firstW
    refine Eq.mp (congrArg (Reads H a) e) ?_
    exact ha)
  have e := firstE_eq t
  unfold firstX at h1
  refine Eq.mp (congrArg (fun z => K (.tup [a, .int .i64 z]) H) e.symm) ?_
  exact h1
/-- TablePlans -/
theorem c3 {v u : AV} {t : Tbl} {p : List Int} {H : Heap} {K : AV → Heap → Prop} (hv : RT H v t) (hu : Reads H u p) (hl : t.length < 2 ^ 63) (hl2 : ∀ l ∈ t, l.length < 2 ^ 63) (hl3 : p.length < 2 ^ 63) (hk : K (.bool true) H) : ACalls Tryd.prog 3 [v, u] H K := by
  apply W3_ok
  unfold W3
  try simp only [letO_some, cellsOf?_agg, cellsOf?_int, cellsOf?_bool, cellsOf?_imm, cellsOf?_ref, cellsOf?_nils, faddr_iptr, faddr_ptr, List.drop_succ_cons, List.drop_zero, List.take_succ_cons, List.take_zero, load1_iptr, loadN_iptr, List.length_cons, List.length_nil, Nat.le_refl, if_true, List.getElem?_cons_zero, List.getElem?_cons_succ, List.getD_cons_zero, List.getD_cons_succ, extrF_tup, binF_add, binF_sub, binF_mul, binF_eql, binF_neq, binF_lss, binF_leq, binF_gtr, binF_geq, true_and]
  refine c16 hv hl fun b _ => ?_
  have go : ∀ b : Bool, pickF (.bool b) (.bool true) (if b then .tup [] else .bool (decide ((20 : Int) < p.length))) = some (.bool (b || decide ((20 : Int) < p.length))) := by
    intro b; cases b <;> rfl
  have fin : ACalls Tryd.prog 17 [] H fun t26 H2 => letO (some (t26 : AV)) fun t4 => endK t4 H2 K := by
    refine c17 ?_
    try simp only [letO_some, cellsOf?_agg, cellsOf?_int, cellsOf?_bool, cellsOf?_imm, cellsOf?_ref, cellsOf?_nils, faddr_iptr, faddr_ptr, List.drop_succ_cons, List.drop_zero, List.take_succ_cons, List.take_zero, load1_iptr, loadN_iptr, List.length_cons, List.length_nil, Nat.le_refl, if_true, List.getElem?_cons_zero, List.getElem?_cons_succ, List.getD_cons_zero, List.getD_cons_succ, extrF_tup, binF_add, binF_sub, binF_mul, binF_eql, binF_neq, binF_lss, binF_leq, binF_gtr, binF_geq, true_and]
    exact endK_ret hk
  try simp only [letO_some, cellsOf?_agg, cellsOf?_int, cellsOf?_bool, cellsOf?_imm, cellsOf?_ref, cellsOf?_nils, faddr_iptr, faddr_ptr, List.drop_succ_cons, List.drop_zero, List.take_succ_cons, List.take_zero, load1_iptr, loadN_iptr, List.length_cons, List.length_nil, Nat.le_refl, if_true, List.getElem?_cons_zero, List.getElem?_cons_succ, List.getD_cons_zero, List.getD_cons_succ, extrF_tup, binF_add, binF_sub, binF_mul, binF_eql, binF_neq, binF_lss, binF_leq, binF_gtr, binF_geq, true_and] at fin
  cases b with
  | true =>
    simp only [letO_some, cellsOf?_agg, cellsOf?_int, cellsOf?_bool, cellsOf?_imm, cellsOf?_ref, cellsOf?_nils, faddr_iptr, faddr_ptr, List.drop_succ_cons, List.drop_zero, List.take_succ_cons, List.take_zero, load1_iptr, loadN_iptr, List.length_cons, List.length_nil, Nat.le_refl, if_true, List.getElem?_cons_zero, List.getElem?_cons_succ, List.getD_cons_zero, List.getD_cons_succ, extrF_tup, binF_add, binF_sub, binF_mul, binF_eql, binF_neq, binF_lss, binF_leq, binF_gtr, binF_geq, true_and, gval_bool, Int.reduceBNe, Int.reduceBEq, pickF_true, pickF_false, reduceIte, Bool.true_eq_false, Bool.false_eq_true, if_false, condA_tt, condA_ff, condG_tt, condG_ff, condG_tt', condG_ff', condG_undef, gval_undef]
    exact fin
  | false =>
    simp only [letO_some, cellsOf?_agg, cellsOf?_int, cellsOf?_bool, cellsOf?_imm, cellsOf?_ref, cellsOf?_nils, faddr_iptr, faddr_ptr, List.drop_succ_cons, List.drop_zero, List.take_succ_cons, List.take_zero, load1_iptr, loadN_iptr, List.length_cons, List.length_nil, Nat.le_refl, if_true, List.getElem?_cons_zero, List.getElem?_cons_succ, List.getD_cons_zero, List.getD_cons_succ, extrF_tup, binF_add, binF_sub, binF_mul, binF_eql, binF_neq, binF_lss, binF_leq, binF_gtr, binF_geq, true_and, gval_bool, Int.reduceBNe, Int.reduceBEq, pickF_true, pickF_false, reduceIte, Bool.true_eq_false, Bool.false_eq_true, if_false, condA_tt, condA_ff, condG_tt, condG_ff, condG_tt', condG_ff', condG_undef, gval_undef, hu.len]
    refine condA_t (fun _ => fin) (fun _ => ?_)
    refine c18 hv hl hl2 ?_
    try simp only [letO_some, cellsOf?_agg, cellsOf?_int, cellsOf?_bool, cellsOf?_imm, cellsOf?_ref, cellsOf?_nils, faddr_iptr, faddr_ptr, List.drop_succ_cons, List.drop_zero, List.take_succ_cons, List.take_zero, load1_iptr, loadN_iptr, List.length_cons, List.length_nil, Nat.le_refl, if_true, List.getElem?_cons_zero, List.getElem?_cons_succ, List.getD_cons_zero, List.getD_cons_succ, extrF_tup, binF_add, binF_sub, binF_mul, binF_eql, binF_neq, binF_lss, binF_leq, binF_gtr, binF_geq, true_and]
    refine c19 hv hl hl2 ?_
    try simp only [letO_some, cellsOf?_agg, cellsOf?_int, cellsOf?_bool, cellsOf?_imm, cellsOf?_ref, cellsOf?_nils, faddr_iptr, faddr_ptr, List.drop_succ_cons, List.drop_zero, List.take_succ_cons, List.take_zero, load1_iptr, loadN_iptr, List.length_cons, List.length_nil, Nat.le_refl, if_true, List.getElem?_cons_zero, List.getElem?_cons_succ, List.getD_cons_zero, List.getD_cons_succ, extrF_tup, binF_add, binF_sub, binF_mul, binF_eql, binF_neq, binF_lss, binF_leq, binF_gtr, binF_geq, true_and]
    refine c20w hv hl hl2 ?_
    try simp only [letO_some, cellsOf?_agg, cellsOf?_int, cellsOf?_bool, cellsOf?_imm, cellsOf?_ref, cellsOf?_nils, faddr_iptr, faddr_ptr, List.drop_succ_cons, List.drop_zero, List.take_succ_cons, List.take_zero, load1_iptr, loadN_iptr, List.length_cons, List.length_nil, Nat.le_refl, if_true, List.getElem?_cons_zero, List.getElem?_cons_succ, List.getD_cons_zero, List.getD_cons_succ, extrF_tup, binF_add, binF_sub, binF_mul, binF_eql, binF_neq, binF_lss, binF_leq, binF_gtr, binF_geq, true_and]
    refine c21w hv hl hl2 fun a ha => ?_
    try simp only [letO_some, cellsOf?_agg, cellsOf?_int, cellsOf?_bool, cellsOf?_imm, cellsOf?_ref, cellsOf?_nils, faddr_iptr, faddr_ptr, List.drop_succ_cons, List.drop_zero, List.take_succ_cons, List.take_zero, load1_iptr, loadN_iptr, List.length_cons, List.length_nil, Nat.le_refl, if_true, List.getElem?_cons_zero, List.getElem?_cons_succ, List.getD_cons_zero, List.getD_cons_succ, extrF_tup, binF_add, binF_sub, binF_mul, binF_eql, binF_neq, binF_lss, binF_leq, binF_gtr, binF_geq, true_and]
    refine c22 hv hl hl2 ?_
    try simp only [letO_some, cellsOf?_agg, cellsOf?_int, cellsOf?_bool, cellsOf?_imm, cellsOf?_ref, cellsOf?_nils, faddr_iptr, faddr_ptr, List.drop_succ_cons, List.drop_zero, List.take_succ_cons, List.take_zero, load1_iptr, loadN_iptr, List.length_cons, List.length_nil, Nat.le_refl, if_true, List.getElem?_cons_zero, List.getElem?_cons_succ, List.getD_cons_zero, List.getD_cons_succ, extrF_tup, binF_add, binF_sub, binF_mul, binF_eql, binF_neq, binF_lss, binF_leq, binF_gtr, binF_geq, true_and]
    refine c23 hv hl hl2 ?_
    rw [count_eq]
    simp only [letO_some, cellsOf?_agg, cellsOf?_int, cellsOf?_bool, cellsOf?_imm, cellsOf?_ref, cellsOf?_nils, faddr_iptr, faddr_ptr, List.drop_succ_cons, List.drop_zero, List.take_succ_cons, List.take_zero, load1_iptr, loadN_iptr, List.length_cons, List.length_nil, Nat.le_refl, if_true, List.getElem?_cons_zero, List.getElem?_cons_succ, List.getD_cons_zero, List.getD_cons_succ, extrF_tup, binF_add, binF_sub, binF_mul, binF_eql, binF_neq, binF_lss, binF_leq, binF_gtr, binF_geq, true_and, gval_bool, Int.reduceBNe, Int.reduceBEq, pickF_true, pickF_false, reduceIte, Bool.true_eq_false, Bool.false_eq_true, if_false, condA_tt, condA_ff, condG_tt, condG_ff, condG_tt', condG_ff', condG_undef, gval_undef, bne_self_eq_false]
    refine exJ ?_
    refine c24 (Reads.sl _ _) ha (first_len (t := t)) ?_
    simp only [decide_true, not_v, Bool.not_true, letO_some, cellsOf?_agg, cellsOf?_int, cellsOf?_bool, cellsOf?_imm, cellsOf?_ref, cellsOf?_nils, faddr_iptr, faddr_ptr, List.drop_succ_cons, List.drop_zero, List.take_succ_cons, List.take_zero, load1_iptr, loadN_iptr, List.length_cons, List.length_nil, Nat.le_refl, if_true, List.getElem?_cons_zero, List.getElem?_cons_succ, List.getD_cons_zero, List.getD_cons_succ, extrF_tup, binF_add, binF_sub, binF_mul, binF_eql, binF_neq, binF_lss, binF_leq, binF_gtr, binF_geq, true_and, gval_bool, Int.reduceBNe, Int.reduceBEq, pickF_true, pickF_false, reduceIte, Bool.true_eq_false, Bool.false_eq_true, if_false, condA_tt, condA_ff, condG_tt, condG_ff, condG_tt', condG_ff', condG_undef, gval_undef, bne_self_eq_false]
    refine c25 hv hl hl2 ?_
    try simp only [letO_some, cellsOf?_agg, cellsOf?_int, cellsOf?_bool, cellsOf?_imm, cellsOf?_ref, cellsOf?_nils, faddr_iptr, faddr_ptr, List.drop_succ_cons, List.drop_zero, List.take_succ_cons, List.take_zero, load1_iptr, loadN_iptr, List.length_cons, List.length_nil, Nat.le_refl, if_true, List.getElem?_cons_zero, List.getElem?_cons_succ, List.getD_cons_zero, List.getD_cons_succ, extrF_tup, binF_add, binF_sub, binF_mul, binF_eql, binF_neq, binF_lss, binF_leq, binF_gtr, binF_geq, true_and]
    refine c26 hv hl hl2 ?_
    rw [weight_eq]
    try simp only [letO_some, cellsOf?_agg, cellsOf?_int, cellsOf?_bool, cellsOf?_imm, cellsOf?_ref, cellsOf?_nils, faddr_iptr, faddr_ptr, List.drop_succ_cons, List.drop_zero, List.take_succ_cons, List.take_zero, load1_iptr, loadN_iptr, List.length_cons, List.length_nil, Nat.le_refl, if_true, List.getElem?_cons_zero, List.getElem?_cons_succ, List.getD_cons_zero, List.getD_cons_succ, extrF_tup, binF_add, binF_sub, binF_mul, binF_eql, binF_neq, binF_lss, binF_leq, binF_gtr, binF_geq, true_and]
    refine c27 hv hl hl2 ?_
    try simp only [letO_some, cellsOf?_agg, cellsOf?_int, cellsOf?_bool, cellsOf?_imm, cellsOf?_ref, cellsOf?_nils, faddr_iptr, faddr_ptr, List.drop_succ_cons, List.drop_zero, List.take_succ_cons, List.take_zero, load1_iptr, loadN_iptr, List.length_cons, List.length_nil, Nat.le_refl, if_true, List.getElem?_cons_zero, List.getElem?_cons_succ, List.getD_cons_zero, List.getD_cons_succ, extrF_tup, binF_add, binF_sub, binF_mul, binF_eql, binF_neq, binF_lss, binF_leq, binF_gtr, binF_geq, true_and]
    refine c28 hv hl hl2 ?_
    simp only [letO_some, cellsOf?_agg, cellsOf?_int, cellsOf?_bool, cellsOf?_imm, cellsOf?_ref, cellsOf?_nils, faddr_iptr, faddr_ptr, List.drop_succ_cons, List.drop_zero, List.take_succ_cons, List.take_zero, load1_iptr, loadN_iptr, List.length_cons, List.length_nil, Nat.le_refl, if_true, List.getElem?_cons_zero, List.getElem?_cons_succ, List.getD_cons_zero, List.getD_cons_succ, extrF_tup, binF_add, binF_sub, binF_mul, binF_eql, binF_neq, binF_lss, binF_leq, binF_gtr, binF_geq, true_and, gval_bool, Int.reduceBNe, Int.reduceBEq, pickF_true, pickF_false, reduceIte, Bool.true_eq_false, Bool.false_eq_true, if_false, condA_tt, condA_ff, condG_tt, condG_ff, condG_tt', condG_ff', condG_undef, gval_undef, beq_self_eq_true]
    refine exJ ?_
    refine c29 (RT.tl _ _) (RT.tl _ _) (turn_len t).1 (turn_len t).2 ?_
    simp only [decide_true, letO_some, cellsOf?_agg, cellsOf?_int, cellsOf?_bool, cellsOf?_imm, cellsOf?_ref, cellsOf?_nils, faddr_iptr, faddr_ptr, List.drop_succ_cons, List.drop_zero, List.take_succ_cons, List.take_zero, load1_iptr, loadN_iptr, List.length_cons, List.length_nil, Nat.le_refl, if_true, List.getElem?_cons_zero, List.getElem?_cons_succ, List.getD_cons_zero, List.getD_cons_succ, extrF_tup, binF_add, binF_sub, binF_mul, binF_eql, binF_neq, binF_lss, binF_leq, binF_gtr, binF_geq, true_and, gval_bool, Int.reduceBNe, Int.reduceBEq, pickF_true, pickF_false, reduceIte, Bool.true_eq_false, Bool.false_eq_true, if_false, condA_tt, condA_ff, condG_tt, condG_ff, condG_tt', condG_ff', condG_undef, gval_undef, beq_self_eq_true]
    refine exJ ?_
    refine c30 hv hl hl2 ?_
    try simp only [letO_some, cellsOf?_agg, cellsOf?_int, cellsOf?_bool, cellsOf?_imm, cellsOf?_ref, cellsOf?_nils, faddr_iptr, faddr_ptr, List.drop_succ_cons, List.drop_zero, List.take_succ_cons, List.take_zero, load1_iptr, loadN_iptr, List.length_cons, List.length_nil, Nat.le_refl, if_true, List.getElem?_cons_zero, List.getElem?_cons_succ, List.getD_cons_zero, List.getD_cons_succ, extrF_tup, binF_add, binF_sub, binF_mul, binF_eql, binF_neq, binF_lss, binF_leq, binF_gtr, binF_geq, true_and, gval_bool, Int.reduceBNe, Int.reduceBEq, pickF_true, pickF_false, reduceIte, Bool.true_eq_false, Bool.false_eq_true, if_false, condA_tt, condA_ff, condG_tt, condG_ff, condG_tt', condG_ff', condG_undef, gval_undef]
    refine exJ ?_
    refine c31 hv hl hl2 ?_
    simp only [letO_some, cellsOf?_agg, cellsOf?_int, cellsOf?_bool, cellsOf?_imm, cellsOf?_ref, cellsOf?_nils, faddr_iptr, faddr_ptr, List.drop_succ_cons, List.drop_zero, List.take_succ_cons, List.take_zero, load1_iptr, loadN_iptr, List.length_cons, List.length_nil, Nat.le_refl, if_true, List.getElem?_cons_zero, List.getElem?_cons_succ, List.getD_cons_zero, List.getD_cons_succ, extrF_tup, binF_add, binF_sub, binF_mul, binF_eql, binF_neq, binF_lss, binF_leq, binF_gtr, binF_geq, true_and, gval_bool, Int.reduceBNe, Int.reduceBEq, pickF_true, pickF_false, reduceIte, Bool.true_eq_false, Bool.false_eq_true, if_false, condA_tt, condA_ff, condG_tt, condG_ff, condG_tt', condG_ff', condG_undef, gval_undef, beq_self_eq_true]
    refine exJ ?_
    refine c32 hv hu hl hl2 hl3 ?_
    try simp only [letO_some, cellsOf?_agg, cellsOf?_int, cellsOf?_bool, cellsOf?_imm, cellsOf?_ref, cellsOf?_nils, faddr_iptr, faddr_ptr, List.drop_succ_cons, List.drop_zero, List.take_succ_cons, List.take_zero, load1_iptr, loadN_iptr, List.length_cons, List.length_nil, Nat.le_refl, if_true, List.getElem?_cons_zero, List.getElem?_cons_succ, List.getD_cons_zero, List.getD_cons_succ, extrF_tup, binF_add, binF_sub, binF_mul, binF_eql, binF_neq, binF_lss, binF_leq, binF_gtr, binF_geq, true_and, gval_bool, Int.reduceBNe, Int.reduceBEq, pickF_true, pickF_false, reduceIte, Bool.true_eq_false, Bool.false_eq_true, if_false, condA_tt, condA_ff, condG_tt, condG_ff, condG_tt', condG_ff', condG_undef, gval_undef]
    refine exJ ?_
    refine c33 hv hu hl hl2 hl3 ?_
    simp only [letO_some, cellsOf?_agg, cellsOf?_int, cellsOf?_bool, cellsOf?_imm, cellsOf?_ref, cellsOf?_nils, faddr_iptr, faddr_ptr, List.drop_succ_cons, List.drop_zero, List.take_succ_cons, List.take_zero, load1_iptr, loadN_iptr, List.length_cons, List.length_nil, Nat.le_refl, if_true, List.getElem?_cons_zero, List.getElem?_cons_succ, List.getD_cons_zero, List.getD_cons_succ, extrF_tup, binF_add, binF_sub, binF_mul, binF_eql, binF_neq, binF_lss, binF_leq, binF_gtr, binF_geq, true_and, gval_bool, Int.reduceBNe, Int.reduceBEq, pickF_true, pickF_false, reduceIte, Bool.true_eq_false, Bool.false_eq_true, if_false, condA_tt, condA_ff, condG_tt, condG_ff, condG_tt', condG_ff', condG_undef, gval_undef, beq_self_eq_true]
    refine exJ ?_
    refine c17 ?_
    try simp only [letO_some, cellsOf?_agg, cellsOf?_int, cellsOf?_bool, cellsOf?_imm, cellsOf?_ref, cellsOf?_nils, faddr_iptr, faddr_ptr, List.drop_succ_cons, List.drop_zero, List.take_succ_cons, List.take_zero, load1_iptr, loadN_iptr, List.length_cons, List.length_nil, Nat.le_refl, if_true, List.getElem?_cons_zero, List.getElem?_cons_succ, List.getD_cons_zero, List.getD_cons_succ, extrF_tup, binF_add, binF_sub, binF_mul, binF_eql, binF_neq, binF_lss, binF_leq, binF_gtr, binF_geq, true_and, gval_bool, Int.reduceBNe, Int.reduceBEq, pickF_true, pickF_false, reduceIte, Bool.true_eq_false, Bool.false_eq_true, if_false, condA_tt, condA_ff, condG_tt, condG_ff, condG_tt', condG_ff', condG_undef, gval_undef]
    exact endK_ret hk
end Go.Proofs.YtbofkeoebnjjkaaDoor
namespace Go.Proofs.YtbofkeoebnjjkaaDoor.tablePlans
open Go.Av Tab
theorem law {t : List (List Int)} {p : List Int} (h0 : t.length ≤ maxLen) (h1 : ∀ m ∈ t, okL m) (h2 : okL p) : ACalls Tryd.prog 3 [tl t, sl p] Heap.none fun r _ => r = .bool true :=
  c3 (RT.tl _ _) (Reads.sl _ _) (Nat.lt_of_le_of_lt h0 (by decide)) (fun l hl => Nat.lt_of_le_of_lt (h1 l hl).1 (by decide)) (Nat.lt_of_le_of_lt h2.1 (by decide)) rfl
end Go.Proofs.YtbofkeoebnjjkaaDoor.tablePlans

namespace Go.Proofs.YtbofkeoebnjjkaaDoor
open Go.Av Tab
set_option linter.unusedVariables false
set_option linter.unusedSimpArgs false
set_option maxRecDepth 4000

theorem c56 {t : Tbl} {v : AV} {r c b3 b4 : Nat} {H : Heap} {K : AV → Heap → Prop} (h3 : H b3 = some [v]) (hv : RT H v t) (h4 : H b4 = some [.int .i64 (c : Int)]) (hr : r < t.length) (hc : c < (t.getD r []).length) (hk : K (.bool (decide (0 < cell t r c))) H) :
    ACalls Tryd.prog 56 [.int .i64 (r : Int), .ptr b3 0, .ptr b4 0] H K := by
  apply W56_ok
  unfold W56
  have l3 : load1 (.ptr b3 0) H = some v := load_cell h3
  have l4 : load1 (.ptr b4 0) H = some (.int .i64 (c : Int)) := load_cell h4
  simp only [letO_some, cellsOf?_agg, cellsOf?_int, cellsOf?_bool, cellsOf?_imm, cellsOf?_ref, cellsOf?_nils, faddr_iptr, faddr_ptr, List.drop_succ_cons, List.drop_zero, List.take_succ_cons, List.take_zero, load1_iptr, loadN_iptr, List.length_cons, List.length_nil, Nat.le_refl, if_true, List.getElem?_cons_zero, List.getElem?_cons_succ, List.getD_cons_zero, List.getD_cons_succ, extrF_tup, binF_add, binF_sub, binF_mul, binF_eql, binF_neq, binF_lss, binF_leq, binF_gtr, binF_geq, true_and, l3, l4]
  refine hv.get (Heap.le_refl _) (by omega) (by omega) fun a ha => ?_
  rw [Int.toNat_natCast] at ha
  try simp only [letO_some]
  refine ha.get (Heap.le_refl _) (by omega) (by omega) ?_
  rw [Int.toNat_natCast, show (t.getD r []).getD c 0 = cell t r c from rfl]
  simp only [letO_some, cellsOf?_agg, cellsOf?_int, cellsOf?_bool, cellsOf?_imm, cellsOf?_ref, cellsOf?_nils, faddr_iptr, faddr_ptr, List.drop_succ_cons, List.drop_zero, List.take_succ_cons, List.take_zero, load1_iptr, loadN_iptr, List.length_cons, List.length_nil, Nat.le_refl, if_true, List.getElem?_cons_zero, List.getElem?_cons_succ, List.getD_cons_zero, List.getD_cons_succ, extrF_tup, binF_add, binF_sub, binF_mul, binF_eql, binF_neq, binF_lss, binF_leq, binF_gtr, binF_geq, true_and]
  exact endK_ret hk
theorem shr_i64 {x k : Nat} (hx : x < 16) (hk : k < 4) : binF Tryd.prog .shr 3 (.int .i64 (x : Int)) (.int .i64 (k : Int)) = some (.int .i64 ((x / 2 ^ k : Nat) : Int)) := by
  have e : min (k : Int).toNat 64 = k := by omega
  show (if (k : Int) < 0 then none else some (AV.int .i64 ((x : Int).fdiv (2 ^ min (k : Int).toNat 64)))) = _
  rw [if_neg (by omega), e, Int.ofNat_fdiv]
  rfl
theorem and_i64 {y : Nat} (hy : y < 16) : binF Tryd.prog .and 3 (.int .i64 (y : Int)) (.int .i64 1) = some (.int .i64 ((y % 2 : Nat) : Int)) := by
  have key : ∀ y : Fin 16, IntKind.i64.wrap ((BitVec.ofInt 64 (y.val : Int) &&& BitVec.ofInt 64 1).toNat) = ((y.val % 2 : Nat) : Int) := by decide +kernel
  have := key ⟨y, hy⟩
  show (if IntKind.i64 = IntKind.i64 then some (AV.int .i64 (IntKind.i64.wrap ((BitVec.ofInt 64 (y : Int) &&& BitVec.ofInt 64 1).toNat))) else none) = _
  rw [if_pos rfl]
  congr 2
theorem shl_i64 {n : Nat} (hn : n ≤ 4) : binF Tryd.prog .shl 3 (.int .i64 1) (.int .i64 (n : Int)) = some (.int .i64 ((2 ^ n : Nat) : Int)) := by
  have h : n = 0 ∨ n = 1 ∨ n = 2 ∨ n = 3 ∨ n = 4 := by omega
  rcases h with rfl | rfl | rfl | rfl | rfl <;> rfl
theorem lst_bitL : ∀ n : Fin 5, ∀ s : Fin 16, s.val < 2 ^ n.val → bitL s.val n.val = lst s.val := by decide +kernel
theorem rdE_filter {n : Nat} (f : Nat → Bool) : ∀ m, m ≤ n → rdE n (-1) (up ((List.range m).filter f)) = 0
  | 0, _ => by simp [up, rdE]
  | m + 1, h => by
    have ih := rdE_filter (n := n) f m (by omega)
    rw [List.range_succ, List.filter_append]
    by_cases hb : f m = true
    · have e1 : List.filter f [m] = [m] := by simp [hb]
      have : up ((List.range m).filter f ++ [m]) = up ((List.range m).filter f) ++ [(m : Int)] := by simp [up]
      rw [e1, this, rdE_snoc ih, if_neg (by omega), if_neg]
      rintro ⟨y, q1, q2⟩
      rcases List.mem_cons.1 q1 with rfl | q1
      · omega
      · obtain ⟨z, hz, rfl⟩ := List.mem_map.1 q1
        have h9 : z < m := by simpa using (List.mem_filter.1 hz).1
        have q3 : (m : Int) ≤ (z : Int) := q2
        omega
    · have e1 : List.filter f [m] = [] := by simp [hb]
      rw [e1, List.append_nil]; exact ih
theorem neq_bool {a b : Bool} : binF Tryd.prog .neq 4 (.bool a) (.bool b) = some (.bool (a != b)) := by
  have h1 : Tryd.prog.underlying 4 = some .bool := by kernel_rfl
  cases a <;> cases b <;> simp [binF, eqF, h1]
/-- What rows and columns are there so far. -/
def BS (H : Heap) (t : Tb) (b : Option Nat) (R C : AV) : Prop := (b = none ∧ R = .nils ∧ C = .nils) ∨ ∃ s, b = some s ∧ lst s ≠ [] ∧ s < 16 ∧ Reads H R (up (lst s)) ∧ Reads H C (up (zerosZ t (up (lst s))))
theorem within_first {t : Tb} (hc : chkT t = 0) {p : List Nat} {r : List (List Nat)} (h : withinS t = p :: r) : firstW t = up p ∧ firstX t = 0 := by
  have hw := wkAll_eq hc
  rw [h, List.map_cons] at hw
  constructor
  · unfold firstW; rw [if_neg (by simp [hc]), hw]
  · unfold firstX; rw [if_neg (by simp [hc]), hw]; simp
theorem within_none {t : Tb} (hc : chkT t = 0) (h : withinS t = []) : firstW t = [] ∧ firstX t = 12 := by
  have hw := wkAll_eq hc
  rw [h, List.map_nil] at hw
  constructor
  · unfold firstW; rw [if_neg (by simp [hc]), hw]
  · unfold firstX; rw [if_neg (by simp [hc]), hw]; simp
theorem block_ok {t : Tb} (hc : chkT t = 0) {s : Nat} (hs : s < 2 ^ t.length) (hq : setQ t s = true) : provesE t (up (lst s)) (up (zerosZ t (up (lst s)))) = 0 := by
  obtain ⟨n1, n2, hrows⟩ := chkT_ok hc
  have h16 : 2 ^ t.length ≤ 16 := by
    have : 2 ^ t.length ≤ 2 ^ 4 := Nat.pow_le_pow_right (by omega) n2
    have e : 2 ^ 4 = 16 := by decide
    omega
  have h1 : rdE t.length (-1) (up (lst s)) = 0 := by
    have := lst_bitL ⟨t.length, by omega⟩ ⟨s, by omega⟩ hs
    simp only at this
    rw [← this]
    exact rdE_bitL t.length (Nat.le_refl _)
  have h2 : rdE t.length (-1) (up (zerosZ t (up (lst s)))) = 0 := rdE_filter _ t.length (Nat.le_refl _)
  have h3 : t.length < (zerosZ t (up (lst s))).length + (lst s).length := of_decide_eq_true hq
  rw [proves_eq hc, if_neg (by simp [h1]), if_neg (by simp [h2]), if_neg]
  rintro (h | h)
  · rw [hitB_iff] at h
    obtain ⟨r, hr, c, hcm, hp⟩ := h
    obtain ⟨c', hc', rfl⟩ := List.mem_map.1 hcm
    have hcl : c' < t.length := by simpa using (List.mem_filter.1 hc').1
    have := (zerosZ_mem hcl).1 hc' r hr
    rw [Int.toNat_natCast] at hp
    omega
  · rw [up_length, up_length] at h
    omega
end Go.Proofs.YtbofkeoebnjjkaaDoor

namespace Go.Proofs.YtbofkeoebnjjkaaDoor
open Go.Av Tab
set_option linter.unusedVariables false
set_option linter.unusedSimpArgs false
set_option maxRecDepth 4000

/-- The plan that a ledger names. -/
def pick (g : List Nat) (j : Nat) : List Nat := (plansS (gsz g)).getD (gv g (19 + j) % (plansS (gsz g)).length) []
def evenK (g : List Nat) : Nat → Tb
  | 0 => zeroT (gsz g)
  | i + 1 => takeT (evenK g i) (up (pick g i)) (-1)
def evenN (g : List Nat) (most : Nat) : Nat := gv g 1 % (most + 1)
def evenT (g : List Nat) (most : Nat) : Tb := evenK g (evenN g most)
theorem plansS_pos {n : Nat} (hn : 1 ≤ n ∧ n ≤ 4) : 0 < (plansS n).length := by
  have h : n = 1 ∨ n = 2 ∨ n = 3 ∨ n = 4 := by omega
  rcases h with rfl | rfl | rfl | rfl <;> decide
theorem getD_mem {α : Type} {l : List α} {i : Nat} {d : α} (h : i < l.length) : l.getD i d ∈ l := by
  rw [List.getD_eq_getElem?_getD, List.getElem?_eq_getElem h]; exact List.getElem_mem h
theorem pick_mem (g : List Nat) (j : Nat) : pick g j ∈ plansS (gsz g) := getD_mem (Nat.mod_lt _ (plansS_pos (gsz_bd g)))
theorem pick_plan (g : List Nat) (j : Nat) : (pick g j).length = gsz g ∧ ∀ c ∈ pick g j, c < gsz g := plansS_mem (pick_mem g j)
theorem evenK_len (g : List Nat) : ∀ i, (evenK g i).length = gsz g
  | 0 => by simp [evenK, zeroT]
  | i + 1 => by rw [evenK, takeT_length, evenK_len g i]
theorem evenK_row (g : List Nat) : ∀ i r, r < gsz g → (row (evenK g i) r).length = gsz g
  | 0, r, hr => by simp [evenK, row, zeroT, List.getD_eq_getElem?_getD, hr]
  | i + 1, r, hr => by rw [evenK, takeT_rowlen (by rw [evenK_len]; exact hr), evenK_row g i r hr]
theorem evenK_fit (g : List Nat) (i j : Nat) : fitP (evenK g i) (up (pick g j)) := by
  obtain ⟨h1, h2⟩ := pick_plan g j
  refine ⟨by rw [up_length, h1, evenK_len]; exact Nat.le_refl _, fun r hr => ?_⟩
  rw [up_length, h1] at hr
  rw [up_getD, Int.toNat_natCast, evenK_row g i r hr]
  exact ⟨by omega, h2 _ (getD_mem (by omega))⟩
theorem zero_cell {t : Tb} {r c : Nat} (h : t.length ≤ r) : cell t r c = 0 := by
  unfold cell row
  rw [List.getD_eq_getElem?_getD (l := t), List.getElem?_eq_none (by omega)]; rfl
theorem evenK_cell (g : List Nat) : ∀ i r c, 0 ≤ cell (evenK g i) r c ∧ cell (evenK g i) r c ≤ i
  | 0, r, c => by
    have : cell (evenK g 0) r c = 0 := by
      unfold cell row evenK zeroT
      rw [List.getD_eq_getElem?_getD (l := List.replicate _ _), List.getElem?_replicate]
      split
      · rw [List.getD_eq_getElem?_getD, Option.getD_some, List.getElem?_replicate]
        split <;> rfl
      · rfl
    rw [this]; omega
  | i + 1, r, c => by
    have ih := evenK_cell g i r c
    by_cases hr : r < (evenK g i).length
    · rw [evenK, takeT_cell (evenK_fit g i i) hr]
      split <;> omega
    · have : cell (evenK g (i + 1)) r c = 0 := zero_cell (by rw [evenK_len]; rw [evenK_len] at hr; omega)
      rw [this]; omega
theorem evenK_chk (g : List Nat) {i : Nat} (hi : i ≤ 9) : chkT (evenK g i) = 0 := by
  have := gsz_bd g
  refine chkT_mk (by rw [evenK_len]; omega) (by rw [evenK_len]; omega) (fun r hr => ?_) (fun r c hr => ?_)
  · rw [evenK_len] at hr ⊢; exact evenK_row g i r hr
  · have := evenK_cell g i r c; omega
theorem perm_count : ∀ n : Fin 5, ∀ p ∈ plansS n.val, ∀ c : Fin 5, c.val < n.val → ((List.range n.val).filter fun r => decide (p.getD r 0 = c.val)).length = 1 := by decide +kernel
theorem colS_take {t : Tb} {p : List Nat} {x : Int} (hf : fitP t (up p)) (hp : p.length = t.length) (c : Nat) : ∀ m, m ≤ t.length → colS (takeT t (up p) x) c m = colS t c m - x * ((List.range m).filter fun r => decide (p.getD r 0 = c)).length
  | 0, _ => by simp [colS]
  | m + 1, h => by
    rw [colS_succ, colS_succ, colS_take hf hp c m (by omega), takeT_cell hf (by omega), up_length, hp, up_getN, List.range_succ, List.filter_append, List.length_append]
    by_cases h1 : p.getD m 0 = c
    · rw [if_pos ⟨by omega, h1.symm⟩]
      simp only [List.filter_cons, h1, decide_true, if_true, List.filter_nil, List.length_cons, List.length_nil]
      rw [show ((0 + 1 : Nat)) = 1 from rfl, Int.natCast_add, Int.mul_add]
      simp
      omega
    · rw [if_neg (fun h => h1 h.2.symm)]
      simp only [List.filter_cons, h1, decide_false, List.filter_nil, List.length_nil, Nat.add_zero, Bool.false_eq_true, if_false]
      omega
theorem rowS_takeR {t : Tb} {p : List Nat} {x : Int} (hf : fitP t (up p)) (hp : p.length = t.length) {r : Nat} (hr : r < t.length) : ∀ m, m ≤ t.length → rowS (takeT t (up p) x) r m = rowS t r m - if p.getD r 0 < m then x else 0
  | 0, _ => by simp [rowS]
  | m + 1, h => by
    rw [rowS_succ, rowS_succ, rowS_takeR hf hp hr m (by omega), takeT_cell hf hr, up_length, hp, up_getN]
    generalize p.getD r 0 = a
    by_cases h1 : m = a
    · rw [if_pos (c := r < t.length ∧ m = a) ⟨hr, h1⟩, if_neg (c := a < m) (by omega), if_pos (c := a < m + 1) (by omega)]; omega
    · rw [if_neg (c := r < t.length ∧ m = a) (fun h => h1 h.2)]
      by_cases h2 : a < m
      · rw [if_pos (c := a < m) h2, if_pos (c := a < m + 1) (by omega)]; omega
      · rw [if_neg (c := a < m) h2, if_neg (c := a < m + 1) (by omega)]; omega
theorem evenK_sums (g : List Nat) : ∀ i k, k < gsz g → rowS (evenK g i) k (gsz g) = i ∧ colS (evenK g i) k (gsz g) = i
  | 0, k, hk => by
    have h0 : ∀ r c, cell (evenK g 0) r c = 0 := fun r c => by have := evenK_cell g 0 r c; omega
    have h1 : ∀ m, rowS (evenK g 0) k m = 0 := by
      intro m
      induction m with
      | zero => rfl
      | succ m ih => rw [rowS_succ, ih, h0]; rfl
    have h2 : ∀ m, colS (evenK g 0) k m = 0 := by
      intro m
      induction m with
      | zero => rfl
      | succ m ih => rw [colS_succ, ih, h0]; rfl
    exact ⟨h1 _, h2 _⟩
  | i + 1, k, hk => by
    obtain ⟨h1, h2⟩ := evenK_sums g i k hk
    obtain ⟨p1, p2⟩ := pick_plan g i
    have hl := evenK_len g i
    have hb := gsz_bd g
    have hpk : (pick g i).getD k 0 < gsz g := p2 _ (getD_mem (by omega))
    have r1 := rowS_takeR (x := -1) (evenK_fit g i i) (by rw [p1, hl]) (r := k) (by omega) (gsz g) (by omega)
    have r2 := colS_take (x := -1) (evenK_fit g i i) (by rw [p1, hl]) k (gsz g) (by omega)
    have hcnt := perm_count ⟨gsz g, by omega⟩ (pick g i) (pick_mem g i) ⟨k, by omega⟩ hk
    simp only at hcnt
    rw [hcnt] at r2
    rw [if_pos hpk] at r1
    rw [evenK, r1, r2, h1, h2]
    constructor <;> omega
theorem evenK_even (g : List Nat) {i : Nat} (hi : i ≤ 9) : evenE (evenK g i) = ((i : Int), 0) := by
  have hb := gsz_bd g
  rw [evenE_iff (evenK_chk g hi), evenK_len]
  have h0 := evenK_sums g i 0 (by omega)
  rw [if_pos (fun k hk => by have := evenK_sums g i k hk; omega), h0.1]
/-- Ledger.even -/
theorem c44 {g : List Nat} {most : Nat} {H : Heap} {K : AV → Heap → Prop} (hg : Led g) (hm : 1 ≤ most ∧ most ≤ 8) (hk : K (.tup [tl (evenT g most), .int .i64 (evenN g most : Nat)]) H) : ACalls Tryd.prog 44 [.agg (u8s g), .int .i64 (most : Int)] H K := by
  apply W44_ok
  unfold W44
  have hb := gsz_bd g
  simp only [letO_some, cellsOf?_agg, cellsOf?_int, cellsOf?_bool, cellsOf?_imm, cellsOf?_ref, cellsOf?_nils, faddr_iptr, faddr_ptr, List.drop_succ_cons, List.drop_zero, List.take_succ_cons, List.take_zero, load1_iptr, loadN_iptr, List.length_cons, List.length_nil, Nat.le_refl, if_true, List.getElem?_cons_zero, List.getElem?_cons_succ, List.getD_cons_zero, List.getD_cons_succ, extrF_tup, binF_add, binF_sub, binF_mul, binF_eql, binF_neq, binF_lss, binF_leq, binF_gtr, binF_geq, true_and, hg.all]
  refine c58 hg ?_
  try simp only [letO_some, cellsOf?_agg, cellsOf?_int, cellsOf?_bool, cellsOf?_imm, cellsOf?_ref, cellsOf?_nils, faddr_iptr, faddr_ptr, List.drop_succ_cons, List.drop_zero, List.take_succ_cons, List.take_zero, load1_iptr, loadN_iptr, List.length_cons, List.length_nil, Nat.le_refl, if_true, List.getElem?_cons_zero, List.getElem?_cons_succ, List.getD_cons_zero, List.getD_cons_succ, extrF_tup, binF_add, binF_sub, binF_mul, binF_eql, binF_neq, binF_lss, binF_leq, binF_gtr, binF_geq, true_and]
  refine c45 hb ?_
  try simp only [letO_some, cellsOf?_agg, cellsOf?_int, cellsOf?_bool, cellsOf?_imm, cellsOf?_ref, cellsOf?_nils, faddr_iptr, faddr_ptr, List.drop_succ_cons, List.drop_zero, List.take_succ_cons, List.take_zero, load1_iptr, loadN_iptr, List.length_cons, List.length_nil, Nat.le_refl, if_true, List.getElem?_cons_zero, List.getElem?_cons_succ, List.getD_cons_zero, List.getD_cons_succ, extrF_tup, binF_add, binF_sub, binF_mul, binF_eql, binF_neq, binF_lss, binF_leq, binF_gtr, binF_geq, true_and]
  refine c49 ⟨hb.1, by omega⟩ fun bo cells H1 hP => ?_
  have h1 := hg.lt 1
  have hrm := rem_nat (k := .i64) (t := 3) (a := gv g 1) (b := most + 1) (by omega)
  have hen : gv g 1 % (most + 1) = evenN g most := rfl
  have hkl : evenN g most ≤ most := by have := Nat.mod_lt (gv g 1) (show most + 1 > 0 by omega); unfold evenN; omega
  simp only [letO_some, cellsOf?_agg, cellsOf?_int, cellsOf?_bool, cellsOf?_imm, cellsOf?_ref, cellsOf?_nils, faddr_iptr, faddr_ptr, List.drop_succ_cons, List.drop_zero, List.take_succ_cons, List.take_zero, load1_iptr, loadN_iptr, List.length_cons, List.length_nil, Nat.le_refl, if_true, List.getElem?_cons_zero, List.getElem?_cons_succ, List.getD_cons_zero, List.getD_cons_succ, extrF_tup, binF_add, binF_sub, binF_mul, binF_eql, binF_neq, binF_lss, binF_leq, binF_gtr, binF_geq, true_and, hg.load (show 1 < 27 by omega), conv53 (show (0 : Int) ≤ gv g 1 ∧ (gv g 1 : Int) < 256 by omega)]
  rw [wrap_i64 (by omega) (by omega), show ((most : Int) + 1) = ((most + 1 : Nat) : Int) by omega, hrm, hen]
  unfold evenT at hk
  generalize hkk : evenN g most = k at *
  have hslc : slcArr 8 1 (.iptr ((u8s g).drop 19)) none (some (.int .i64 (k : Int))) none = some (.imm k (k == 8) (((u8s g).drop 19).take k)) := by
    have e : natOf (some (.int .i64 (k : Int))) 8 = some k := by simp [natOf]
    have e3 : natOf none 0 = some 0 := rfl
    simp only [slcArr, e, e3, Option.bind_some]
    rw [if_pos ⟨by omega, by omega⟩]
    simp
  have hli : ∀ f cs, lenA (.imm k f cs) = some (.int .i64 (k : Int)) := fun _ _ => rfl
  simp only [letO_some, cellsOf?_agg, cellsOf?_int, cellsOf?_bool, cellsOf?_imm, cellsOf?_ref, cellsOf?_nils, faddr_iptr, faddr_ptr, List.drop_succ_cons, List.drop_zero, List.take_succ_cons, List.take_zero, load1_iptr, loadN_iptr, List.length_cons, List.length_nil, Nat.le_refl, if_true, List.getElem?_cons_zero, List.getElem?_cons_succ, List.getD_cons_zero, List.getD_cons_succ, extrF_tup, binF_add, binF_sub, binF_mul, binF_eql, binF_neq, binF_lss, binF_leq, binF_gtr, binF_geq, true_and, hslc, hli]
  have hPlen : ((plansS (gsz g)).map up).length = (plansS (gsz g)).length := by simp
  have hPL : ∀ H : Heap, lenA (tl ((plansS (gsz g)).map up)) = some (.int .i64 (plansS (gsz g)).length) := fun H => by rw [(RT.tl H _).len, hPlen]
  have hpos := plansS_pos hb
  refine ⟨fun L H' => ∃ i : Nat, eqt L [.int .i64 i] ∧ i ≤ k ∧ PT H H' bo cells (evenK g i), fun L _ => (k - iv L 0).toNat, ⟨0, rfl, by omega, hP⟩, ?_⟩
  rintro L H2 ⟨i, rfl, hi, hP⟩
  try simp only [letO_some, cellsOf?_agg, cellsOf?_int, cellsOf?_bool, cellsOf?_imm, cellsOf?_ref, cellsOf?_nils, faddr_iptr, faddr_ptr, List.drop_succ_cons, List.drop_zero, List.take_succ_cons, List.take_zero, load1_iptr, loadN_iptr, List.length_cons, List.length_nil, Nat.le_refl, if_true, List.getElem?_cons_zero, List.getElem?_cons_succ, List.getD_cons_zero, List.getD_cons_succ, extrF_tup, binF_add, binF_sub, binF_mul, binF_eql, binF_neq, binF_lss, binF_leq, binF_gtr, binF_geq, true_and]
  refine condA_t (fun hlt => ?_) (fun hge => ?_)
  · have a1 : i < k := by omega
    have hx := hg.lt (19 + i)
    have hel : ((((u8s g).drop 19).take k).drop (i * 1))[0]? = some (.int .u8 (gv g (19 + i) : Int)) := by
      rw [List.getElem?_drop, Nat.mul_one, Nat.add_zero, List.getElem?_take_of_lt a1, List.getElem?_drop]
      exact hg.at (by omega)
    have hrm2 := rem_nat (k := .i64) (t := 3) (a := gv g (19 + i)) (b := (plansS (gsz g)).length) (by omega)
    simp only [idx_imm a1, letO_some, cellsOf?_agg, cellsOf?_int, cellsOf?_bool, cellsOf?_imm, cellsOf?_ref, cellsOf?_nils, faddr_iptr, faddr_ptr, List.drop_succ_cons, List.drop_zero, List.take_succ_cons, List.take_zero, load1_iptr, loadN_iptr, List.length_cons, List.length_nil, Nat.le_refl, if_true, List.getElem?_cons_zero, List.getElem?_cons_succ, List.getD_cons_zero, List.getD_cons_succ, extrF_tup, binF_add, binF_sub, binF_mul, binF_eql, binF_neq, binF_lss, binF_leq, binF_gtr, binF_geq, true_and, hel, conv53 (show (0 : Int) ≤ gv g (19 + i) ∧ (gv g (19 + i) : Int) < 256 by omega), hPL H2, hrm2]
    have hml := Nat.mod_lt (gv g (19 + i)) hpos
    refine ReadsC.get (Heap.le_refl H2) (n := (plansS (gsz g)).length) (cells := ((plansS (gsz g)).map up).map sl) ⟨by simp, by simp [tl]⟩ (x := sl (up (pick g i))) (by omega) (by omega) ?_ ?_
    · rw [Int.toNat_natCast]
      simp [pick, List.getD_eq_getElem?_getD, hml]
    obtain ⟨p1, p2⟩ := pick_plan g i
    have hll : lenA (sl (up (pick g i))) = some (.int .i64 (gsz g : Nat)) := by rw [(Reads.sl H2 _).len, up_length, p1]
    simp only [letO_some, cellsOf?_agg, cellsOf?_int, cellsOf?_bool, cellsOf?_imm, cellsOf?_ref, cellsOf?_nils, faddr_iptr, faddr_ptr, List.drop_succ_cons, List.drop_zero, List.take_succ_cons, List.take_zero, load1_iptr, loadN_iptr, List.length_cons, List.length_nil, Nat.le_refl, if_true, List.getElem?_cons_zero, List.getElem?_cons_succ, List.getD_cons_zero, List.getD_cons_succ, extrF_tup, binF_add, binF_sub, binF_mul, binF_eql, binF_neq, binF_lss, binF_leq, binF_gtr, binF_geq, true_and, hll]
    have hl := evenK_len g i
    refine ⟨fun L H' => ∃ j : Nat, eqt L [.int .i64 j] ∧ j ≤ gsz g ∧ PT H H' bo cells (takeK (evenK g i) (up (pick g i)) (-1) j), fun L _ => (gsz g - iv L 0).toNat, ⟨0, rfl, by omega, by rw [takeK_zero]; exact hP⟩, ?_⟩
    rintro L H3 ⟨j, rfl, hj, hPj⟩
    try simp only [letO_some, cellsOf?_agg, cellsOf?_int, cellsOf?_bool, cellsOf?_imm, cellsOf?_ref, cellsOf?_nils, faddr_iptr, faddr_ptr, List.drop_succ_cons, List.drop_zero, List.take_succ_cons, List.take_zero, load1_iptr, loadN_iptr, List.length_cons, List.length_nil, Nat.le_refl, if_true, List.getElem?_cons_zero, List.getElem?_cons_succ, List.getD_cons_zero, List.getD_cons_succ, extrF_tup, binF_add, binF_sub, binF_mul, binF_eql, binF_neq, binF_lss, binF_leq, binF_gtr, binF_geq, true_and]
    refine condA_t (fun hlt2 => ?_) (fun hge2 => ?_)
    · have b1 : j < gsz g := by omega
      have hjl : j < (evenK g i).length := by omega
      refine (Reads.sl H3 (up (pick g i))).get (Heap.le_refl _) (by omega) (by rw [up_length]; omega) ?_
      rw [Int.toNat_natCast, up_getD]
      have hfit := (evenK_fit g i i).2 j (by rw [up_length]; omega)
      rw [up_getN] at hfit
      have hrow : (takeK (evenK g i) (up (pick g i)) (-1) j).getD j [] = row (evenK g i) j := by rw [takeK_get hjl, if_neg (by omega)]
      obtain ⟨w, q, q1, q2, q3, q4, q5⟩ := PT.cell none hPj (r := j) (c := (pick g i).getD j 0) (by simpa using hjl) (by rw [hrow]; exact hfit.2)
      rw [takeK_length, hl] at q1
      rw [hrow] at q4 q5
      have hcb := evenK_cell g i j ((pick g i).getD j 0)
      rw [show (row (evenK g i) j).getD ((pick g i).getD j 0) 0 = cell (evenK g i) j ((pick g i).getD j 0) from rfl] at q4
      simp only [q1, q2, q3, q4, letO_some, cellsOf?_agg, cellsOf?_int, cellsOf?_bool, cellsOf?_imm, cellsOf?_ref, cellsOf?_nils, faddr_iptr, faddr_ptr, List.drop_succ_cons, List.drop_zero, List.take_succ_cons, List.take_zero, load1_iptr, loadN_iptr, List.length_cons, List.length_nil, Nat.le_refl, if_true, List.getElem?_cons_zero, List.getElem?_cons_succ, List.getD_cons_zero, List.getD_cons_succ, extrF_tup, binF_add, binF_sub, binF_mul, binF_eql, binF_neq, binF_lss, binF_leq, binF_gtr, binF_geq, true_and]
      rw [wrap_i64 (n := cell (evenK g i) j ((pick g i).getD j 0) + 1) (by omega) (by omega)]
      refine q5 _ _ fun H4 hP4 => ?_
      rw [wrap_i64 (by omega) (by omega)]
      refine ⟨⟨j + 1, rfl, by omega, ?_⟩, by simp <;> omega⟩
      have hst := takeK_step (t := evenK g i) (p := up (pick g i)) (x := -1) (i := j) hjl
      rw [up_getN] at hst
      have e : cell (evenK g i) j ((pick g i).getD j 0) + 1 = cell (evenK g i) j ((pick g i).getD j 0) - -1 := by omega
      rw [e, hst] at hP4
      exact hP4
    · have hje : j = gsz g := by omega
      subst hje
      rw [wrap_i64 (by omega) (by omega)]
      refine ⟨⟨i + 1, rfl, by omega, ?_⟩, by simp <;> omega⟩
      have e : takeK (evenK g i) (up (pick g i)) (-1) (gsz g) = evenK g (i + 1) := by
        rw [evenK, takeT, up_length, p1]
      rw [e] at hPj
      exact hPj
  · have hie : i = k := by omega
    subst hie
    refine endK_all hP.le 3 ?_
    have := hP.pub none 0
    rw [evenK_len] at this
    show K (.tup [conv H H2 2 (.ref 1 bo 0 (gsz g) none), .int .i64 (i : Nat)]) H
    rw [this]; exact hk
end Go.Proofs.YtbofkeoebnjjkaaDoor

namespace Go.Proofs.YtbofkeoebnjjkaaDoor
open Go.Av Tab
set_option linter.unusedVariables false
set_option linter.unusedSimpArgs false
set_option maxRecDepth 4000

theorem b50 {x y : AV} (hx : cellsOf? x = some [x]) (hy : cellsOf? y = some [y]) : buildF Tryd.prog 50 [(0, x), (1, y)] = some (.agg [x, y]) := by
  rw [buildF_of (show buildPlan Tryd.prog 50 = some ([.nils, .int .i64 0], [(0, 1), (1, 1)]) by kernel_rfl)]
  simp [fillA, hx, hy, splice]
theorem l45b {x y : AV} : literalF Tryd.prog 45 1 [(0, .agg [x, y])] = some [x, y] := by
  rw [literalF_of (show literalPlan Tryd.prog 45 = some ([.nils, .int .i64 0], 2) by kernel_rfl) (by decide) (by simp)]
  simp [fillA, splice, rowOf]
def isPlan (n : Nat) (p : List Nat) : Prop := p.length = n ∧ ∀ c ∈ p, c < n
theorem isPlan.fit {t : Tb} (hc : chkT t = 0) {p : List Nat} (h : isPlan t.length p) : fitP t (up p) := by
  refine ⟨by rw [up_length, h.1]; exact Nat.le_refl _, fun r hr => ?_⟩
  rw [up_length, h.1] at hr
  rw [up_getD, Int.toNat_natCast, row_len hc hr]
  have : p.getD r 0 ∈ p := by rw [List.getD_eq_getElem?_getD]; simp [h.1, hr]
  exact ⟨by omega, h.2 _ this⟩
theorem isPlan.rng {n : Nat} {p : List Nat} (h : isPlan n p) : ∀ c ∈ up p, 0 ≤ c ∧ c < n := by
  intro c hc
  obtain ⟨x, hx, rfl⟩ := List.mem_map.1 hc
  have := h.2 x hx
  omega
theorem chk_takeP {t : Tb} (hc : chkT t = 0) {p : List Nat} (hp : isPlan t.length p) {x : Int} (hx : 0 ≤ x ∧ x ≤ leastK t (up p) t.length) : chkT (takeT t (up p) x) = 0 := by
  obtain ⟨n1, n2, hrows⟩ := chkT_ok hc
  have hf := hp.fit hc
  refine chkT_mk (by simpa using n1) (by simpa using n2) (fun r hr => ?_) (fun r c hr => ?_)
  · rw [takeT_length] at hr ⊢
    rw [takeT_rowlen hr]; exact row_len hc hr
  · rw [takeT_length] at hr
    rw [takeT_cell hf hr]
    have hcc := cell_rng hc r c
    split
    · rename_i hh
      have := leastK_le (t := t) (p := up p) t.length r hr
      rw [← hh.2] at this
      omega
    · exact hcc
/-- ref.Split -/
theorem c39 {v : AV} {t : Tbl} {H : Heap} {K : AV → Heap → Prop} (hv : RT H v t) (hl : t.length < 2 ^ 63) (hl2 : ∀ l ∈ t, l.length < 2 ^ 63)
    (hk : K (.tup [.imm (if (evenE t).2 ≠ 0 then [] else splitS t).length false ((if (evenE t).2 ≠ 0 then [] else splitS t).flatMap shC), .int .i64 (evenE t).2]) H) : ACalls Tryd.prog 39 [v] H K := by
  apply W39_ok
  unfold W39
  try simp only [letO_some, cellsOf?_agg, cellsOf?_int, cellsOf?_bool, cellsOf?_imm, cellsOf?_ref, cellsOf?_nils, faddr_iptr, faddr_ptr, List.drop_succ_cons, List.drop_zero, List.take_succ_cons, List.take_zero, load1_iptr, loadN_iptr, List.length_cons, List.length_nil, Nat.le_refl, if_true, List.getElem?_cons_zero, List.getElem?_cons_succ, List.getD_cons_zero, List.getD_cons_succ, extrF_tup, binF_add, binF_sub, binF_mul, binF_eql, binF_neq, binF_lss, binF_leq, binF_gtr, binF_geq, true_and]
  refine c19 hv hl hl2 ?_
  try simp only [letO_some, cellsOf?_agg, cellsOf?_int, cellsOf?_bool, cellsOf?_imm, cellsOf?_ref, cellsOf?_nils, faddr_iptr, faddr_ptr, List.drop_succ_cons, List.drop_zero, List.take_succ_cons, List.take_zero, load1_iptr, loadN_iptr, List.length_cons, List.length_nil, Nat.le_refl, if_true, List.getElem?_cons_zero, List.getElem?_cons_succ, List.getD_cons_zero, List.getD_cons_succ, extrF_tup, binF_add, binF_sub, binF_mul, binF_eql, binF_neq, binF_lss, binF_leq, binF_gtr, binF_geq, true_and]
  by_cases he : (evenE t).2 = 0
  · have e1 : ((evenE t).2 != 0) = false := by rw [he]; rfl
    simp only [e1, condA_ff]
    rw [if_neg (by simp [he]), he] at hk
    have hc : chkT t = 0 := by
      unfold evenE at he
      split at he
      · exact he
      · rename_i h; exact Decidable.not_not.1 h
    have htr := tsum_rng hc
    generalize hF : (tsum t).toNat = F at *
    have hsp : splitS t = splitF F t := by rw [splitS, hF]
    rw [hsp] at hk
    refine ⟨fun L H' => ∃ (done : List (List Nat × Int)) (left : Tb) (f : Nat) (X V : AV), eqt L [X, V] ∧ RT H V left ∧ chkT left = 0 ∧ left.length = t.length ∧ tsum left ≤ f ∧ done.length + f = F ∧ done ++ splitF f left = splitF F t ∧ Grow 2 H H' X done.length (done.flatMap shC), fun L _ => F - xl (L.getD 0 .any),
      ⟨[], t, F, .nils, v, rfl, hv, hc, rfl, by omega, by simp, rfl, Grow.nils 2 H⟩, ?_⟩
    rintro L H' ⟨done, left, f, X, V, rfl, hV, hcl, hll, hts, hdf, hdone, hg⟩
    have hle := hg.le
    try simp only [letO_some, cellsOf?_agg, cellsOf?_int, cellsOf?_bool, cellsOf?_imm, cellsOf?_ref, cellsOf?_nils, faddr_iptr, faddr_ptr, List.drop_succ_cons, List.drop_zero, List.take_succ_cons, List.take_zero, load1_iptr, loadN_iptr, List.length_cons, List.length_nil, Nat.le_refl, if_true, List.getElem?_cons_zero, List.getElem?_cons_succ, List.getD_cons_zero, List.getD_cons_succ, extrF_tup, binF_add, binF_sub, binF_mul, binF_eql, binF_neq, binF_lss, binF_leq, binF_gtr, binF_geq, true_and]
    have hdl : done.length ≤ 144 := by omega
    refine c74 hcl (hV.le hle) ?_
    have hL := (RT.tl H' ((withinS left).map up)).len
    simp only [letO_some, cellsOf?_agg, cellsOf?_int, cellsOf?_bool, cellsOf?_imm, cellsOf?_ref, cellsOf?_nils, faddr_iptr, faddr_ptr, List.drop_succ_cons, List.drop_zero, List.take_succ_cons, List.take_zero, load1_iptr, loadN_iptr, List.length_cons, List.length_nil, Nat.le_refl, if_true, List.getElem?_cons_zero, List.getElem?_cons_succ, List.getD_cons_zero, List.getD_cons_succ, extrF_tup, binF_add, binF_sub, binF_mul, binF_eql, binF_neq, binF_lss, binF_leq, binF_gtr, binF_geq, true_and, hL]
    have hwk := wkAll_eq hcl
    obtain ⟨n1, n2, hrows⟩ := chkT_ok hcl
    cases hw : withinS left with
    | nil =>
      rw [hw] at hwk
      have hnil : splitF f left = [] := by cases f with
        | zero => rfl
        | succ f => rw [splitF, hwk]; rfl
      rw [hnil, List.append_nil] at hdone
      subst hdone
      have e2 : ((([] : List (List Nat)).map up).length : Int) = 0 := rfl
      rw [e2]
      simp only [beq_self_eq_true, condA_tt]
      exact hg.end2 hk
    | cons p r =>
      have e2 : ((((p :: r).map up).length : Int) == 0) = false := by rw [beq_eq_false_iff_ne]; simp; omega
      simp only [e2, condA_ff]
      have hpm : p ∈ withinS left := by rw [hw]; simp
      have hp : isPlan left.length p := plansS_mem (List.mem_filter.1 hpm).1
      have hpos : 0 < leastK left (up p) left.length := of_decide_eq_true (List.mem_filter.1 hpm).2
      rw [hw, List.map_cons] at hwk
      have hxm : (p, prodK left p left.length, leastK left (up p) left.length) ∈ wkAll left := by rw [hwk]; simp
      obtain ⟨o1, o2, o3, o4, o5⟩ := first_ok hcl hxm
      have hsum := takeT_sum (x := leastK left (up p) left.length) (hp.fit hcl)
      rw [up_length, hp.1] at hsum
      have hmul : (1 : Int) ≤ (left.length : Int) * leastK left (up p) left.length := by
        have : (1 : Int) * 1 ≤ (left.length : Int) * leastK left (up p) left.length := Int.mul_le_mul (by omega) o2 (by omega) (by omega)
        omega
      have hck := chk_take hcl hxm
      have hts2 := (tsum_rng hck).1
      simp only at hck hts2 o2 o3
      obtain ⟨f, rfl⟩ : ∃ g, f = g + 1 := ⟨f - 1, by omega⟩
      rw [splitF, hwk] at hdone
      simp only at hdone
      have hgt : ∀ (H' : Heap) (k : AV → Prop), k (sl (up p)) → letO (idx 1 (tl ((p :: r).map up)) (.int .i64 0)) fun q => letO (load1 q H') k := by
        intro H' k hk
        refine ReadsC.get (H := H') (Heap.le_refl _) (n := r.length + 1) (cells := sl (up p) :: r.map fun p => sl (up p)) ⟨by simp, by simp [tl, Function.comp_def]⟩ (x := sl (up p)) (by omega) (by omega) rfl hk
      refine hgt _ _ ?_
      refine c81 hcl (hV.le hle) (Reads.sl _ _) (by rw [up_length, hp.1]) hp.rng ?_
      rw [up_length, hp.1]
      try simp only [letO_some, cellsOf?_agg, cellsOf?_int, cellsOf?_bool, cellsOf?_imm, cellsOf?_ref, cellsOf?_nils, faddr_iptr, faddr_ptr, List.drop_succ_cons, List.drop_zero, List.take_succ_cons, List.take_zero, load1_iptr, loadN_iptr, List.length_cons, List.length_nil, Nat.le_refl, if_true, List.getElem?_cons_zero, List.getElem?_cons_succ, List.getD_cons_zero, List.getD_cons_succ, extrF_tup, binF_add, binF_sub, binF_mul, binF_eql, binF_neq, binF_lss, binF_leq, binF_gtr, binF_geq, true_and]
      refine hgt _ _ ?_
      generalize hlk : leastK left (up p) left.length = x at *
      simp only [b50 (show cellsOf? (sl (up p)) = some [sl (up p)] from rfl) cellsOf?_int, l45b, letO_some]
      refine appendA_grow hg (m := 1) (new := [sl (up p), .int .i64 x]) (by simp [srcOf]) rfl rfl (by omega) (by omega) fun v' H7 hg7 => ?_
      have hcs : done.flatMap shC ++ [sl (up p), .int .i64 x] = (done ++ [(p, x)]).flatMap shC := by simp [shC]
      rw [hcs] at hg7
      try simp only [letO_some]
      refine hgt _ _ ?_
      refine c92 (hV.le hg7.le) (Reads.sl _ _) (by rw [up_length, hp.1]) (hp.fit hcl) (by omega) (fun r hr => by rw [row_len hcl hr]; omega) (fun r c => by have := cell_rng hcl r c; omega) (by omega) ?_
      try simp only [letO_some, cellsOf?_agg, cellsOf?_int, cellsOf?_bool, cellsOf?_imm, cellsOf?_ref, cellsOf?_nils, faddr_iptr, faddr_ptr, List.drop_succ_cons, List.drop_zero, List.take_succ_cons, List.take_zero, load1_iptr, loadN_iptr, List.length_cons, List.length_nil, Nat.le_refl, if_true, List.getElem?_cons_zero, List.getElem?_cons_succ, List.getD_cons_zero, List.getD_cons_succ, extrF_tup, binF_add, binF_sub, binF_mul, binF_eql, binF_neq, binF_lss, binF_leq, binF_gtr, binF_geq, true_and]
      have hxl : xl v' = done.length + 1 := by
        rcases hg7.2 with ⟨_, h1, _⟩ | ⟨h1, _⟩ | ⟨b, _, h1, _⟩
        · omega
        · rw [h1]; rfl
        · rw [h1]; rfl
      have hxl0 : xl X = done.length := by
        rcases hg.2 with ⟨h1, h2, _⟩ | ⟨h1, _⟩ | ⟨b, _, h1, _⟩
        · rw [h1, h2]; rfl
        · rw [h1]; rfl
        · rw [h1]; rfl
      refine ⟨⟨done ++ [(p, x)], takeT left (up p) x, f, v', _, rfl, RT.tl _ _, hck, by rw [takeT_length]; exact hll, by omega, by simp; omega, by rw [List.append_assoc]; exact hdone, by rw [List.length_append]; exact hg7⟩, ?_⟩
      show F - xl v' < F - xl X
      omega
  · have e1 : ((evenE t).2 != 0) = true := by rw [bne_iff_ne]; exact he
    simp only [e1, condA_tt]
    rw [if_pos he] at hk
    exact endK_weak (endK_ret hk)
/-- In how many ways plans of a list, none before another one, add up to what is left. -/
def rS : Nat → Tb → List (List Nat) → Nat
  | 0, _, _ => 1
  | _ + 1, _, [] => 0
  | s + 1, t, p :: l => (if 0 < leastK t (up p) t.length then rS s (takeT t (up p) 1) (p :: l) else 0) + rS (s + 1) t l
termination_by s _ l => (s, l.length)
theorem rS_le : ∀ (s : Nat) (t : Tb) (l : List (List Nat)), rS s t l ≤ l.length ^ s
  | 0, t, l => by rw [rS]; simp
  | s + 1, t, [] => by rw [rS]; simp
  | s + 1, t, p :: l => by
    rw [rS]
    have h1 := rS_le s (takeT t (up p) 1) (p :: l)
    have h2 := rS_le (s + 1) t l
    have h3 : l.length ^ s ≤ (p :: l).length ^ s := Nat.pow_le_pow_left (by simp) s
    have h4 : (p :: l).length ^ (s + 1) = l.length * (p :: l).length ^ s + (p :: l).length ^ s := by rw [Nat.pow_succ, Nat.mul_comm, List.length_cons, Nat.add_mul, Nat.one_mul]
    have h5 : l.length ^ (s + 1) = l.length * l.length ^ s := by rw [Nat.pow_succ, Nat.mul_comm]
    have h6 : l.length * l.length ^ s ≤ l.length * (p :: l).length ^ s := Nat.mul_le_mul_left _ h3
    split <;> omega
termination_by s _ l => (s, l.length)
theorem slcT {P : List (List Nat)} {fl : Bool} {k : Nat} (hk : k ≤ P.length) : ∃ fl', slc 1 (.imm P.length fl (P.map fun p => sl (up p))) (some (.int .i64 (k : Int))) none none = some (.imm (P.drop k).length fl' ((P.drop k).map fun p => sl (up p))) := by
  have n1 : ∀ d, natOf none d = some d := fun d => rfl
  have n2 : ∀ d, natOf (some (.int .i64 (k : Int))) d = some k := fun d => by simp [natOf]
  simp only [slc, n1, n2, Option.bind_some]
  rw [if_pos ⟨hk, Nat.le_refl _⟩]
  refine ⟨fl && P.length == P.length, ?_⟩
  rw [Nat.mul_one, Nat.mul_one, List.take_of_length_le (by simp), List.map_drop, List.length_drop]
/-- ref.splits -/
theorem c96 : ∀ (s : Nat) {t : Tbl} {P : List (List Nat)} {v : AV} {fl : Bool} {H : Heap} {K : AV → Heap → Prop}, s ≤ 6 → chkT t = 0 → RT H v t → (∀ p ∈ P, isPlan t.length p) → P.length ≤ 256 → K (.int .i64 (rS s t P : Nat)) H →
    ACalls Tryd.prog 96 [v, .imm P.length fl (P.map fun p => sl (up p)), .int .i64 (s : Int)] H K := by
  intro s
  induction s with
  | zero =>
    intro t P v fl H K hs hc hv hP hPl hk
    apply W96_ok
    unfold W96
    have e : (((0 : Nat) : Int) == 0) = true := rfl
    simp only [letO_some, cellsOf?_agg, cellsOf?_int, cellsOf?_bool, cellsOf?_imm, cellsOf?_ref, cellsOf?_nils, faddr_iptr, faddr_ptr, List.drop_succ_cons, List.drop_zero, List.take_succ_cons, List.take_zero, load1_iptr, loadN_iptr, List.length_cons, List.length_nil, Nat.le_refl, if_true, List.getElem?_cons_zero, List.getElem?_cons_succ, List.getD_cons_zero, List.getD_cons_succ, extrF_tup, binF_add, binF_sub, binF_mul, binF_eql, binF_neq, binF_lss, binF_leq, binF_gtr, binF_geq, true_and, e, condA_tt]
    rw [rS] at hk
    exact endK_ret hk
  | succ s ih =>
    intro t P v fl H K hs hc hv hP hPl hk
    apply W96_ok
    unfold W96
    obtain ⟨n1, n2, hrows⟩ := chkT_ok hc
    have e : (((s + 1 : Nat) : Int) == 0) = false := by rw [beq_eq_false_iff_ne]; omega
    have hPlen : lenA (.imm P.length fl (P.map fun p => sl (up p))) = some (.int .i64 P.length) := rfl
    have hB : rS (s + 1) t P ≤ 256 ^ 6 := by
      refine Nat.le_trans (rS_le _ _ _) (Nat.le_trans (Nat.pow_le_pow_left hPl _) (Nat.pow_le_pow_right (by decide) hs))
    have h256 : (256 : Nat) ^ 6 = 281474976710656 := by decide
    simp only [letO_some, cellsOf?_agg, cellsOf?_int, cellsOf?_bool, cellsOf?_imm, cellsOf?_ref, cellsOf?_nils, faddr_iptr, faddr_ptr, List.drop_succ_cons, List.drop_zero, List.take_succ_cons, List.take_zero, load1_iptr, loadN_iptr, List.length_cons, List.length_nil, Nat.le_refl, if_true, List.getElem?_cons_zero, List.getElem?_cons_succ, List.getD_cons_zero, List.getD_cons_succ, extrF_tup, binF_add, binF_sub, binF_mul, binF_eql, binF_neq, binF_lss, binF_leq, binF_gtr, binF_geq, true_and, e, condA_ff, hPlen]
    refine ⟨fun L H' => ∃ (i acc : Nat), eqt L [.int .i64 acc, .int .i64 i] ∧ i ≤ P.length ∧ eqt H' H ∧ acc + rS (s + 1) t (P.drop i) = rS (s + 1) t P, fun L _ => (P.length - iv L 1).toNat, ⟨0, 0, rfl, by omega, rfl, by simp⟩, ?_⟩
    rintro L H' ⟨i, acc, rfl, hi, rfl, hacc⟩
    try simp only [letO_some, cellsOf?_agg, cellsOf?_int, cellsOf?_bool, cellsOf?_imm, cellsOf?_ref, cellsOf?_nils, faddr_iptr, faddr_ptr, List.drop_succ_cons, List.drop_zero, List.take_succ_cons, List.take_zero, load1_iptr, loadN_iptr, List.length_cons, List.length_nil, Nat.le_refl, if_true, List.getElem?_cons_zero, List.getElem?_cons_succ, List.getD_cons_zero, List.getD_cons_succ, extrF_tup, binF_add, binF_sub, binF_mul, binF_eql, binF_neq, binF_lss, binF_leq, binF_gtr, binF_geq, true_and]
    refine condA_t (fun hlt => ?_) (fun hge => ?_)
    · have a1 : i < P.length := by omega
      have hpi := hP P[i] (List.getElem_mem a1)
      have hget : ∀ (H' : Heap) (k : AV → Prop), k (sl (up P[i])) → letO (idx 1 (.imm P.length fl (P.map fun p => sl (up p))) (.int .i64 (i : Int))) fun q => letO (load1 q H') k := by
        intro H' k hk
        refine ReadsC.get (H := H') (v := .imm P.length fl (P.map fun p => sl (up p))) (Heap.le_refl _) (n := P.length) (cells := P.map fun p => sl (up p)) ⟨by simp, rfl, rfl⟩ (x := sl (up P[i])) (by omega) (by omega) ?_ hk
        simp [a1]
      rw [List.drop_eq_getElem_cons a1, rS] at hacc
      refine ⟨fun L H'' => ∃ acc' : Nat, eqt L [.int .i64 acc'] ∧ eqt H'' H' ∧ acc' + rS (s + 1) t (P.drop (i + 1)) = rS (s + 1) t P, ?_, ?_⟩
      · refine hget _ _ ?_
        refine c81 hc hv (Reads.sl _ _) (by rw [up_length, hpi.1]) hpi.rng ?_
        rw [up_length, hpi.1]
        try simp only [letO_some, cellsOf?_agg, cellsOf?_int, cellsOf?_bool, cellsOf?_imm, cellsOf?_ref, cellsOf?_nils, faddr_iptr, faddr_ptr, List.drop_succ_cons, List.drop_zero, List.take_succ_cons, List.take_zero, load1_iptr, loadN_iptr, List.length_cons, List.length_nil, Nat.le_refl, if_true, List.getElem?_cons_zero, List.getElem?_cons_succ, List.getD_cons_zero, List.getD_cons_succ, extrF_tup, binF_add, binF_sub, binF_mul, binF_eql, binF_neq, binF_lss, binF_leq, binF_gtr, binF_geq, true_and]
        refine condA_t (fun hpos => ?_) (fun hnp => ?_)
        · rw [if_pos (by omega)] at hacc
          refine hget _ _ ?_
          obtain ⟨fl', hsl⟩ := slcT (P := P) (fl := fl) (k := i) (by omega)
          refine ⟨_, c92 hv (Reads.sl _ _) (by rw [up_length, hpi.1]) (hpi.fit hc) (by omega) (fun r hr => by rw [row_len hc hr]; omega) (fun r c => by have := cell_rng hc r c; omega) (by omega) ⟨rfl, rfl⟩, ?_⟩
          simp only [letO_some, cellsOf?_agg, cellsOf?_int, cellsOf?_bool, cellsOf?_imm, cellsOf?_ref, cellsOf?_nils, faddr_iptr, faddr_ptr, List.drop_succ_cons, List.drop_zero, List.take_succ_cons, List.take_zero, load1_iptr, loadN_iptr, List.length_cons, List.length_nil, Nat.le_refl, if_true, List.getElem?_cons_zero, List.getElem?_cons_succ, List.getD_cons_zero, List.getD_cons_succ, extrF_tup, binF_add, binF_sub, binF_mul, binF_eql, binF_neq, binF_lss, binF_leq, binF_gtr, binF_geq, true_and, hsl]
          rw [wrap_i64 (by omega) (by omega), show (((s + 1 : Nat) : Int) - 1) = (s : Int) by omega]
          have hck : chkT (takeT t (up P[i]) 1) = 0 := chk_takeP hc hpi (by omega)
          refine ⟨_, ih (P := P.drop i) (by omega) hck (RT.tl _ _) (fun p hp => by rw [takeT_length]; exact hP p (List.mem_of_mem_drop hp)) (by rw [List.length_drop]; omega) ⟨rfl, rfl⟩, ?_⟩
          rw [← List.drop_eq_getElem_cons a1] at hacc
          try simp only [letO_some, cellsOf?_agg, cellsOf?_int, cellsOf?_bool, cellsOf?_imm, cellsOf?_ref, cellsOf?_nils, faddr_iptr, faddr_ptr, List.drop_succ_cons, List.drop_zero, List.take_succ_cons, List.take_zero, load1_iptr, loadN_iptr, List.length_cons, List.length_nil, Nat.le_refl, if_true, List.getElem?_cons_zero, List.getElem?_cons_succ, List.getD_cons_zero, List.getD_cons_succ, extrF_tup, binF_add, binF_sub, binF_mul, binF_eql, binF_neq, binF_lss, binF_leq, binF_gtr, binF_geq, true_and]
          rw [wrap_i64 (by omega) (by omega)]
          exact ⟨acc + rS s (takeT t (up P[i]) 1) (P.drop i), by unfold eqt; congr 2, rfl, by omega⟩
        · rw [if_neg (by omega)] at hacc
          exact ⟨acc, rfl, rfl, by omega⟩
      · rintro L H'' ⟨acc', rfl, rfl, hacc'⟩
        try simp only [letO_some, cellsOf?_agg, cellsOf?_int, cellsOf?_bool, cellsOf?_imm, cellsOf?_ref, cellsOf?_nils, faddr_iptr, faddr_ptr, List.drop_succ_cons, List.drop_zero, List.take_succ_cons, List.take_zero, load1_iptr, loadN_iptr, List.length_cons, List.length_nil, Nat.le_refl, if_true, List.getElem?_cons_zero, List.getElem?_cons_succ, List.getD_cons_zero, List.getD_cons_succ, extrF_tup, binF_add, binF_sub, binF_mul, binF_eql, binF_neq, binF_lss, binF_leq, binF_gtr, binF_geq, true_and]
        rw [wrap_i64 (by omega) (by omega)]
        exact ⟨⟨i + 1, acc', rfl, by omega, rfl, hacc'⟩, by simp <;> omega⟩
    · have hie : i = P.length := by omega
      subst hie
      rw [List.drop_length, rS, Nat.add_zero] at hacc
      rw [← hacc] at hk
      exact endK_ret hk
/-- Splits, in the words of the reference. -/
def splitsR (t : Tb) : Int × Int := if (evenE t).2 ≠ 0 then (0, (evenE t).2) else if 6 < (evenE t).1 then (0, 15) else ((rS (evenE t).1.toNat t (plansS t.length) : Nat), 0)
/-- ref.Splits -/
theorem c41 {v : AV} {t : Tbl} {H : Heap} {K : AV → Heap → Prop} (hv : RT H v t) (hl : t.length < 2 ^ 63) (hl2 : ∀ l ∈ t, l.length < 2 ^ 63) (hk : K (.tup [.int .i64 (splitsR t).1, .int .i64 (splitsR t).2]) H) : ACalls Tryd.prog 41 [v] H K := by
  apply W41_ok
  unfold W41
  try simp only [letO_some, cellsOf?_agg, cellsOf?_int, cellsOf?_bool, cellsOf?_imm, cellsOf?_ref, cellsOf?_nils, faddr_iptr, faddr_ptr, List.drop_succ_cons, List.drop_zero, List.take_succ_cons, List.take_zero, load1_iptr, loadN_iptr, List.length_cons, List.length_nil, Nat.le_refl, if_true, List.getElem?_cons_zero, List.getElem?_cons_succ, List.getD_cons_zero, List.getD_cons_succ, extrF_tup, binF_add, binF_sub, binF_mul, binF_eql, binF_neq, binF_lss, binF_leq, binF_gtr, binF_geq, true_and]
  refine c19 hv hl hl2 ?_
  try simp only [letO_some, cellsOf?_agg, cellsOf?_int, cellsOf?_bool, cellsOf?_imm, cellsOf?_ref, cellsOf?_nils, faddr_iptr, faddr_ptr, List.drop_succ_cons, List.drop_zero, List.take_succ_cons, List.take_zero, load1_iptr, loadN_iptr, List.length_cons, List.length_nil, Nat.le_refl, if_true, List.getElem?_cons_zero, List.getElem?_cons_succ, List.getD_cons_zero, List.getD_cons_succ, extrF_tup, binF_add, binF_sub, binF_mul, binF_eql, binF_neq, binF_lss, binF_leq, binF_gtr, binF_geq, true_and]
  unfold splitsR at hk
  by_cases he : (evenE t).2 = 0
  · have hc : chkT t = 0 := by
      unfold evenE at he
      split at he
      · exact he
      · rename_i h; exact Decidable.not_not.1 h
    obtain ⟨n1, n2, hrows⟩ := chkT_ok hc
    rw [if_neg (by simp [he])] at hk
    have hs0 : 0 ≤ (evenE t).1 := by
      rw [evenE_iff hc]
      split
      · exact (rowS_bd hc 0 t.length).1
      · simp
    rw [he]
    generalize (evenE t).1 = s at *
    refine ⟨fun L H' => eqt L [.int .i64 (if 6 < s then 15 else 0)] ∧ eqt H' H, ?_, ?_⟩
    · simp only [beq_self_eq_true, gval_bool, Int.reduceBNe, Int.reduceBEq, pickF_true, pickF_false, reduceIte, Bool.true_eq_false, Bool.false_eq_true, if_false, condA_tt, condA_ff, condG_tt, condG_ff, condG_tt', condG_ff', condG_undef, gval_undef, letO_some, cellsOf?_agg, cellsOf?_int, cellsOf?_bool, cellsOf?_imm, cellsOf?_ref, cellsOf?_nils, faddr_iptr, faddr_ptr, List.drop_succ_cons, List.drop_zero, List.take_succ_cons, List.take_zero, load1_iptr, loadN_iptr, List.length_cons, List.length_nil, Nat.le_refl, if_true, List.getElem?_cons_zero, List.getElem?_cons_succ, List.getD_cons_zero, List.getD_cons_succ, extrF_tup, binF_add, binF_sub, binF_mul, binF_eql, binF_neq, binF_lss, binF_leq, binF_gtr, binF_geq, true_and]
      refine condA_t (fun h => ?_) (fun h => ?_)
      · rw [if_pos h]; exact ⟨rfl, rfl⟩
      · rw [if_neg h]; exact ⟨rfl, rfl⟩
    rintro L H' ⟨rfl, rfl⟩
    try simp only [letO_some, cellsOf?_agg, cellsOf?_int, cellsOf?_bool, cellsOf?_imm, cellsOf?_ref, cellsOf?_nils, faddr_iptr, faddr_ptr, List.drop_succ_cons, List.drop_zero, List.take_succ_cons, List.take_zero, load1_iptr, loadN_iptr, List.length_cons, List.length_nil, Nat.le_refl, if_true, List.getElem?_cons_zero, List.getElem?_cons_succ, List.getD_cons_zero, List.getD_cons_succ, extrF_tup, binF_add, binF_sub, binF_mul, binF_eql, binF_neq, binF_lss, binF_leq, binF_gtr, binF_geq, true_and]
    by_cases h6 : 6 < s
    · rw [if_pos h6] at hk ⊢
      simp only [gval_bool, Int.reduceBNe, Int.reduceBEq, pickF_true, pickF_false, reduceIte, Bool.true_eq_false, Bool.false_eq_true, if_false, condA_tt, condA_ff, condG_tt, condG_ff, condG_tt', condG_ff', condG_undef, gval_undef, letO_some, cellsOf?_agg, cellsOf?_int, cellsOf?_bool, cellsOf?_imm, cellsOf?_ref, cellsOf?_nils, faddr_iptr, faddr_ptr, List.drop_succ_cons, List.drop_zero, List.take_succ_cons, List.take_zero, load1_iptr, loadN_iptr, List.length_cons, List.length_nil, Nat.le_refl, if_true, List.getElem?_cons_zero, List.getElem?_cons_succ, List.getD_cons_zero, List.getD_cons_succ, extrF_tup, binF_add, binF_sub, binF_mul, binF_eql, binF_neq, binF_lss, binF_leq, binF_gtr, binF_geq, true_and]
      exact endK_ret hk
    · rw [if_neg h6] at hk ⊢
      simp only [bne_self_eq_false, condA_ff, hv.len, letO_some]
      refine c76n ⟨n1, n2⟩ ?_
      have e : tl ((plansS t.length).map up) = .imm (plansS t.length).length false ((plansS t.length).map fun p => sl (up p)) := by simp [tl, Function.comp_def]
      rw [e, show (s : Int) = ((s.toNat : Nat) : Int) by omega]
      refine c96 s.toNat (by omega) hc hv (fun p hp => plansS_mem hp) (plansS_len n2) ?_
      try simp only [letO_some, cellsOf?_agg, cellsOf?_int, cellsOf?_bool, cellsOf?_imm, cellsOf?_ref, cellsOf?_nils, faddr_iptr, faddr_ptr, List.drop_succ_cons, List.drop_zero, List.take_succ_cons, List.take_zero, load1_iptr, loadN_iptr, List.length_cons, List.length_nil, Nat.le_refl, if_true, List.getElem?_cons_zero, List.getElem?_cons_succ, List.getD_cons_zero, List.getD_cons_succ, extrF_tup, binF_add, binF_sub, binF_mul, binF_eql, binF_neq, binF_lss, binF_leq, binF_gtr, binF_geq, true_and]
      exact endK_ret hk
  · have e1 : ((evenE t).2 == 0) = false := by rw [beq_eq_false_iff_ne]; exact he
    have e2 : ((evenE t).2 != 0) = true := by rw [bne_iff_ne]; exact he
    refine ⟨fun L H' => eqt L [.int .i64 (evenE t).2] ∧ eqt H' H, ?_, ?_⟩
    · simp only [e1, gval_bool, Int.reduceBNe, Int.reduceBEq, pickF_true, pickF_false, reduceIte, Bool.true_eq_false, Bool.false_eq_true, if_false, condA_tt, condA_ff, condG_tt, condG_ff, condG_tt', condG_ff', condG_undef, gval_undef, letO_some, cellsOf?_agg, cellsOf?_int, cellsOf?_bool, cellsOf?_imm, cellsOf?_ref, cellsOf?_nils, faddr_iptr, faddr_ptr, List.drop_succ_cons, List.drop_zero, List.take_succ_cons, List.take_zero, load1_iptr, loadN_iptr, List.length_cons, List.length_nil, Nat.le_refl, if_true, List.getElem?_cons_zero, List.getElem?_cons_succ, List.getD_cons_zero, List.getD_cons_succ, extrF_tup, binF_add, binF_sub, binF_mul, binF_eql, binF_neq, binF_lss, binF_leq, binF_gtr, binF_geq, true_and]
      exact ⟨rfl, rfl⟩
    rintro L H' ⟨rfl, rfl⟩
    simp only [letO_some, cellsOf?_agg, cellsOf?_int, cellsOf?_bool, cellsOf?_imm, cellsOf?_ref, cellsOf?_nils, faddr_iptr, faddr_ptr, List.drop_succ_cons, List.drop_zero, List.take_succ_cons, List.take_zero, load1_iptr, loadN_iptr, List.length_cons, List.length_nil, Nat.le_refl, if_true, List.getElem?_cons_zero, List.getElem?_cons_succ, List.getD_cons_zero, List.getD_cons_succ, extrF_tup, binF_add, binF_sub, binF_mul, binF_eql, binF_neq, binF_lss, binF_leq, binF_gtr, binF_geq, true_and, e2, condA_tt]
    rw [if_pos he] at hk
    exact endK_ret hk
end Go.Proofs.YtbofkeoebnjjkaaDoor

namespace Go.Proofs.YtbofkeoebnjjkaaDoor
open Tab
set_option linter.unusedVariables false
set_option linter.unusedSimpArgs false

/- Counting splits by times, and plan by plan. -/
theorem mostK_in {t : Tb} {p : List Nat} : ∀ i, mostK t p i = 9 ∨ ∃ j, j < i ∧ mostK t p i = cell t j (p.getD j 0)
  | 0 => .inl rfl
  | i + 1 => by
    rw [mostK]
    split
    · exact .inr ⟨i, by omega, rfl⟩
    · rcases mostK_in (t := t) (p := p) i with h | ⟨j, h1, h2⟩
      · exact .inl h
      · exact .inr ⟨j, by omega, h2⟩
theorem most_least {t : Tb} (hc : chkT t = 0) {p : List Nat} (hp : isPlan t.length p) : most t p = leastK t (up p) t.length := by
  obtain ⟨n1, n2, hrows⟩ := chkT_ok hc
  have h1 := mostK_le hc (p := p) t.length
  obtain ⟨r, h2, h3⟩ := leastK_in (t := t) (p := up p) t.length n1
  have h4 := h1.2.2 r h2
  rw [up_getN] at h3
  have h5 : leastK t (up p) t.length ≤ mostK t p t.length := by
    rcases mostK_in (t := t) (p := p) t.length with h | ⟨j, h6, h7⟩
    · rw [h, h3]; exact (cell_rng hc _ _).2
    · rw [h7]
      have := leastK_le (t := t) (p := up p) t.length j h6
      rwa [up_getN] at this
  unfold most
  rw [hp.1]
  omega
theorem putL_zero : ∀ (l : List (List Nat)) (t : Tb), putL l t 0 = 1
  | [], t => rfl
  | p :: l, t => by rw [putL, if_pos rfl]
theorem take_cell_le {t : Tb} (hc : chkT t = 0) {p : List Nat} (hp : isPlan t.length p) {x : Int} (hx : 0 ≤ x) (r c : Nat) : cell (takeT t (up p) x) r c ≤ cell t r c := by
  by_cases hr : r < t.length
  · rw [takeT_cell (hp.fit hc) hr]
    split <;> omega
  · have e : cell (takeT t (up p) x) r c = 0 := by
      unfold cell row
      rw [List.getD_eq_getElem?_getD (l := takeT t (up p) x), List.getElem?_eq_none (by rw [takeT_length]; omega)]; rfl
    rw [e]; exact (cell_rng hc r c).1
/-- Plans that are not within a table play no part. -/
theorem putL_filter {u : Tb} (hu : chkT u = 0) : ∀ (l : List (List Nat)) (t : Tb) (s : Int), chkT t = 0 → t.length = u.length → (∀ p ∈ l, isPlan u.length p) → (∀ r c, cell t r c ≤ cell u r c) →
    putL l t s = putL (l.filter fun p => decide (0 < leastK u (up p) u.length)) t s
  | [], t, s, _, _, _, _ => rfl
  | p :: l, t, s, hc, hl, hp, hle => by
    have hpp := hp p (by simp)
    have hpt : isPlan t.length p := by rw [hl]; exact hpp
    have ih : ∀ t s, chkT t = 0 → t.length = u.length → (∀ r c, cell t r c ≤ cell u r c) → putL l t s = putL (l.filter fun p => decide (0 < leastK u (up p) u.length)) t s := fun t s h1 h2 h3 => putL_filter hu l t s h1 h2 (fun q hq => hp q (by simp [hq])) h3
    have hm := most_least hc hpt
    rw [List.filter_cons]
    by_cases hw : 0 < leastK u (up p) u.length
    · rw [if_pos (by simpa using hw), putL, putL]
      by_cases hs : s = 0
      · rw [if_pos hs, if_pos hs]
      · rw [if_neg hs, if_neg hs, ih t s hc hl hle]
        congr 2
        refine List.map_congr_left fun k hk => ?_
        have hk' := List.mem_range.1 hk
        refine ih _ _ (chk_takeP hc hpt ⟨by omega, by omega⟩) (by rw [takeT_length]; exact hl) fun r c => ?_
        exact Int.le_trans (take_cell_le hc hpt (by omega) r c) (hle r c)
    · rw [if_neg (by simpa using hw), putL]
      have h0 : (most t p).toNat = 0 := by
        rw [hm]
        obtain ⟨r, h2, h3⟩ := leastK_in (t := u) (p := up p) u.length (chkT_ok hu).1
        have h4 := leastK_le (t := t) (p := up p) t.length r (by omega)
        have h5 := hle r ((up p).getD r 0).toNat
        omega
      rw [h0]
      simp only [List.range_zero, List.map_nil, List.sum_nil, Int.add_zero]
      by_cases hs : s = 0
      · rw [if_pos hs]; subst hs; exact (putL_zero _ _).symm
      · rw [if_neg hs]; exact ih t s hc hl hle
theorem rowS_take {t : Tb} (hc : chkT t = 0) {p : List Nat} (hp : isPlan t.length p) {x : Int} : ∀ m, m ≤ t.length → rowS (takeT t (up p) x) 0 m = rowS t 0 m - if p.getD 0 0 < m then x else 0
  | 0, _ => by simp [rowS]
  | m + 1, h => by
    have n1 := (chkT_ok hc).1
    rw [rowS_succ, rowS_succ, rowS_take hc hp m (by omega), takeT_cell (hp.fit hc) (by omega), up_length, hp.1, up_getN]
    generalize p.getD 0 0 = a
    by_cases h1 : m = a
    · rw [if_pos (c := 0 < t.length ∧ m = a) ⟨n1, h1⟩, if_neg (c := a < m) (by omega), if_pos (c := a < m + 1) (by omega)]; omega
    · rw [if_neg (c := 0 < t.length ∧ m = a) (fun h => h1 h.2)]
      by_cases h2 : a < m
      · rw [if_pos (c := a < m) h2, if_pos (c := a < m + 1) (by omega)]; omega
      · rw [if_neg (c := a < m) h2, if_neg (c := a < m + 1) (by omega)]; omega
theorem rowS_ge {t : Tb} (hc : chkT t = 0) : ∀ m c, c < m → cell t 0 c ≤ rowS t 0 m
  | 0, c, h => by omega
  | m + 1, c, h => by
    rw [rowS_succ]
    have h1 := rowS_bd hc 0 m
    have h2 := cell_rng hc 0 m
    by_cases hm : c = m
    · subst hm; omega
    · have := rowS_ge hc m c (by omega); omega
theorem rS_put : ∀ (l : List (List Nat)) (s : Nat) (t : Tb), chkT t = 0 → (∀ p ∈ l, isPlan t.length p) → rowS t 0 t.length = s → ((rS s t l : Nat) : Int) = putL l t s
  | l, 0, t, _, _, _ => by rw [rS, show (((0 : Nat)) : Int) = 0 from rfl, putL_zero]; rfl
  | [], s + 1, t, _, _, _ => by rw [rS, putL, if_neg (by omega)]; rfl
  | p :: l, s + 1, t, hc, hp, hs => by
    have hpt := hp p (by simp)
    have n1 := (chkT_ok hc).1
    have hm := most_least hc hpt
    have ihl : ((rS (s + 1) t l : Nat) : Int) = putL l t ((s + 1 : Nat) : Int) := rS_put l (s + 1) t hc (fun q hq => hp q (by simp [hq])) hs
    have hp0 : p.getD 0 0 < t.length := by
      have : p.getD 0 0 ∈ p := by rw [List.getD_eq_getElem?_getD]; simp [hpt.1, show 0 < t.length by omega]
      exact hpt.2 _ this
    rw [rS, putL, if_neg (c := ((s + 1 : Nat) : Int) = 0) (by omega)]
    by_cases hpos : 0 < leastK t (up p) t.length
    · rw [if_pos hpos, Int.natCast_add, ihl]
      have hck : chkT (takeT t (up p) 1) = 0 := chk_takeP hc hpt (by omega)
      have hl1 : (takeT t (up p) 1).length = t.length := takeT_length _ _ _
      have hpt1 : isPlan (takeT t (up p) 1).length p := by rw [hl1]; exact hpt
      have hrs : rowS (takeT t (up p) 1) 0 (takeT t (up p) 1).length = (s : Nat) := by
        rw [hl1, rowS_take hc hpt t.length (Nat.le_refl _), if_pos hp0, hs]; omega
      have ih := rS_put (p :: l) s (takeT t (up p) 1) hck (fun q hq => by rw [hl1]; exact hp q hq) hrs
      rw [ih]
      have hm1 := most_least hck hpt1
      -- the smallest number, once the plan is taken away
      have hlk : leastK (takeT t (up p) 1) (up p) (takeT t (up p) 1).length = leastK t (up p) t.length - 1 := by
        rw [hl1]
        have hcell : ∀ r, r < t.length → cell (takeT t (up p) 1) r (p.getD r 0) = cell t r (p.getD r 0) - 1 := fun r hr => by
          rw [takeT_cell (hpt.fit hc) hr, if_pos ⟨by rw [up_length, hpt.1]; exact hr, by rw [up_getN]⟩]
        obtain ⟨r1, q1, q2⟩ := leastK_in (t := takeT t (up p) 1) (p := up p) t.length n1
        obtain ⟨r2, q3, q4⟩ := leastK_in (t := t) (p := up p) t.length n1
        have q5 := leastK_le (t := takeT t (up p) 1) (p := up p) t.length r2 q3
        have q6 := leastK_le (t := t) (p := up p) t.length r1 q1
        rw [up_getN] at q2 q4 q5 q6
        rw [hcell r1 q1] at q2
        rw [hcell r2 q3] at q5
        omega
      obtain ⟨k, hk⟩ : ∃ k : Nat, (most t p).toNat = k + 1 := ⟨(most t p).toNat - 1, by omega⟩
      have hk1 : (most (takeT t (up p) 1) p).toNat = k := by omega
      rw [hk, List.range_succ_eq_map, List.map_cons, List.sum_cons, List.map_map]
      have e0 : takeT t (up p) (((0 : Nat) : Int) + 1) = takeT t (up p) 1 := rfl
      have e1 : (((s + 1 : Nat) : Int) - ((0 : Nat) : Int) - 1) = (s : Int) := by omega
      rw [e0, e1]
      have hput : putL (p :: l) (takeT t (up p) 1) (s : Int) = putL l (takeT t (up p) 1) (s : Int) + ((List.range k).map ((fun (k : Nat) => putL l (takeT t (up p) ((k : Int) + 1)) (((s + 1 : Nat) : Int) - k - 1)) ∘ Nat.succ)).sum := by
        rw [putL, hk1]
        by_cases hs0 : s = 0
        · subst hs0
          rw [if_pos (c := ((0 : Nat) : Int) = 0) rfl, show (((0 : Nat)) : Int) = 0 from rfl, putL_zero]
          have hk0 : k = 0 := by
            have h1 := leastK_le (t := t) (p := up p) t.length 0 (by omega)
            rw [up_getN] at h1
            have h2 := rowS_ge hc t.length (p.getD 0 0) hp0
            omega
          subst hk0
          simp
        · rw [if_neg (by omega)]
          congr 2
          refine List.map_congr_left fun j hj => ?_
          simp only [Function.comp]
          rw [takeT_take (hpt.fit hc)]
          have a1 : (1 : Int) + ((j : Int) + 1) = ((j.succ : Nat) : Int) + 1 := by omega
          have a2 : (s : Int) - (j : Int) - 1 = ((s + 1 : Nat) : Int) - ((j.succ : Nat) : Int) - 1 := by omega
          rw [a1, a2]
      rw [hput]
      omega
    · have h0 : (most t p).toNat = 0 := by omega
      rw [if_neg hpos, h0, Nat.zero_add, ihl]
      simp
termination_by l s _ => (s, l.length)
/-- BOTH COUNT THE SAME SPLITS. -/
theorem splits_eq (t : Tb) : splitsE t = splitsR t := by
  unfold splitsE splitsR
  by_cases he : (evenE t).2 = 0
  · have hc : chkT t = 0 := by
      unfold evenE at he
      split at he
      · exact he
      · rename_i h; exact Decidable.not_not.1 h
    rw [if_neg (c := (evenE t).2 ≠ 0) (by simp [he]), if_neg (c := (evenE t).2 ≠ 0) (by simp [he])]
    by_cases h6 : 6 < (evenE t).1
    · rw [if_pos h6, if_pos h6]
    · rw [if_neg h6, if_neg h6]
      have hs : (evenE t).1 = rowS t 0 t.length := by
        have h1 := evenE_iff hc
        by_cases hx : ∀ k, k < t.length → rowS t k t.length = rowS t 0 t.length ∧ colS t k t.length = rowS t 0 t.length
        · rw [if_pos hx] at h1; rw [h1]
        · rw [if_neg hx] at h1; rw [h1] at he; cases he
      have hs0 := (rowS_bd hc 0 t.length).1
      congr 1
      have h1 := rS_put (plansS t.length) (evenE t).1.toNat t hc (fun p hp => plansS_mem hp) (by omega)
      rw [h1, putL_filter hc _ _ _ hc rfl (fun p hp => plansS_mem hp) (fun _ _ => Int.le_refl _)]
      have h2 : (wkAll t).map (fun v => v.1) = withinS t := by rw [wkAll_eq hc, List.map_map]; simp [Function.comp_def]
      rw [h2, show (((evenE t).1.toNat : Nat) : Int) = (evenE t).1 by omega]
      rfl
  · rw [if_pos he, if_pos he]
end Go.Proofs.YtbofkeoebnjjkaaDoor

namespace Go.Proofs.YtbofkeoebnjjkaaDoor
open Go.Av Tab
set_option linter.unusedVariables false
set_option linter.unusedSimpArgs false
set_option maxRecDepth 4000

theorem least_take {t : Tb} (hc : chkT t = 0) {p : List Nat} (hp : isPlan t.length p) (x : Int) : leastK (takeT t (up p) x) (up p) t.length = leastK t (up p) t.length - x := by
  have n1 := (chkT_ok hc).1
  have hcell : ∀ r, r < t.length → cell (takeT t (up p) x) r (p.getD r 0) = cell t r (p.getD r 0) - x := fun r hr => by
    rw [takeT_cell (hp.fit hc) hr, if_pos ⟨by rw [up_length, hp.1]; exact hr, by rw [up_getN]⟩]
  obtain ⟨r1, q1, q2⟩ := leastK_in (t := takeT t (up p) x) (p := up p) t.length n1
  obtain ⟨r2, q3, q4⟩ := leastK_in (t := t) (p := up p) t.length n1
  have q5 := leastK_le (t := takeT t (up p) x) (p := up p) t.length r2 q3
  have q6 := leastK_le (t := t) (p := up p) t.length r1 q1
  rw [up_getN] at q2 q4 q5 q6
  rw [hcell r1 q1] at q2
  rw [hcell r2 q3] at q5
  omega
theorem prod_least {t : Tb} (hc : chkT t = 0) {p : List Nat} (hp : isPlan t.length p) : prodZ t (up p) t.length = 0 ↔ leastK t (up p) t.length = 0 := by
  have n1 := (chkT_ok hc).1
  have h := least_zero hc (p := up p) (by rw [up_length, hp.1]; exact n1)
  rw [up_length, hp.1] at h
  rw [h, prodZ_zero, zeroAt_iff, up_length, hp.1]
  simp only [Nat.zero_add]
theorem least_sum {t : Tb} (hc : chkT t = 0) {p : List Nat} (hp : isPlan t.length p) : leastK t (up p) t.length ≤ rowS t 0 t.length := by
  have n1 := (chkT_ok hc).1
  have h1 := leastK_le (t := t) (p := up p) t.length 0 (by omega)
  rw [up_getN] at h1
  have h2 := rowS_ge hc t.length (p.getD 0 0) (hp.2 _ (getD_mem (by rw [hp.1]; omega)))
  omega
theorem takeK_full {t : Tb} {p : List Int} {x : Int} {n : Nat} (h : p.length = n) : takeK t p x n = takeT t p x := by subst h; rfl
/-- the closure of TableCounted -/
theorem c61 {B : Heap} {bo : Nat} {cells : List AV} {b6 b7 b8 n : Nat} {All : List (List Nat)} {A : AV} (h6 : B b6 = some [A]) (hA : ReadsC 1 B A All.length (All.map fun p => sl (up p))) (h7 : B b7 = some [.ref 1 bo 0 n none])
    (h8 : B b8 = some [.fn 61 [.ptr b6 0, .ptr b8 0, .ptr b7 0]]) (hAl : All.length ≤ 256) (hp : ∀ p ∈ All, isPlan n p) :
    ∀ (rest : List (List Nat)) (i : Nat) (left : Tb) (s : Nat) (H : Heap) (K : AV → Heap → Prop), All.drop i = rest → i ≤ All.length → chkT left = 0 → left.length = n → rowS left 0 n = s → s ≤ 6 → PT B H bo cells left →
      (∀ H', PT B H' bo cells left → K (.int .i64 (putL rest left s)) H') → ACalls Tryd.prog 61 [.int .i64 i, .int .i64 s, .ptr b6 0, .ptr b8 0, .ptr b7 0] H K := by
  intro rest
  induction rest with
  | nil =>
    intro i left s H K hd hi hc hll hs1 hs2 hP hk
    apply W61_ok
    unfold W61
    have hie : i = All.length := by
      have := congrArg List.length hd
      simp at this; omega
    subst hie
    have l6 : load1 (.ptr b6 0) H = some A := load_cell (hP.le _ _ h6)
    simp only [letO_some, cellsOf?_agg, cellsOf?_int, cellsOf?_bool, cellsOf?_imm, cellsOf?_ref, cellsOf?_nils, faddr_iptr, faddr_ptr, List.drop_succ_cons, List.drop_zero, List.take_succ_cons, List.take_zero, load1_iptr, loadN_iptr, List.length_cons, List.length_nil, Nat.le_refl, if_true, List.getElem?_cons_zero, List.getElem?_cons_succ, List.getD_cons_zero, List.getD_cons_succ, extrF_tup, binF_add, binF_sub, binF_mul, binF_eql, binF_neq, binF_lss, binF_leq, binF_gtr, binF_geq, true_and, l6, hA.len]
    by_cases h0 : (s : Int) = 0
    · have e : ((s : Int) == 0) = true := by rw [h0]; rfl
      simp only [e, condA_tt]
      have := hk _ hP
      rw [putL, if_pos h0] at this
      exact endK_ret this
    · have e : ((s : Int) == 0) = false := by rw [beq_eq_false_iff_ne]; exact h0
      simp only [e, condA_ff, beq_self_eq_true, condA_tt]
      have := hk _ hP
      rw [putL, if_neg h0] at this
      exact endK_ret this
  | cons p rest ih =>
    intro i left s H K hd hi hc hll hs1 hs2 hP hk
    apply W61_ok
    unfold W61
    have hil : i < All.length := by
      have := congrArg List.length hd
      simp at this; omega
    rw [List.drop_eq_getElem_cons hil] at hd
    obtain ⟨hpi, hrest⟩ := List.cons.inj hd
    have hpm : p ∈ All := by rw [← hpi]; exact List.getElem_mem hil
    have hpx : (All.map fun p => sl (up p))[i]? = some (sl (up p)) := by rw [List.getElem?_map, List.getElem?_eq_getElem hil, hpi]; rfl
    have hpl := hp p hpm
    have hplan : isPlan left.length p := by rw [hll]; exact hpl
    obtain ⟨n1, n2, hrows⟩ := chkT_ok hc
    have hrl : rest.length ≤ 256 := by
      have := congrArg List.length hrest
      rw [List.length_drop] at this; omega
    have l6 : ∀ {H : Heap}, B.le H → load1 (.ptr b6 0) H = some A := fun h => load_cell (h _ _ h6)
    have l7 : ∀ {H : Heap}, B.le H → load1 (.ptr b7 0) H = some (.ref 1 bo 0 n none) := fun h => load_cell (h _ _ h7)
    have l8 : ∀ {H : Heap}, B.le H → load1 (.ptr b8 0) H = some (.fn 61 [.ptr b6 0, .ptr b8 0, .ptr b7 0]) := fun h => load_cell (h _ _ h8)
    have hfit : fitP left (up p) := hplan.fit hc
    simp only [letO_some, cellsOf?_agg, cellsOf?_int, cellsOf?_bool, cellsOf?_imm, cellsOf?_ref, cellsOf?_nils, faddr_iptr, faddr_ptr, List.drop_succ_cons, List.drop_zero, List.take_succ_cons, List.take_zero, load1_iptr, loadN_iptr, List.length_cons, List.length_nil, Nat.le_refl, if_true, List.getElem?_cons_zero, List.getElem?_cons_succ, List.getD_cons_zero, List.getD_cons_succ, extrF_tup, binF_add, binF_sub, binF_mul, binF_eql, binF_neq, binF_lss, binF_leq, binF_gtr, binF_geq, true_and, l6 hP.le, hA.len]
    by_cases h0 : s = 0
    · have e : ((s : Int) == 0) = true := by rw [h0]; rfl
      simp only [e, condA_tt]
      have := hk _ hP
      rw [putL, if_pos (by omega)] at this
      exact endK_ret this
    have e : ((s : Int) == 0) = false := by rw [beq_eq_false_iff_ne]; omega
    have e2 : ((i : Int) == (All.length : Int)) = false := by rw [beq_eq_false_iff_ne]; omega
    simp only [e, condA_ff, e2]
    have hmost := most_least hc hplan
    have hls : leastK left (up p) left.length ≤ (s : Int) := by have := least_sum hc hplan; rw [← hs1, ← hll]; exact this
    obtain ⟨m1, m2, m3⟩ := mostK_le hc (p := p) p.length
    have hmm : mostK left p p.length = most left p := rfl
    rw [hmm] at m1 m2
    obtain ⟨M, hM⟩ : ∃ M : Nat, most left p = (M : Int) := ⟨(most left p).toNat, by omega⟩
    have hMs : M ≤ s := by omega
    have hbd := fun k => putK_bd rest p left (s : Int) k
    have hnum := hP_num (a := rest.length + 1 + 1) (s := (s : Int)) (by omega) (by omega)
    have hck : ∀ k : Nat, k ≤ M → chkT (takeT left (up p) (k : Int)) = 0 := fun k hk => chk_takeP hc hplan (by omega)
    have hrk : ∀ k : Nat, rowS (takeT left (up p) (k : Int)) 0 n = (s : Int) - k := fun k => by
      have := rowS_take (x := (k : Int)) hc hplan left.length (Nat.le_refl _)
      rw [hll, if_pos (hpl.2 _ (getD_mem (by rw [hpl.1]; omega))), hs1] at this
      exact this
    have hget : ∀ {H : Heap} (k : AV → Prop), B.le H → k (sl (up p)) → letO (idx 1 A (.int .i64 (i : Int))) fun q => letO (load1 q H) k := fun {H} k hle hk => hA.get hle (by omega) (by omega) (by rw [Int.toNat_natCast]; exact hpx) hk
    have hlen : lenA (sl (up p)) = some (.int .i64 (n : Int)) := by rw [(Reads.sl Heap.none _).len, up_length, hpl.1]
    -- numbers of a plan are changed, row by row
    refine ⟨fun L H' => eqt L [.int .i64 (putK rest p left (s : Int) M), .int .i64 M] ∧ PT B H' bo cells (takeT left (up p) M), ?_, ?_⟩
    · refine ⟨fun L H' => ∃ (k : Nat) (a : Int), eqt L [.int .i64 a, .int .i64 k] ∧ k ≤ M ∧ k < s ∧ PT B H' bo cells (takeT left (up p) k) ∧ a + putL rest (takeT left (up p) k) ((s : Int) - k) = putK rest p left s k ∧ 0 ≤ a ∧ a ≤ 1000000000000000000, fun L _ => (M - iv L 1).toNat,
        ⟨0, 0, rfl, by omega, by omega, by rw [show ((0 : Nat) : Int) = 0 from rfl, takeT_zero hfit]; exact hP, by rw [show ((0 : Nat) : Int) = 0 from rfl, takeT_zero hfit]; simp [putK], by omega, by omega⟩, ?_⟩
      rintro L H1 ⟨k, a, rfl, hkM, hks, hP1, ha, ha0, ha1⟩
      simp only [letO_some, cellsOf?_agg, cellsOf?_int, cellsOf?_bool, cellsOf?_imm, cellsOf?_ref, cellsOf?_nils, faddr_iptr, faddr_ptr, List.drop_succ_cons, List.drop_zero, List.take_succ_cons, List.take_zero, load1_iptr, loadN_iptr, List.length_cons, List.length_nil, Nat.le_refl, if_true, List.getElem?_cons_zero, List.getElem?_cons_succ, List.getD_cons_zero, List.getD_cons_succ, extrF_tup, binF_add, binF_sub, binF_mul, binF_eql, binF_neq, binF_lss, binF_leq, binF_gtr, binF_geq, true_and, l8 hP1.le]
      rw [wrap_i64 (n := (i : Int) + 1) (by omega) (by omega), show ((i : Int) + 1) = ((i + 1 : Nat) : Int) by omega, wrap_i64 (n := (s : Int) - k) (by omega) (by omega), show ((s : Int) - k) = ((s - k : Nat) : Int) by omega]
      simp only [callA_fn, List.cons_append, List.nil_append]
      refine ih (i + 1) _ (s - k) H1 _ hrest (by omega) (hck k hkM) (by rw [takeT_length]; exact hll) (by rw [hrk]; omega) (by omega) hP1 fun H2 hP2 => ?_
      have b1 := hbd k
      rw [show ((s - k : Nat) : Int) = (s : Int) - k by omega] at *
      simp only [letO_some, cellsOf?_agg, cellsOf?_int, cellsOf?_bool, cellsOf?_imm, cellsOf?_ref, cellsOf?_nils, faddr_iptr, faddr_ptr, List.drop_succ_cons, List.drop_zero, List.take_succ_cons, List.take_zero, load1_iptr, loadN_iptr, List.length_cons, List.length_nil, Nat.le_refl, if_true, List.getElem?_cons_zero, List.getElem?_cons_succ, List.getD_cons_zero, List.getD_cons_succ, extrF_tup, binF_add, binF_sub, binF_mul, binF_eql, binF_neq, binF_lss, binF_leq, binF_gtr, binF_geq, true_and, l7 hP2.le, l6 hP2.le]
      rw [ha, wrap_i64 (n := putK rest p left s k) (by omega) (by omega)]
      refine hget _ hP2.le ?_
      have hrt := hP2.rt none
      rw [takeT_length, hll] at hrt
      have hc2 := hck k hkM
      have hpl2 : isPlan (takeT left (up p) (k : Int)).length p := by rw [takeT_length]; exact hplan
      have hpr := prod_least hc2 hpl2
      have hlt2 := least_take hc hplan (k : Int)
      rw [takeT_length] at hpr
      rw [hlt2] at hpr
      refine c48 hrt (Reads.sl _ _) (by rw [up_length, hpl.1, takeT_length]; omega) (by rw [up_length, hpl.1]; omega) (fun r c => by have := cell_rng hc2 r c; omega) (fun r hr => by
        rw [up_length, hpl.1] at hr
        exact (hpl2.fit hc2).2 r (by rw [up_length, hpl.1]; exact hr)) ?_
      rw [up_length, hpl.1, ← hll]
      try simp only [letO_some, cellsOf?_agg, cellsOf?_int, cellsOf?_bool, cellsOf?_imm, cellsOf?_ref, cellsOf?_nils, faddr_iptr, faddr_ptr, List.drop_succ_cons, List.drop_zero, List.take_succ_cons, List.take_zero, load1_iptr, loadN_iptr, List.length_cons, List.length_nil, Nat.le_refl, if_true, List.getElem?_cons_zero, List.getElem?_cons_succ, List.getD_cons_zero, List.getD_cons_succ, extrF_tup, binF_add, binF_sub, binF_mul, binF_eql, binF_neq, binF_lss, binF_leq, binF_gtr, binF_geq, true_and]
      by_cases hkz : k = M
      · have e3 : (prodZ (takeT left (up p) (k : Int)) (up p) left.length == 0) = true := by
          rw [beq_iff_eq]; exact hpr.2 (by omega)
        simp only [e3, condA_tt]
        subst hkz
        exact ⟨rfl, hP2⟩
      · have e3 : (prodZ (takeT left (up p) (k : Int)) (up p) left.length == 0) = false := by
          rw [beq_eq_false_iff_ne]; intro h; have := hpr.1 h; omega
        simp only [e3, condA_ff, l6 hP2.le, letO_some]
        refine hget _ hP2.le ?_
        have hfk := hpl2.fit hc2
        simp only [hlen, letO_some]
        refine ⟨fun L H' => ∃ j : Nat, eqt L [.int .i64 j] ∧ j ≤ n ∧ PT B H' bo cells (takeK (takeT left (up p) (k : Int)) (up p) 1 j), fun L _ => (n - iv L 0).toNat, ⟨0, rfl, by omega, by rw [takeK_zero]; exact hP2⟩, ?_⟩
        rintro L H3 ⟨j, rfl, hj, hPj⟩
        try simp only [letO_some, cellsOf?_agg, cellsOf?_int, cellsOf?_bool, cellsOf?_imm, cellsOf?_ref, cellsOf?_nils, faddr_iptr, faddr_ptr, List.drop_succ_cons, List.drop_zero, List.take_succ_cons, List.take_zero, load1_iptr, loadN_iptr, List.length_cons, List.length_nil, Nat.le_refl, if_true, List.getElem?_cons_zero, List.getElem?_cons_succ, List.getD_cons_zero, List.getD_cons_succ, extrF_tup, binF_add, binF_sub, binF_mul, binF_eql, binF_neq, binF_lss, binF_leq, binF_gtr, binF_geq, true_and]
        refine condA_t (fun hltj => ?_) (fun hgej => ?_)
        · have b2 : j < n := by omega
          have hjl : j < (takeT left (up p) (k : Int)).length := by rw [takeT_length]; omega
          refine (Reads.sl H3 (up p)).get (Heap.le_refl _) (by omega) (by rw [up_length, hpl.1]; omega) ?_
          rw [Int.toNat_natCast, up_getD]
          simp only [letO_some, cellsOf?_agg, cellsOf?_int, cellsOf?_bool, cellsOf?_imm, cellsOf?_ref, cellsOf?_nils, faddr_iptr, faddr_ptr, List.drop_succ_cons, List.drop_zero, List.take_succ_cons, List.take_zero, load1_iptr, loadN_iptr, List.length_cons, List.length_nil, Nat.le_refl, if_true, List.getElem?_cons_zero, List.getElem?_cons_succ, List.getD_cons_zero, List.getD_cons_succ, extrF_tup, binF_add, binF_sub, binF_mul, binF_eql, binF_neq, binF_lss, binF_leq, binF_gtr, binF_geq, true_and, l7 hPj.le]
          have hfj := hfk.2 j (by rw [up_length, hpl.1]; exact b2)
          rw [up_getN] at hfj
          have hrow : (takeK (takeT left (up p) (k : Int)) (up p) 1 j).getD j [] = row (takeT left (up p) (k : Int)) j := by rw [takeK_get hjl, if_neg (by omega)]
          obtain ⟨w, q, q1, q2, q3, q4, q5⟩ := PT.cell none hPj (r := j) (c := p.getD j 0) (by simpa using hjl) (by rw [hrow]; exact hfj.2)
          rw [takeK_length, takeT_length, hll] at q1
          rw [hrow] at q4 q5
          rw [show (row (takeT left (up p) (k : Int)) j).getD (p.getD j 0) 0 = cell (takeT left (up p) (k : Int)) j (p.getD j 0) from rfl] at q4
          have hcb := cell_rng hc2 j (p.getD j 0)
          simp only [q1, q2, q3, q4, letO_some, cellsOf?_agg, cellsOf?_int, cellsOf?_bool, cellsOf?_imm, cellsOf?_ref, cellsOf?_nils, faddr_iptr, faddr_ptr, List.drop_succ_cons, List.drop_zero, List.take_succ_cons, List.take_zero, load1_iptr, loadN_iptr, List.length_cons, List.length_nil, Nat.le_refl, if_true, List.getElem?_cons_zero, List.getElem?_cons_succ, List.getD_cons_zero, List.getD_cons_succ, extrF_tup, binF_add, binF_sub, binF_mul, binF_eql, binF_neq, binF_lss, binF_leq, binF_gtr, binF_geq, true_and]
          rw [wrap_i64 (n := cell (takeT left (up p) (k : Int)) j (p.getD j 0) - 1) (by omega) (by omega)]
          refine q5 _ _ fun H4 hP4 => ?_
          rw [wrap_i64 (by omega) (by omega)]
          refine ⟨⟨j + 1, rfl, by omega, ?_⟩, by simp <;> omega⟩
          have hst := takeK_step (t := takeT left (up p) (k : Int)) (p := up p) (x := 1) (i := j) hjl
          rw [up_getN] at hst
          rw [hst] at hP4
          exact hP4
        · have hje : j = n := by omega
          subst hje
          have e4 : takeK (takeT left (up p) (k : Int)) (up p) 1 j = takeT left (up p) ((k + 1 : Nat) : Int) := by
            rw [takeK_full (by rw [up_length, hpl.1]), takeT_take hfit, Int.natCast_add]; rfl
          rw [e4] at hPj
          rw [wrap_i64 (by omega) (by omega), show ((k : Int) + 1) = ((k + 1 : Nat) : Int) by omega]
          have b3 := hbd (k + 1)
          have hsucc := putK_succ (rest := rest) (p := p) (t := left) (s := (s : Int)) (k := k)
          by_cases hk1 : k + 1 = s
          · have e5 : (((k + 1 : Nat) : Int) == (s : Int)) = true := by rw [hk1]; exact beq_self_eq_true _
            have hkM1 : k + 1 = M := by omega
            have hz : putL rest (takeT left (up p) ((k : Int) + 1)) ((s : Int) - k - 1) = 1 := by
              rw [show ((s : Int) - k - 1) = 0 by omega, putL_zero]
            simp only [e5, condA_tt, letO_some, cellsOf?_agg, cellsOf?_int, cellsOf?_bool, cellsOf?_imm, cellsOf?_ref, cellsOf?_nils, faddr_iptr, faddr_ptr, List.drop_succ_cons, List.drop_zero, List.take_succ_cons, List.take_zero, load1_iptr, loadN_iptr, List.length_cons, List.length_nil, Nat.le_refl, if_true, List.getElem?_cons_zero, List.getElem?_cons_succ, List.getD_cons_zero, List.getD_cons_succ, extrF_tup, binF_add, binF_sub, binF_mul, binF_eql, binF_neq, binF_lss, binF_leq, binF_gtr, binF_geq, true_and]
            rw [wrap_i64 (by omega) (by omega)]
            refine ⟨?_, by rw [← hkM1]; exact hPj⟩
            unfold eqt
            rw [← hkM1, hsucc, hz]
          · have e5 : (((k + 1 : Nat) : Int) == (s : Int)) = false := by rw [beq_eq_false_iff_ne]; omega
            simp only [e5, condA_ff]
            refine ⟨⟨k + 1, putK rest p left s k, rfl, by omega, by omega, hPj, ?_, by omega, by omega⟩, by simp <;> omega⟩
            rw [hsucc, show ((k + 1 : Nat) : Int) = (k : Int) + 1 by omega, show ((s : Int) - ((k : Int) + 1)) = (s : Int) - k - 1 by omega]
    · rintro L H1 ⟨rfl, hP1⟩
      simp only [letO_some, cellsOf?_agg, cellsOf?_int, cellsOf?_bool, cellsOf?_imm, cellsOf?_ref, cellsOf?_nils, faddr_iptr, faddr_ptr, List.drop_succ_cons, List.drop_zero, List.take_succ_cons, List.take_zero, load1_iptr, loadN_iptr, List.length_cons, List.length_nil, Nat.le_refl, if_true, List.getElem?_cons_zero, List.getElem?_cons_succ, List.getD_cons_zero, List.getD_cons_succ, extrF_tup, binF_add, binF_sub, binF_mul, binF_eql, binF_neq, binF_lss, binF_leq, binF_gtr, binF_geq, true_and, l6 hP1.le]
      refine hget _ hP1.le ?_
      have hc2 := hck M (Nat.le_refl _)
      have hpl2 : isPlan (takeT left (up p) (M : Int)).length p := by rw [takeT_length]; exact hplan
      have hfk := hpl2.fit hc2
      simp only [hlen, letO_some]
      refine ⟨fun L H' => ∃ j : Nat, eqt L [.int .i64 j] ∧ j ≤ n ∧ PT B H' bo cells (takeK (takeT left (up p) (M : Int)) (up p) (-(M : Int)) j), fun L _ => (n - iv L 0).toNat, ⟨0, rfl, by omega, by rw [takeK_zero]; exact hP1⟩, ?_⟩
      rintro L H3 ⟨j, rfl, hj, hPj⟩
      try simp only [letO_some, cellsOf?_agg, cellsOf?_int, cellsOf?_bool, cellsOf?_imm, cellsOf?_ref, cellsOf?_nils, faddr_iptr, faddr_ptr, List.drop_succ_cons, List.drop_zero, List.take_succ_cons, List.take_zero, load1_iptr, loadN_iptr, List.length_cons, List.length_nil, Nat.le_refl, if_true, List.getElem?_cons_zero, List.getElem?_cons_succ, List.getD_cons_zero, List.getD_cons_succ, extrF_tup, binF_add, binF_sub, binF_mul, binF_eql, binF_neq, binF_lss, binF_leq, binF_gtr, binF_geq, true_and]
      refine condA_t (fun hltj => ?_) (fun hgej => ?_)
      · have b2 : j < n := by omega
        have hjl : j < (takeT left (up p) (M : Int)).length := by rw [takeT_length]; omega
        refine (Reads.sl H3 (up p)).get (Heap.le_refl _) (by omega) (by rw [up_length, hpl.1]; omega) ?_
        rw [Int.toNat_natCast, up_getD]
        simp only [letO_some, cellsOf?_agg, cellsOf?_int, cellsOf?_bool, cellsOf?_imm, cellsOf?_ref, cellsOf?_nils, faddr_iptr, faddr_ptr, List.drop_succ_cons, List.drop_zero, List.take_succ_cons, List.take_zero, load1_iptr, loadN_iptr, List.length_cons, List.length_nil, Nat.le_refl, if_true, List.getElem?_cons_zero, List.getElem?_cons_succ, List.getD_cons_zero, List.getD_cons_succ, extrF_tup, binF_add, binF_sub, binF_mul, binF_eql, binF_neq, binF_lss, binF_leq, binF_gtr, binF_geq, true_and, l7 hPj.le]
        have hfj := hfk.2 j (by rw [up_length, hpl.1]; exact b2)
        rw [up_getN] at hfj
        have hrow : (takeK (takeT left (up p) (M : Int)) (up p) (-(M : Int)) j).getD j [] = row (takeT left (up p) (M : Int)) j := by rw [takeK_get hjl, if_neg (by omega)]
        obtain ⟨w, q, q1, q2, q3, q4, q5⟩ := PT.cell none hPj (r := j) (c := p.getD j 0) (by simpa using hjl) (by rw [hrow]; exact hfj.2)
        rw [takeK_length, takeT_length, hll] at q1
        rw [hrow] at q4 q5
        rw [show (row (takeT left (up p) (M : Int)) j).getD (p.getD j 0) 0 = cell (takeT left (up p) (M : Int)) j (p.getD j 0) from rfl] at q4
        have hcb := cell_rng hc2 j (p.getD j 0)
        simp only [q1, q2, q3, q4, letO_some, cellsOf?_agg, cellsOf?_int, cellsOf?_bool, cellsOf?_imm, cellsOf?_ref, cellsOf?_nils, faddr_iptr, faddr_ptr, List.drop_succ_cons, List.drop_zero, List.take_succ_cons, List.take_zero, load1_iptr, loadN_iptr, List.length_cons, List.length_nil, Nat.le_refl, if_true, List.getElem?_cons_zero, List.getElem?_cons_succ, List.getD_cons_zero, List.getD_cons_succ, extrF_tup, binF_add, binF_sub, binF_mul, binF_eql, binF_neq, binF_lss, binF_leq, binF_gtr, binF_geq, true_and]
        rw [wrap_i64 (n := cell (takeT left (up p) (M : Int)) j (p.getD j 0) + M) (by omega) (by omega)]
        refine q5 _ _ fun H4 hP4 => ?_
        rw [wrap_i64 (by omega) (by omega)]
        refine ⟨⟨j + 1, rfl, by omega, ?_⟩, by simp <;> omega⟩
        have hst := takeK_step (t := takeT left (up p) (M : Int)) (p := up p) (x := -(M : Int)) (i := j) hjl
        rw [up_getN, show cell (takeT left (up p) (M : Int)) j (p.getD j 0) - -(M : Int) = cell (takeT left (up p) (M : Int)) j (p.getD j 0) + M by omega] at hst
        rw [hst] at hP4
        exact hP4
      · have hje : j = n := by omega
        subst hje
        have e4 : takeK (takeT left (up p) (M : Int)) (up p) (-(M : Int)) j = left := by
          rw [takeK_full (by rw [up_length, hpl.1]), takeT_take hfit, Int.add_right_neg, takeT_zero hfit]
        rw [e4] at hPj
        have := hk _ hPj
        rw [putL, if_neg (by omega), hM, Int.toNat_natCast] at this
        exact endK_ret this
end Go.Proofs.YtbofkeoebnjjkaaDoor

namespace Go.Proofs.YtbofkeoebnjjkaaDoor
open Go.Av Tab
set_option linter.unusedVariables false
set_option linter.unusedSimpArgs false
set_option maxRecDepth 4000

theorem all_any_not {α : Type} {p q : α → Bool} : ∀ l : List α, (∀ x, p x = !q x) → l.all p = !l.any q
  | [], _ => rfl
  | a :: l, h => by rw [List.all_cons, List.any_cons, Bool.not_or, h a, all_any_not l h]
/-- Columns so far that have 0 in all of some rows. -/
def zerosI (t : Tb) (s i : Nat) : List Nat := (List.range i).filter fun c => (lst s).all fun r => decide (cell t r c = 0)
theorem zerosI_end {t : Tb} {s : Nat} : zerosI t s t.length = zerosZ t (up (lst s)) := by
  unfold zerosI zerosZ up
  refine List.filter_congr fun c _ => ?_
  rw [List.all_map]
  rfl
theorem zerosI_succ {t : Tb} (hc : chkT t = 0) {s i : Nat} : zerosI t s (i + 1) = zerosI t s i ++ if (up (lst s)).any (fun r => decide (0 < cell t r.toNat i)) then [] else [i] := by
  unfold zerosI
  rw [List.range_succ, List.filter_append]
  congr 1
  have e : (lst s).all (fun r => decide (cell t r i = 0)) = !((up (lst s)).any fun r => decide (0 < cell t r.toNat i)) := by
    unfold up
    rw [List.any_map]
    refine all_any_not _ fun r => ?_
    have := (cell_rng hc r i).1
    simp only [Function.comp, Int.toNat_natCast]
    by_cases h : cell t r i = 0
    · simp [h]
    · have : 0 < cell t r i := by omega
      simp [h, this]
  cases h : (up (lst s)).any (fun r => decide (0 < cell t r.toNat i)) with
  | true => rw [h] at e; simp [e]
  | false => rw [h] at e; simp [e]
theorem zerosI_len (t : Tb) (s i : Nat) : (zerosI t s i).length ≤ i := Nat.le_trans (List.length_filter_le _ _) (by simp)
theorem BS.le {H H' : Heap} (hl : H.le H') {t : Tb} {b : Option Nat} {R C : AV} (h : BS H t b R C) : BS H' t b R C := by
  rcases h with h | ⟨s, h1, h2, h3, h4, h5⟩
  · exact .inl h
  · exact .inr ⟨s, h1, h2, h3, h4.le hl, h5.le hl⟩
theorem lst_len4 (s : Nat) : (lst s).length ≤ 4 := Nat.le_trans (List.length_filter_le _ _) (by simp)
/-- TableBlocked -/
theorem c8 {g : List Nat} {H : Heap} {K : AV → Heap → Prop} (hg : Led g) (hk : K (.bool true) H) : ACalls Tryd.prog 8 [.agg (u8s g)] H K := by
  apply W8_ok
  unfold W8
  obtain ⟨n1, n2⟩ := gsz_bd g
  have hchk := freeT_chk g
  have hlen := freeT_length g
  simp only [letO_some, cellsOf?_agg, cellsOf?_int, cellsOf?_bool, cellsOf?_imm, cellsOf?_ref, cellsOf?_nils, faddr_iptr, faddr_ptr, List.drop_succ_cons, List.drop_zero, List.take_succ_cons, List.take_zero, load1_iptr, loadN_iptr, List.length_cons, List.length_nil, Nat.le_refl, if_true, List.getElem?_cons_zero, List.getElem?_cons_succ, List.getD_cons_zero, List.getD_cons_succ, extrF_tup, binF_add, binF_sub, binF_mul, binF_eql, binF_neq, binF_lss, binF_leq, binF_gtr, binF_geq, true_and, hg.all]
  refine c54 hg ?_
  have hvl := (RT.tl H (freeT g)).len
  have hrl : ∀ r, r < gsz g → (row (freeT g) r).length = gsz g := fun r hr => by rw [← hlen]; exact row_len hchk (by rw [hlen]; exact hr)
  generalize freeT g = t at *
  generalize gsz g = n at *
  have hsl : ∀ l ∈ t, l.length < 2 ^ 63 := fun l hl => Nat.lt_of_le_of_lt (Nat.le_trans (Nat.le_of_eq ((chkT_ok hchk).2.2 l hl).1) (chkT_ok hchk).2.1) (by decide)
  refine alloc_store (cs := [tl t]) rfl rfl rfl rfl fun b3 hb3 => ?_
  have hle3 := Heap.le_new (c := [tl t]) hb3
  have h3 : (H.put b3 [tl t]) b3 = some [tl t] := Heap.put_same
  generalize H.put b3 [tl t] = B at *
  have l3 : ∀ {H' : Heap}, B.le H' → load1 (.ptr b3 0) H' = some (tl t) := fun h => load_cell (h _ _ h3)
  simp only [letO_some, cellsOf?_agg, cellsOf?_int, cellsOf?_bool, cellsOf?_imm, cellsOf?_ref, cellsOf?_nils, faddr_iptr, faddr_ptr, List.drop_succ_cons, List.drop_zero, List.take_succ_cons, List.take_zero, load1_iptr, loadN_iptr, List.length_cons, List.length_nil, Nat.le_refl, if_true, List.getElem?_cons_zero, List.getElem?_cons_succ, List.getD_cons_zero, List.getD_cons_succ, extrF_tup, binF_add, binF_sub, binF_mul, binF_eql, binF_neq, binF_lss, binF_leq, binF_gtr, binF_geq, true_and, l3 (Heap.le_refl _), hvl, hlen]
  refine c45 ⟨n1, n2⟩ ?_
  have hPl := plansS_len n2
  have hPm : ∀ p ∈ plansS n, isPlan n p := fun p hp => plansS_mem hp
  have hPL := (RT.tl B ((plansS n).map up)).len
  have hW : withinS t = (plansS n).filter fun p => decide (0 < leastK t (up p) t.length) := by rw [withinS, hlen]
  generalize hPP : plansS n = P at *
  rw [List.length_map] at hPL
  simp only [letO_some, cellsOf?_agg, cellsOf?_int, cellsOf?_bool, cellsOf?_imm, cellsOf?_ref, cellsOf?_nils, faddr_iptr, faddr_ptr, List.drop_succ_cons, List.drop_zero, List.take_succ_cons, List.take_zero, load1_iptr, loadN_iptr, List.length_cons, List.length_nil, Nat.le_refl, if_true, List.getElem?_cons_zero, List.getElem?_cons_succ, List.getD_cons_zero, List.getD_cons_succ, extrF_tup, binF_add, binF_sub, binF_mul, binF_eql, binF_neq, binF_lss, binF_leq, binF_gtr, binF_geq, true_and, hPL]
  have hFl : ∀ i, ((P.take i).filter fun p => decide (0 < leastK t (up p) t.length)).length ≤ 256 := fun i => Nat.le_trans (List.length_filter_le _ _) (by rw [List.length_take]; omega)
  refine ⟨fun L H' => ∃ (i : Nat) (X : AV), eqt L [X, .int .i64 i] ∧ i ≤ P.length ∧ Grow 1 B H' X ((P.take i).filter fun p => decide (0 < leastK t (up p) t.length)).length (((P.take i).filter fun p => decide (0 < leastK t (up p) t.length)).map fun p => sl (up p)), fun L _ => (P.length - iv L 1).toNat, ⟨0, .nils, rfl, by omega, Grow.nils 1 B⟩, ?_⟩
  rintro L H1 ⟨i, X, rfl, hi, hX⟩
  try simp only [letO_some, cellsOf?_agg, cellsOf?_int, cellsOf?_bool, cellsOf?_imm, cellsOf?_ref, cellsOf?_nils, faddr_iptr, faddr_ptr, List.drop_succ_cons, List.drop_zero, List.take_succ_cons, List.take_zero, load1_iptr, loadN_iptr, List.length_cons, List.length_nil, Nat.le_refl, if_true, List.getElem?_cons_zero, List.getElem?_cons_succ, List.getD_cons_zero, List.getD_cons_succ, extrF_tup, binF_add, binF_sub, binF_mul, binF_eql, binF_neq, binF_lss, binF_leq, binF_gtr, binF_geq, true_and]
  refine condA_t (fun hlt => ?_) (fun hge => ?_)
  · have a1 : i < P.length := by omega
    have hget : ∀ {H : Heap} (k : AV → Prop), k (sl (up P[i])) → letO (idx 1 (tl (P.map up)) (.int .i64 (i : Int))) fun q => letO (load1 q H) k := by
      intro H k hk
      refine ReadsC.get (Heap.le_refl H) (n := P.length) (cells := (P.map up).map sl) ⟨by simp, by simp [tl]⟩ (x := sl (up P[i])) (by omega) (by omega) ?_ hk
      simp [a1]
    have hp := hPm P[i] (List.getElem_mem a1)
    have hpl : isPlan t.length P[i] := by rw [hlen]; exact hp
    have hpr := prod_least hchk hpl
    obtain ⟨z1, z2⟩ := prodZ_bd (t := t) (B := 9) (fun r c => cell_rng hchk r c) (up P[i]) t.length
    have hstep : ((P.take (i + 1)).filter fun p => decide (0 < leastK t (up p) t.length)) = ((P.take i).filter fun p => decide (0 < leastK t (up p) t.length)) ++ if 0 < leastK t (up P[i]) t.length then [P[i]] else [] := by
      rw [List.take_add_one, List.getElem?_eq_getElem a1, List.filter_append]
      by_cases h : 0 < leastK t (up P[i]) t.length <;> simp [h]
    have hfi := hFl i
    refine ⟨fun L H' => ∃ X', eqt L [X'] ∧ Grow 1 B H' X' ((P.take (i + 1)).filter fun p => decide (0 < leastK t (up p) t.length)).length (((P.take (i + 1)).filter fun p => decide (0 < leastK t (up p) t.length)).map fun p => sl (up p)), ?_, ?_⟩
    · refine hget _ ?_
      simp only [l3 hX.le, letO_some]
      refine c48 (RT.tl _ _) (Reads.sl _ _) (by rw [up_length, hpl.1]; omega) (by rw [up_length, hpl.1, hlen]; omega) (fun r c => by have := cell_rng hchk r c; omega) (fun r hr => by
        rw [up_length, hpl.1] at hr
        exact (hpl.fit hchk).2 r (by rw [up_length, hpl.1]; exact hr)) ?_
      rw [up_length, hpl.1]
      try simp only [letO_some, cellsOf?_agg, cellsOf?_int, cellsOf?_bool, cellsOf?_imm, cellsOf?_ref, cellsOf?_nils, faddr_iptr, faddr_ptr, List.drop_succ_cons, List.drop_zero, List.take_succ_cons, List.take_zero, load1_iptr, loadN_iptr, List.length_cons, List.length_nil, Nat.le_refl, if_true, List.getElem?_cons_zero, List.getElem?_cons_succ, List.getD_cons_zero, List.getD_cons_succ, extrF_tup, binF_add, binF_sub, binF_mul, binF_eql, binF_neq, binF_lss, binF_leq, binF_gtr, binF_geq, true_and]
      obtain ⟨j, q1, q2⟩ := leastK_in (t := t) (p := up P[i]) t.length (by omega)
      have hl0 := (cell_rng hchk j ((up P[i]).getD j 0).toNat).1
      refine condA_t (fun hpos => ?_) (fun hnp => ?_)
      · rw [hstep, if_pos (by have : leastK t (up P[i]) t.length ≠ 0 := fun h => by have := hpr.2 h; omega
                              omega)]
        simp only [l22 (show cellsOf? (sl (up P[i])) = some [sl (up P[i])] from rfl), letO_some]
        refine appendA_grow hX (m := 1) (new := [sl (up P[i])]) (by simp [srcOf]) rfl rfl (by omega) (by omega) fun v' H14 g14 => ?_
        exact ⟨v', rfl, by simpa using g14⟩
      · rw [hstep, if_neg (by have : leastK t (up P[i]) t.length = 0 := hpr.1 (by omega)
                              omega), List.append_nil]
        exact ⟨X, rfl, hX⟩
    · rintro L H2 ⟨X', rfl, hX'⟩
      try simp only [letO_some, cellsOf?_agg, cellsOf?_int, cellsOf?_bool, cellsOf?_imm, cellsOf?_ref, cellsOf?_nils, faddr_iptr, faddr_ptr, List.drop_succ_cons, List.drop_zero, List.take_succ_cons, List.take_zero, load1_iptr, loadN_iptr, List.length_cons, List.length_nil, Nat.le_refl, if_true, List.getElem?_cons_zero, List.getElem?_cons_succ, List.getD_cons_zero, List.getD_cons_succ, extrF_tup, binF_add, binF_sub, binF_mul, binF_eql, binF_neq, binF_lss, binF_leq, binF_gtr, binF_geq, true_and]
      rw [wrap_i64 (by omega) (by omega)]
      exact ⟨⟨i + 1, X', rfl, by omega, hX'⟩, by simp <;> omega⟩
  have hie : i = P.length := by omega
  subst hie
  rw [List.take_length, ← hW] at hX
  have hWl : (withinS t).length ≤ 256 := by rw [hW]; exact Nat.le_trans (List.length_filter_le _ _) hPl
  have h16 : 2 ^ n ≤ 16 := by
    have : 2 ^ n ≤ 2 ^ 4 := Nat.pow_le_pow_right (by omega) n2
    have e : 2 ^ 4 = 16 := by decide
    omega
  have hb1' : ∀ s, s < 2 ^ n → s < 16 := fun s h => Nat.lt_of_lt_of_le h h16
  simp only [shl_i64 n2, letO_some]
  obtain ⟨N, hN⟩ : ∃ N : Nat, 2 ^ n = N := ⟨_, rfl⟩
  rw [hN] at h16
  simp only [hN]
  -- all sets of rows
  refine ⟨fun L H' => ∃ (s : Nat) (R C : AV), eqt L [R, C, .int .i64 s] ∧ s ≤ N ∧ H1.le H' ∧ BS H' t (barF t s) R C, fun L _ => ((N : Int) - iv L 2).toNat, ⟨0, .nils, .nils, rfl, by omega, Heap.le_refl _, .inl ⟨rfl, rfl, rfl⟩⟩, ?_⟩
  rintro L H2 ⟨s, R, C, rfl, hs, hle2, hBS⟩
  try simp only [letO_some, cellsOf?_agg, cellsOf?_int, cellsOf?_bool, cellsOf?_imm, cellsOf?_ref, cellsOf?_nils, faddr_iptr, faddr_ptr, List.drop_succ_cons, List.drop_zero, List.take_succ_cons, List.take_zero, load1_iptr, loadN_iptr, List.length_cons, List.length_nil, Nat.le_refl, if_true, List.getElem?_cons_zero, List.getElem?_cons_succ, List.getD_cons_zero, List.getD_cons_succ, extrF_tup, binF_add, binF_sub, binF_mul, binF_eql, binF_neq, binF_lss, binF_leq, binF_gtr, binF_geq, true_and]
  refine condA_t (fun hlt2 => ?_) (fun hge2 => ?_)
  · have b0 : s < N := by omega
    have b1 : s < 2 ^ n := by rw [hN]; exact b0
    refine ⟨fun L H' => ∃ R C : AV, eqt L [R, C] ∧ H1.le H' ∧ BS H' t (barF t (s + 1)) R C, ?_, ?_⟩
    · refine ⟨fun L H' => ∃ (k : Nat) (A : AV), eqt L [A, .int .i64 k] ∧ k ≤ n ∧ Grow 1 H2 H' A (bitL s k).length (ints (up (bitL s k))), fun L _ => (n - iv L 1).toNat, ⟨0, .nils, rfl, by omega, Grow.nils 1 H2⟩, ?_⟩
      rintro L H3 ⟨k, A, rfl, hk4, hA⟩
      try simp only [letO_some, cellsOf?_agg, cellsOf?_int, cellsOf?_bool, cellsOf?_imm, cellsOf?_ref, cellsOf?_nils, faddr_iptr, faddr_ptr, List.drop_succ_cons, List.drop_zero, List.take_succ_cons, List.take_zero, load1_iptr, loadN_iptr, List.length_cons, List.length_nil, Nat.le_refl, if_true, List.getElem?_cons_zero, List.getElem?_cons_succ, List.getD_cons_zero, List.getD_cons_succ, extrF_tup, binF_add, binF_sub, binF_mul, binF_eql, binF_neq, binF_lss, binF_leq, binF_gtr, binF_geq, true_and]
      refine condA_t (fun hlt3 => ?_) (fun hge3 => ?_)
      · have c1 : k < n := by omega
        have hbl := bitL_len s k
        refine ⟨fun L H' => ∃ A' : AV, eqt L [A'] ∧ Grow 1 H2 H' A' (bitL s (k + 1)).length (ints (up (bitL s (k + 1)))), ?_, ?_⟩
        · simp only [shr_i64 (show s < 16 by omega) (show k < 4 by omega), letO_some, and_i64 (show s / 2 ^ k < 16 from Nat.lt_of_le_of_lt (Nat.div_le_self _ _) (by omega)), binF_eql, bit_eq, bitL_succ]
          cases hb : s.testBit k with
          | true =>
            simp only [condA_tt, l23 cellsOf?_int, letO_some, if_true]
            refine appendA_oneR hA (by omega) fun v' H6 hg6 _ => ?_
            refine ⟨v', rfl, ?_⟩
            have e : up (bitL s k ++ [k]) = up (bitL s k) ++ [(k : Int)] := by simp [up]
            rw [e, List.length_append]
            exact hg6
          | false =>
            simp only [condA_ff, Bool.false_eq_true, if_false, List.append_nil]
            exact ⟨A, rfl, hA⟩
        · rintro L H6 ⟨A', rfl, hA'⟩
          try simp only [letO_some, cellsOf?_agg, cellsOf?_int, cellsOf?_bool, cellsOf?_imm, cellsOf?_ref, cellsOf?_nils, faddr_iptr, faddr_ptr, List.drop_succ_cons, List.drop_zero, List.take_succ_cons, List.take_zero, load1_iptr, loadN_iptr, List.length_cons, List.length_nil, Nat.le_refl, if_true, List.getElem?_cons_zero, List.getElem?_cons_succ, List.getD_cons_zero, List.getD_cons_succ, extrF_tup, binF_add, binF_sub, binF_mul, binF_eql, binF_neq, binF_lss, binF_leq, binF_gtr, binF_geq, true_and]
          rw [wrap_i64 (by omega) (by omega)]
          exact ⟨⟨k + 1, A', rfl, by omega, hA'⟩, by simp <;> omega⟩
      have hkn : k = n := by omega
      subst hkn
      have hbe : bitL s k = lst s := lst_bitL ⟨k, by omega⟩ ⟨s, by omega⟩ b1
      rw [hbe] at hA
      have hRA := hA.reads
      have hleA := hA.le
      clear hA hbe
      -- the columns
      refine ⟨fun L H' => ∃ (c : Nat) (Z : AV) (Hb : Heap), eqt L [Z, .int .i64 c] ∧ c ≤ k ∧ H3.le Hb ∧ Grow 1 Hb H' Z (zerosI t s c).length (ints (up (zerosI t s c))), fun L _ => (k - iv L 1).toNat, ⟨0, .nils, H3, rfl, by omega, Heap.le_refl _, Grow.nils 1 H3⟩, ?_⟩
      rintro L H4 ⟨c, Z, Hb, rfl, hc, hleb, hZ⟩
      try simp only [letO_some, cellsOf?_agg, cellsOf?_int, cellsOf?_bool, cellsOf?_imm, cellsOf?_ref, cellsOf?_nils, faddr_iptr, faddr_ptr, List.drop_succ_cons, List.drop_zero, List.take_succ_cons, List.take_zero, load1_iptr, loadN_iptr, List.length_cons, List.length_nil, Nat.le_refl, if_true, List.getElem?_cons_zero, List.getElem?_cons_succ, List.getD_cons_zero, List.getD_cons_succ, extrF_tup, binF_add, binF_sub, binF_mul, binF_eql, binF_neq, binF_lss, binF_leq, binF_gtr, binF_geq, true_and]
      refine condA_t (fun hlt4 => ?_) (fun hge4 => ?_)
      · have d1 : c < k := by omega
        have hzl := zerosI_len t s c
        refine ⟨fun L H' => ∃ (Z' : AV) (Hb : Heap), eqt L [Z'] ∧ H3.le Hb ∧ Grow 1 Hb H' Z' (zerosI t s (c + 1)).length (ints (up (zerosI t s (c + 1)))), ?_, ?_⟩
        · refine alloc_store (cs := [.int .i64 (c : Int)]) rfl rfl rfl rfl fun b4 hb4 => ?_
          have hZ4 := alloc_grow (cs := [.int .i64 (c : Int)]) hZ hb4
          have hleb4 : H3.le (Hb.put b4 [.int .i64 (c : Int)]) := Heap.le_trans hleb (Heap.le_new (fresh_of hZ.le hb4))
          have h4 : (H4.put b4 [.int .i64 (c : Int)]) b4 = some [.int .i64 (c : Int)] := Heap.put_same
          generalize Hb.put b4 [.int .i64 (c : Int)] = Hb4 at *
          generalize H4.put b4 [.int .i64 (c : Int)] = H5 at *
          have hle5 : B.le H5 := Heap.le_trans hX.le (Heap.le_trans hle2 (Heap.le_trans hleA (Heap.le_trans hleb4 hZ4.le)))
          try simp only [letO_some, cellsOf?_agg, cellsOf?_int, cellsOf?_bool, cellsOf?_imm, cellsOf?_ref, cellsOf?_nils, faddr_iptr, faddr_ptr, List.drop_succ_cons, List.drop_zero, List.take_succ_cons, List.take_zero, load1_iptr, loadN_iptr, List.length_cons, List.length_nil, Nat.le_refl, if_true, List.getElem?_cons_zero, List.getElem?_cons_succ, List.getD_cons_zero, List.getD_cons_succ, extrF_tup, binF_add, binF_sub, binF_mul, binF_eql, binF_neq, binF_lss, binF_leq, binF_gtr, binF_geq, true_and]
          refine c55 (p := fun r => decide (0 < cell t r.toNat c)) (hRA.le (Heap.le_trans hleb4 hZ4.le)) (by rw [up_length]; have := lst_len4 s; omega) (fun x hx K hK => ?_) ?_
          · obtain ⟨r, hr, rfl⟩ := List.mem_map.1 hx
            have hrn := lst_mem b1 hr
            refine c56 (hle5 _ _ h3) (RT.tl _ t) h4 (by omega) (by rw [show t.getD r [] = row t r from rfl, hrl r hrn]; exact d1) ?_
            rw [Int.toNat_natCast] at hK
            exact hK
          rw [zerosI_succ hchk]
          cases hany : (up (lst s)).any fun r => decide (0 < cell t r.toNat c) with
          | true =>
            simp only [not_v, letO_some, Bool.not_true, condA_ff, if_true, List.append_nil]
            exact ⟨Z, Hb4, rfl, hleb4, hZ4⟩
          | false =>
            simp only [not_v, letO_some, Bool.not_false, condA_tt, Bool.false_eq_true, if_false, load_cell h4, l23 cellsOf?_int]
            refine appendA_oneR hZ4 (by omega) fun v' H6 hg6 _ => ?_
            refine ⟨v', Hb4, rfl, hleb4, ?_⟩
            have e : up (zerosI t s c ++ [c]) = up (zerosI t s c) ++ [(c : Int)] := by simp [up]
            rw [e, List.length_append]
            exact hg6
        · rintro L H6 ⟨Z', Hb', rfl, h5, h6⟩
          try simp only [letO_some, cellsOf?_agg, cellsOf?_int, cellsOf?_bool, cellsOf?_imm, cellsOf?_ref, cellsOf?_nils, faddr_iptr, faddr_ptr, List.drop_succ_cons, List.drop_zero, List.take_succ_cons, List.take_zero, load1_iptr, loadN_iptr, List.length_cons, List.length_nil, Nat.le_refl, if_true, List.getElem?_cons_zero, List.getElem?_cons_succ, List.getD_cons_zero, List.getD_cons_succ, extrF_tup, binF_add, binF_sub, binF_mul, binF_eql, binF_neq, binF_lss, binF_leq, binF_gtr, binF_geq, true_and]
          rw [wrap_i64 (by omega) (by omega)]
          exact ⟨⟨c + 1, Z', Hb', rfl, by omega, h5, h6⟩, by simp <;> omega⟩
      have hcn : c = k := by omega
      subst hcn
      have hze : zerosI t s c = zerosZ t (up (lst s)) := by rw [← hlen]; exact zerosI_end
      rw [hze] at hZ
      have hRZ := hZ.reads
      have hle4 := Heap.le_trans hleb hZ.le
      have hRA4 := hRA.le hle4
      have hBS4 := hBS.le (Heap.le_trans hleA hle4)
      have hle14 := Heap.le_trans hle2 (Heap.le_trans hleA hle4)
      have hzl : (zerosZ t (up (lst s))).length ≤ 4 := by rw [← hze]; have := zerosI_len t s c; omega
      have hal := lst_len4 s
      have hpop : popN (zerosN t s) = (zerosZ t (up (lst s))).length := by rw [popN, zeros_lst hchk]
      clear hZ hze
      have hstep : barF t (s + 1) = barStep t s (barF t s) := rfl
      rw [hstep]
      simp only [hRA4.len, hRZ.len, up_length, letO_some, cellsOf?_agg, cellsOf?_int, cellsOf?_bool, cellsOf?_imm, cellsOf?_ref, cellsOf?_nils, faddr_iptr, faddr_ptr, List.drop_succ_cons, List.drop_zero, List.take_succ_cons, List.take_zero, load1_iptr, loadN_iptr, List.length_cons, List.length_nil, Nat.le_refl, if_true, List.getElem?_cons_zero, List.getElem?_cons_succ, List.getD_cons_zero, List.getD_cons_succ, extrF_tup, binF_add, binF_sub, binF_mul, binF_eql, binF_neq, binF_lss, binF_leq, binF_gtr, binF_geq, true_and, gval_bool, Int.reduceBNe, Int.reduceBEq, pickF_true, pickF_false, reduceIte, Bool.true_eq_false, Bool.false_eq_true, if_false, condA_tt, condA_ff, condG_tt, condG_ff, condG_tt', condG_ff', condG_undef, gval_undef]
      have hbs : ∀ b, barStep t s b = if lst s = [] ∨ (lst s).length + (zerosZ t (up (lst s))).length ≤ t.length then b else match b with
          | none => some s
          | some b' => if (lst s).length < (lst b').length ∨ ((lst s).length = (lst b').length ∧ cmpL (up (lst s)) (up (lst b')) < 0) then some s else some b' := fun b => by
        unfold barStep; rw [hpop]; cases b <;> rfl
      by_cases h0 : lst s = []
      · have e : decide ((0 : Int) < ((lst s).length : Int)) = false := by rw [h0]; rfl
        have hst : barStep t s (barF t s) = barF t s := by rw [hbs, if_pos (.inl h0)]
        rw [hst]
        simp only [e, letO_some, cellsOf?_agg, cellsOf?_int, cellsOf?_bool, cellsOf?_imm, cellsOf?_ref, cellsOf?_nils, faddr_iptr, faddr_ptr, List.drop_succ_cons, List.drop_zero, List.take_succ_cons, List.take_zero, load1_iptr, loadN_iptr, List.length_cons, List.length_nil, Nat.le_refl, if_true, List.getElem?_cons_zero, List.getElem?_cons_succ, List.getD_cons_zero, List.getD_cons_succ, extrF_tup, binF_add, binF_sub, binF_mul, binF_eql, binF_neq, binF_lss, binF_leq, binF_gtr, binF_geq, true_and, gval_bool, Int.reduceBNe, Int.reduceBEq, pickF_true, pickF_false, reduceIte, Bool.true_eq_false, Bool.false_eq_true, if_false, condA_tt, condA_ff, condG_tt, condG_ff, condG_tt', condG_ff', condG_undef, gval_undef]
        refine exU ?_
        try simp only [letO_some, cellsOf?_agg, cellsOf?_int, cellsOf?_bool, cellsOf?_imm, cellsOf?_ref, cellsOf?_nils, faddr_iptr, faddr_ptr, List.drop_succ_cons, List.drop_zero, List.take_succ_cons, List.take_zero, load1_iptr, loadN_iptr, List.length_cons, List.length_nil, Nat.le_refl, if_true, List.getElem?_cons_zero, List.getElem?_cons_succ, List.getD_cons_zero, List.getD_cons_succ, extrF_tup, binF_add, binF_sub, binF_mul, binF_eql, binF_neq, binF_lss, binF_leq, binF_gtr, binF_geq, true_and, gval_bool, Int.reduceBNe, Int.reduceBEq, pickF_true, pickF_false, reduceIte, Bool.true_eq_false, Bool.false_eq_true, if_false, condA_tt, condA_ff, condG_tt, condG_ff, condG_tt', condG_ff', condG_undef, gval_undef]
        exact ⟨R, C, rfl, hle14, hBS4⟩
      have hlp := List.length_pos_iff.2 h0
      have e : decide ((0 : Int) < ((lst s).length : Int)) = true := decide_eq_true (by omega)
      simp only [e, letO_some, cellsOf?_agg, cellsOf?_int, cellsOf?_bool, cellsOf?_imm, cellsOf?_ref, cellsOf?_nils, faddr_iptr, faddr_ptr, List.drop_succ_cons, List.drop_zero, List.take_succ_cons, List.take_zero, load1_iptr, loadN_iptr, List.length_cons, List.length_nil, Nat.le_refl, if_true, List.getElem?_cons_zero, List.getElem?_cons_succ, List.getD_cons_zero, List.getD_cons_succ, extrF_tup, binF_add, binF_sub, binF_mul, binF_eql, binF_neq, binF_lss, binF_leq, binF_gtr, binF_geq, true_and, gval_bool, Int.reduceBNe, Int.reduceBEq, pickF_true, pickF_false, reduceIte, Bool.true_eq_false, Bool.false_eq_true, if_false, condA_tt, condA_ff, condG_tt, condG_ff, condG_tt', condG_ff', condG_undef, gval_undef, hRA4.len, hRZ.len, up_length]
      rw [wrap_i64 (by omega) (by omega)]
      by_cases hbig : (lst s).length + (zerosZ t (up (lst s))).length ≤ t.length
      · have e2 : decide ((c : Int) < ((lst s).length : Int) + ((zerosZ t (up (lst s))).length : Int)) = false := decide_eq_false (by omega)
        have hst : barStep t s (barF t s) = barF t s := by rw [hbs, if_pos (.inr hbig)]
        rw [hst]
        simp only [e2, letO_some, cellsOf?_agg, cellsOf?_int, cellsOf?_bool, cellsOf?_imm, cellsOf?_ref, cellsOf?_nils, faddr_iptr, faddr_ptr, List.drop_succ_cons, List.drop_zero, List.take_succ_cons, List.take_zero, load1_iptr, loadN_iptr, List.length_cons, List.length_nil, Nat.le_refl, if_true, List.getElem?_cons_zero, List.getElem?_cons_succ, List.getD_cons_zero, List.getD_cons_succ, extrF_tup, binF_add, binF_sub, binF_mul, binF_eql, binF_neq, binF_lss, binF_leq, binF_gtr, binF_geq, true_and, gval_bool, Int.reduceBNe, Int.reduceBEq, pickF_true, pickF_false, reduceIte, Bool.true_eq_false, Bool.false_eq_true, if_false, condA_tt, condA_ff, condG_tt, condG_ff, condG_tt', condG_ff', condG_undef, gval_undef]
        refine exU ?_
        try simp only [letO_some, cellsOf?_agg, cellsOf?_int, cellsOf?_bool, cellsOf?_imm, cellsOf?_ref, cellsOf?_nils, faddr_iptr, faddr_ptr, List.drop_succ_cons, List.drop_zero, List.take_succ_cons, List.take_zero, load1_iptr, loadN_iptr, List.length_cons, List.length_nil, Nat.le_refl, if_true, List.getElem?_cons_zero, List.getElem?_cons_succ, List.getD_cons_zero, List.getD_cons_succ, extrF_tup, binF_add, binF_sub, binF_mul, binF_eql, binF_neq, binF_lss, binF_leq, binF_gtr, binF_geq, true_and, gval_bool, Int.reduceBNe, Int.reduceBEq, pickF_true, pickF_false, reduceIte, Bool.true_eq_false, Bool.false_eq_true, if_false, condA_tt, condA_ff, condG_tt, condG_ff, condG_tt', condG_ff', condG_undef, gval_undef]
        exact ⟨R, C, rfl, hle14, hBS4⟩
      have e2 : decide ((c : Int) < ((lst s).length : Int) + ((zerosZ t (up (lst s))).length : Int)) = true := decide_eq_true (by omega)
      have hbs2 : ¬ (lst s = [] ∨ (lst s).length + (zerosZ t (up (lst s))).length ≤ t.length) := by
        rintro (h | h)
        · exact h0 h
        · exact hbig h
      have hnew : BS H4 t (some s) A Z := .inr ⟨s, rfl, h0, by omega, hRA4, hRZ⟩
      simp only [e2, letO_some, cellsOf?_agg, cellsOf?_int, cellsOf?_bool, cellsOf?_imm, cellsOf?_ref, cellsOf?_nils, faddr_iptr, faddr_ptr, List.drop_succ_cons, List.drop_zero, List.take_succ_cons, List.take_zero, load1_iptr, loadN_iptr, List.length_cons, List.length_nil, Nat.le_refl, if_true, List.getElem?_cons_zero, List.getElem?_cons_succ, List.getD_cons_zero, List.getD_cons_succ, extrF_tup, binF_add, binF_sub, binF_mul, binF_eql, binF_neq, binF_lss, binF_leq, binF_gtr, binF_geq, true_and, gval_bool, Int.reduceBNe, Int.reduceBEq, pickF_true, pickF_false, reduceIte, Bool.true_eq_false, Bool.false_eq_true, if_false, condA_tt, condA_ff, condG_tt, condG_ff, condG_tt', condG_ff', condG_undef, gval_undef]
      rcases hBS4 with ⟨hb, rfl, rfl⟩ | ⟨s', hb, g1, g2, g3, g4⟩
      · have hst : barStep t s (barF t s) = some s := by rw [hbs, if_neg hbs2, hb]
        rw [hst]
        simp only [nil_nil, letO_some, cellsOf?_agg, cellsOf?_int, cellsOf?_bool, cellsOf?_imm, cellsOf?_ref, cellsOf?_nils, faddr_iptr, faddr_ptr, List.drop_succ_cons, List.drop_zero, List.take_succ_cons, List.take_zero, load1_iptr, loadN_iptr, List.length_cons, List.length_nil, Nat.le_refl, if_true, List.getElem?_cons_zero, List.getElem?_cons_succ, List.getD_cons_zero, List.getD_cons_succ, extrF_tup, binF_add, binF_sub, binF_mul, binF_eql, binF_neq, binF_lss, binF_leq, binF_gtr, binF_geq, true_and, gval_bool, Int.reduceBNe, Int.reduceBEq, pickF_true, pickF_false, reduceIte, Bool.true_eq_false, Bool.false_eq_true, if_false, condA_tt, condA_ff, condG_tt, condG_ff, condG_tt', condG_ff', condG_undef, gval_undef]
        refine exU ?_
        try simp only [letO_some, cellsOf?_agg, cellsOf?_int, cellsOf?_bool, cellsOf?_imm, cellsOf?_ref, cellsOf?_nils, faddr_iptr, faddr_ptr, List.drop_succ_cons, List.drop_zero, List.take_succ_cons, List.take_zero, load1_iptr, loadN_iptr, List.length_cons, List.length_nil, Nat.le_refl, if_true, List.getElem?_cons_zero, List.getElem?_cons_succ, List.getD_cons_zero, List.getD_cons_succ, extrF_tup, binF_add, binF_sub, binF_mul, binF_eql, binF_neq, binF_lss, binF_leq, binF_gtr, binF_geq, true_and, gval_bool, Int.reduceBNe, Int.reduceBEq, pickF_true, pickF_false, reduceIte, Bool.true_eq_false, Bool.false_eq_true, if_false, condA_tt, condA_ff, condG_tt, condG_ff, condG_tt', condG_ff', condG_undef, gval_undef]
        exact ⟨A, Z, rfl, hle14, hnew⟩
      · have hold : BS H4 t (some s') R C := .inr ⟨s', rfl, g1, g2, g3, g4⟩
        have hl' := lst_len4 s'
        simp only [nilq g3 (fun h => g1 (by simpa [up] using h)), letO_some, cellsOf?_agg, cellsOf?_int, cellsOf?_bool, cellsOf?_imm, cellsOf?_ref, cellsOf?_nils, faddr_iptr, faddr_ptr, List.drop_succ_cons, List.drop_zero, List.take_succ_cons, List.take_zero, load1_iptr, loadN_iptr, List.length_cons, List.length_nil, Nat.le_refl, if_true, List.getElem?_cons_zero, List.getElem?_cons_succ, List.getD_cons_zero, List.getD_cons_succ, extrF_tup, binF_add, binF_sub, binF_mul, binF_eql, binF_neq, binF_lss, binF_leq, binF_gtr, binF_geq, true_and, gval_bool, Int.reduceBNe, Int.reduceBEq, pickF_true, pickF_false, reduceIte, Bool.true_eq_false, Bool.false_eq_true, if_false, condA_tt, condA_ff, condG_tt, condG_ff, condG_tt', condG_ff', condG_undef, gval_undef, hRA4.len, g3.len, up_length]
        by_cases hl1 : (lst s).length < (lst s').length
        · have e3 : decide (((lst s).length : Int) < ((lst s').length : Int)) = true := decide_eq_true (by omega)
          have hst : barStep t s (barF t s) = some s := by
            rw [hbs, if_neg hbs2, hb]
            simp only
            rw [if_pos (.inl hl1)]
          rw [hst]
          simp only [e3, letO_some, cellsOf?_agg, cellsOf?_int, cellsOf?_bool, cellsOf?_imm, cellsOf?_ref, cellsOf?_nils, faddr_iptr, faddr_ptr, List.drop_succ_cons, List.drop_zero, List.take_succ_cons, List.take_zero, load1_iptr, loadN_iptr, List.length_cons, List.length_nil, Nat.le_refl, if_true, List.getElem?_cons_zero, List.getElem?_cons_succ, List.getD_cons_zero, List.getD_cons_succ, extrF_tup, binF_add, binF_sub, binF_mul, binF_eql, binF_neq, binF_lss, binF_leq, binF_gtr, binF_geq, true_and, gval_bool, Int.reduceBNe, Int.reduceBEq, pickF_true, pickF_false, reduceIte, Bool.true_eq_false, Bool.false_eq_true, if_false, condA_tt, condA_ff, condG_tt, condG_ff, condG_tt', condG_ff', condG_undef, gval_undef]
          refine exU ?_
          try simp only [letO_some, cellsOf?_agg, cellsOf?_int, cellsOf?_bool, cellsOf?_imm, cellsOf?_ref, cellsOf?_nils, faddr_iptr, faddr_ptr, List.drop_succ_cons, List.drop_zero, List.take_succ_cons, List.take_zero, load1_iptr, loadN_iptr, List.length_cons, List.length_nil, Nat.le_refl, if_true, List.getElem?_cons_zero, List.getElem?_cons_succ, List.getD_cons_zero, List.getD_cons_succ, extrF_tup, binF_add, binF_sub, binF_mul, binF_eql, binF_neq, binF_lss, binF_leq, binF_gtr, binF_geq, true_and, gval_bool, Int.reduceBNe, Int.reduceBEq, pickF_true, pickF_false, reduceIte, Bool.true_eq_false, Bool.false_eq_true, if_false, condA_tt, condA_ff, condG_tt, condG_ff, condG_tt', condG_ff', condG_undef, gval_undef]
          exact ⟨A, Z, rfl, hle14, hnew⟩
        have e3 : decide (((lst s).length : Int) < ((lst s').length : Int)) = false := decide_eq_false (by omega)
        simp only [e3, letO_some, cellsOf?_agg, cellsOf?_int, cellsOf?_bool, cellsOf?_imm, cellsOf?_ref, cellsOf?_nils, faddr_iptr, faddr_ptr, List.drop_succ_cons, List.drop_zero, List.take_succ_cons, List.take_zero, load1_iptr, loadN_iptr, List.length_cons, List.length_nil, Nat.le_refl, if_true, List.getElem?_cons_zero, List.getElem?_cons_succ, List.getD_cons_zero, List.getD_cons_succ, extrF_tup, binF_add, binF_sub, binF_mul, binF_eql, binF_neq, binF_lss, binF_leq, binF_gtr, binF_geq, true_and, gval_bool, Int.reduceBNe, Int.reduceBEq, pickF_true, pickF_false, reduceIte, Bool.true_eq_false, Bool.false_eq_true, if_false, condA_tt, condA_ff, condG_tt, condG_ff, condG_tt', condG_ff', condG_undef, gval_undef, hRA4.len, g3.len, up_length]
        by_cases hl2 : (lst s).length = (lst s').length
        · have e4 : (((lst s).length : Int) == ((lst s').length : Int)) = true := by rw [hl2]; exact beq_self_eq_true _
          simp only [e4, letO_some, cellsOf?_agg, cellsOf?_int, cellsOf?_bool, cellsOf?_imm, cellsOf?_ref, cellsOf?_nils, faddr_iptr, faddr_ptr, List.drop_succ_cons, List.drop_zero, List.take_succ_cons, List.take_zero, load1_iptr, loadN_iptr, List.length_cons, List.length_nil, Nat.le_refl, if_true, List.getElem?_cons_zero, List.getElem?_cons_succ, List.getD_cons_zero, List.getD_cons_succ, extrF_tup, binF_add, binF_sub, binF_mul, binF_eql, binF_neq, binF_lss, binF_leq, binF_gtr, binF_geq, true_and, gval_bool, Int.reduceBNe, Int.reduceBEq, pickF_true, pickF_false, reduceIte, Bool.true_eq_false, Bool.false_eq_true, if_false, condA_tt, condA_ff, condG_tt, condG_ff, condG_tt', condG_ff', condG_undef, gval_undef]
          refine exJ ?_
          refine c57 hRA4 g3 (by rw [up_length]; omega) ?_
          simp only [letO_some, cellsOf?_agg, cellsOf?_int, cellsOf?_bool, cellsOf?_imm, cellsOf?_ref, cellsOf?_nils, faddr_iptr, faddr_ptr, List.drop_succ_cons, List.drop_zero, List.take_succ_cons, List.take_zero, load1_iptr, loadN_iptr, List.length_cons, List.length_nil, Nat.le_refl, if_true, List.getElem?_cons_zero, List.getElem?_cons_succ, List.getD_cons_zero, List.getD_cons_succ, extrF_tup, binF_add, binF_sub, binF_mul, binF_eql, binF_neq, binF_lss, binF_leq, binF_gtr, binF_geq, true_and, gval_bool, Int.reduceBNe, Int.reduceBEq, pickF_true, pickF_false, reduceIte, Bool.true_eq_false, Bool.false_eq_true, if_false, condA_tt, condA_ff, condG_tt, condG_ff, condG_tt', condG_ff', condG_undef, gval_undef]
          by_cases hl3 : cmpL (up (lst s)) (up (lst s')) < 0
          · have hst : barStep t s (barF t s) = some s := by
              rw [hbs, if_neg hbs2, hb]
              simp only
              rw [if_pos (.inr ⟨hl2, hl3⟩)]
            rw [hst]
            simp only [decide_eq_true hl3, letO_some, cellsOf?_agg, cellsOf?_int, cellsOf?_bool, cellsOf?_imm, cellsOf?_ref, cellsOf?_nils, faddr_iptr, faddr_ptr, List.drop_succ_cons, List.drop_zero, List.take_succ_cons, List.take_zero, load1_iptr, loadN_iptr, List.length_cons, List.length_nil, Nat.le_refl, if_true, List.getElem?_cons_zero, List.getElem?_cons_succ, List.getD_cons_zero, List.getD_cons_succ, extrF_tup, binF_add, binF_sub, binF_mul, binF_eql, binF_neq, binF_lss, binF_leq, binF_gtr, binF_geq, true_and, gval_bool, Int.reduceBNe, Int.reduceBEq, pickF_true, pickF_false, reduceIte, Bool.true_eq_false, Bool.false_eq_true, if_false, condA_tt, condA_ff, condG_tt, condG_ff, condG_tt', condG_ff', condG_undef, gval_undef]
            exact ⟨A, Z, rfl, hle14, hnew⟩
          · have hst : barStep t s (barF t s) = some s' := by
              rw [hbs, if_neg hbs2, hb]
              simp only
              rw [if_neg]
              rintro (h | h)
              · exact hl1 h
              · exact hl3 h.2
            rw [hst]
            simp only [decide_eq_false hl3, letO_some, cellsOf?_agg, cellsOf?_int, cellsOf?_bool, cellsOf?_imm, cellsOf?_ref, cellsOf?_nils, faddr_iptr, faddr_ptr, List.drop_succ_cons, List.drop_zero, List.take_succ_cons, List.take_zero, load1_iptr, loadN_iptr, List.length_cons, List.length_nil, Nat.le_refl, if_true, List.getElem?_cons_zero, List.getElem?_cons_succ, List.getD_cons_zero, List.getD_cons_succ, extrF_tup, binF_add, binF_sub, binF_mul, binF_eql, binF_neq, binF_lss, binF_leq, binF_gtr, binF_geq, true_and, gval_bool, Int.reduceBNe, Int.reduceBEq, pickF_true, pickF_false, reduceIte, Bool.true_eq_false, Bool.false_eq_true, if_false, condA_tt, condA_ff, condG_tt, condG_ff, condG_tt', condG_ff', condG_undef, gval_undef]
            exact ⟨R, C, rfl, hle14, hold⟩
        · have e4 : (((lst s).length : Int) == ((lst s').length : Int)) = false := by rw [beq_eq_false_iff_ne]; omega
          have hst : barStep t s (barF t s) = some s' := by
            rw [hbs, if_neg hbs2, hb]
            simp only
            rw [if_neg]
            rintro (h | h)
            · exact hl1 h
            · exact hl2 h.1
          rw [hst]
          simp only [e4, letO_some, cellsOf?_agg, cellsOf?_int, cellsOf?_bool, cellsOf?_imm, cellsOf?_ref, cellsOf?_nils, faddr_iptr, faddr_ptr, List.drop_succ_cons, List.drop_zero, List.take_succ_cons, List.take_zero, load1_iptr, loadN_iptr, List.length_cons, List.length_nil, Nat.le_refl, if_true, List.getElem?_cons_zero, List.getElem?_cons_succ, List.getD_cons_zero, List.getD_cons_succ, extrF_tup, binF_add, binF_sub, binF_mul, binF_eql, binF_neq, binF_lss, binF_leq, binF_gtr, binF_geq, true_and, gval_bool, Int.reduceBNe, Int.reduceBEq, pickF_true, pickF_false, reduceIte, Bool.true_eq_false, Bool.false_eq_true, if_false, condA_tt, condA_ff, condG_tt, condG_ff, condG_tt', condG_ff', condG_undef, gval_undef]
          refine exU ?_
          try simp only [letO_some, cellsOf?_agg, cellsOf?_int, cellsOf?_bool, cellsOf?_imm, cellsOf?_ref, cellsOf?_nils, faddr_iptr, faddr_ptr, List.drop_succ_cons, List.drop_zero, List.take_succ_cons, List.take_zero, load1_iptr, loadN_iptr, List.length_cons, List.length_nil, Nat.le_refl, if_true, List.getElem?_cons_zero, List.getElem?_cons_succ, List.getD_cons_zero, List.getD_cons_succ, extrF_tup, binF_add, binF_sub, binF_mul, binF_eql, binF_neq, binF_lss, binF_leq, binF_gtr, binF_geq, true_and, gval_bool, Int.reduceBNe, Int.reduceBEq, pickF_true, pickF_false, reduceIte, Bool.true_eq_false, Bool.false_eq_true, if_false, condA_tt, condA_ff, condG_tt, condG_ff, condG_tt', condG_ff', condG_undef, gval_undef]
          exact ⟨R, C, rfl, hle14, hold⟩
    · rintro L H6 ⟨R', C', rfl, h5, h6⟩
      try simp only [letO_some, cellsOf?_agg, cellsOf?_int, cellsOf?_bool, cellsOf?_imm, cellsOf?_ref, cellsOf?_nils, faddr_iptr, faddr_ptr, List.drop_succ_cons, List.drop_zero, List.take_succ_cons, List.take_zero, load1_iptr, loadN_iptr, List.length_cons, List.length_nil, Nat.le_refl, if_true, List.getElem?_cons_zero, List.getElem?_cons_succ, List.getD_cons_zero, List.getD_cons_succ, extrF_tup, binF_add, binF_sub, binF_mul, binF_eql, binF_neq, binF_lss, binF_leq, binF_gtr, binF_geq, true_and]
      rw [wrap_i64 (by omega) (by omega)]
      exact ⟨⟨s + 1, R', C', rfl, by omega, h5, h6⟩, by simp <;> omega⟩
  have hse : s = N := by omega
  subst hse
  have hle := Heap.le_trans hX.le hle2
  have hBf : barF t s = barF t (2 ^ t.length) := by rw [hlen, hN]
  rw [hBf] at hBS
  simp only [l3 hle, letO_some]
  refine c34 (RT.tl _ _) (by omega) hsl ?_
  simp only [letO_some, cellsOf?_agg, cellsOf?_int, cellsOf?_bool, cellsOf?_imm, cellsOf?_ref, cellsOf?_nils, faddr_iptr, faddr_ptr, List.drop_succ_cons, List.drop_zero, List.take_succ_cons, List.take_zero, load1_iptr, loadN_iptr, List.length_cons, List.length_nil, Nat.le_refl, if_true, List.getElem?_cons_zero, List.getElem?_cons_succ, List.getD_cons_zero, List.getD_cons_succ, extrF_tup, binF_add, binF_sub, binF_mul, binF_eql, binF_neq, binF_lss, binF_leq, binF_gtr, binF_geq, true_and, l3 hle]
  refine c20w (RT.tl _ _) (by omega) hsl ?_
  simp only [letO_some, cellsOf?_agg, cellsOf?_int, cellsOf?_bool, cellsOf?_imm, cellsOf?_ref, cellsOf?_nils, faddr_iptr, faddr_ptr, List.drop_succ_cons, List.drop_zero, List.take_succ_cons, List.take_zero, load1_iptr, loadN_iptr, List.length_cons, List.length_nil, Nat.le_refl, if_true, List.getElem?_cons_zero, List.getElem?_cons_succ, List.getD_cons_zero, List.getD_cons_succ, extrF_tup, binF_add, binF_sub, binF_mul, binF_eql, binF_neq, binF_lss, binF_leq, binF_gtr, binF_geq, true_and, l3 hle]
  refine c22 (RT.tl _ _) (by omega) hsl ?_
  have hRX := hX.readsC
  have hcnt := countE_eq hchk
  obtain ⟨bb1, bb2⟩ := barF_best hchk (2 ^ t.length) (Nat.le_refl _)
  have fin : ∀ Hz, H2.le Hz → endK (.bool true) Hz K := fun Hz hz => endK_pub (Pub.drop (Heap.le_trans (Heap.le_trans hle3 hle) hz)) (endK_ret hk)
  simp only [hchk, hcnt, hX.len, letO_some, cellsOf?_agg, cellsOf?_int, cellsOf?_bool, cellsOf?_imm, cellsOf?_ref, cellsOf?_nils, faddr_iptr, faddr_ptr, List.drop_succ_cons, List.drop_zero, List.take_succ_cons, List.take_zero, load1_iptr, loadN_iptr, List.length_cons, List.length_nil, Nat.le_refl, if_true, List.getElem?_cons_zero, List.getElem?_cons_succ, List.getD_cons_zero, List.getD_cons_succ, extrF_tup, binF_add, binF_sub, binF_mul, binF_eql, binF_neq, binF_lss, binF_leq, binF_gtr, binF_geq, true_and, gval_bool, Int.reduceBNe, Int.reduceBEq, pickF_true, pickF_false, reduceIte, Bool.true_eq_false, Bool.false_eq_true, if_false, condA_tt, condA_ff, condG_tt, condG_ff, condG_tt', condG_ff', condG_undef, gval_undef, bne_self_eq_false]
  rcases hBS with ⟨hb, rfl, rfl⟩ | ⟨s', hb, g1, g2, g3, g4⟩
  · have hne : withinS t ≠ [] := fun h => by
      obtain ⟨s1, q1, q2, q3⟩ := no_plan hchk h
      rw [bb1 hb s1 q2 q1] at q3
      cases q3
    cases hw : withinS t with
    | nil => exact absurd hw hne
    | cons p r =>
      obtain ⟨f1, f2⟩ := within_first hchk hw
      have hbo : barO t = ([], [], 13) := by rw [barO, if_neg (by simp [hchk]), hb]
      have hlt : decide ((0 : Int) < ((r.length + 1 : Nat) : Int)) = true := decide_eq_true (by omega)
      have hls : lenA (sl []) = some (.int .i64 0) := rfl
      have hw0 : IntKind.i64.wrap (0 + 0) = 0 := rfl
      simp only [nil_nil, neq_bool, hlt, hbo, f1, f2, letO_some, cellsOf?_agg, cellsOf?_int, cellsOf?_bool, cellsOf?_imm, cellsOf?_ref, cellsOf?_nils, faddr_iptr, faddr_ptr, List.drop_succ_cons, List.drop_zero, List.take_succ_cons, List.take_zero, load1_iptr, loadN_iptr, List.length_cons, List.length_nil, Nat.le_refl, if_true, List.getElem?_cons_zero, List.getElem?_cons_succ, List.getD_cons_zero, List.getD_cons_succ, extrF_tup, binF_add, binF_sub, binF_mul, binF_eql, binF_neq, binF_lss, binF_leq, binF_gtr, binF_geq, true_and, gval_bool, Int.reduceBNe, Int.reduceBEq, pickF_true, pickF_false, reduceIte, Bool.true_eq_false, Bool.false_eq_true, if_false, condA_tt, condA_ff, condG_tt, condG_ff, condG_tt', condG_ff', condG_undef, gval_undef, beq_self_eq_true, bne_self_eq_false, hls, hw0, List.length_cons]
      rw [hw] at hX
      have hx0 : ∀ k : AV → Prop, k (sl (up p)) → letO (idx 1 X (.int .i64 0)) fun q => letO (load1 q H2) k := fun k hk => by
        refine (hX.readsC.le hle2).get (Heap.le_refl _) (i := 0) (by omega) (by simp only [List.length_cons]; omega) ?_ hk
        rfl
      refine hx0 _ ?_
      refine exJ ?_
      refine c24 (Reads.sl _ _) (Reads.sl _ _) (by rw [up_length]; have := (within_pos (p := p) (by rw [hw]; simp)).1; have := (plansS_mem this).1; omega) ?_
      simp only [decide_true, letO_some, cellsOf?_agg, cellsOf?_int, cellsOf?_bool, cellsOf?_imm, cellsOf?_ref, cellsOf?_nils, faddr_iptr, faddr_ptr, List.drop_succ_cons, List.drop_zero, List.take_succ_cons, List.take_zero, load1_iptr, loadN_iptr, List.length_cons, List.length_nil, Nat.le_refl, if_true, List.getElem?_cons_zero, List.getElem?_cons_succ, List.getD_cons_zero, List.getD_cons_succ, extrF_tup, binF_add, binF_sub, binF_mul, binF_eql, binF_neq, binF_lss, binF_leq, binF_gtr, binF_geq, true_and, gval_bool, Int.reduceBNe, Int.reduceBEq, pickF_true, pickF_false, reduceIte, Bool.true_eq_false, Bool.false_eq_true, if_false, condA_tt, condA_ff, condG_tt, condG_ff, condG_tt', condG_ff', condG_undef, gval_undef]
      refine exJ ?_
      refine c17 ?_
      try simp only [letO_some, cellsOf?_agg, cellsOf?_int, cellsOf?_bool, cellsOf?_imm, cellsOf?_ref, cellsOf?_nils, faddr_iptr, faddr_ptr, List.drop_succ_cons, List.drop_zero, List.take_succ_cons, List.take_zero, load1_iptr, loadN_iptr, List.length_cons, List.length_nil, Nat.le_refl, if_true, List.getElem?_cons_zero, List.getElem?_cons_succ, List.getD_cons_zero, List.getD_cons_succ, extrF_tup, binF_add, binF_sub, binF_mul, binF_eql, binF_neq, binF_lss, binF_leq, binF_gtr, binF_geq, true_and, gval_bool, Int.reduceBNe, Int.reduceBEq, pickF_true, pickF_false, reduceIte, Bool.true_eq_false, Bool.false_eq_true, if_false, condA_tt, condA_ff, condG_tt, condG_ff, condG_tt', condG_ff', condG_undef, gval_undef]
      exact fin _ (Heap.le_refl _)
  · have hq := (bb2 s' hb)
    have hnil : withinS t = [] := by
      cases hw : withinS t with
      | nil => rfl
      | cons p r =>
        have := plan_no hchk (p := p) (by rw [hw]; simp) hq.2.1
        rw [this] at hq
        exact absurd hq.2.2.1 (by simp)
    obtain ⟨f1, f2⟩ := within_none hchk hnil
    have hbo : barO t = (up (lst s'), up (zerosZ t (up (lst s'))), 0) := by rw [barO, if_neg (by simp [hchk]), hb]; simp only; rw [zeros_lst hchk]
    have hlt : decide ((0 : Int) < (((withinS t).length : Nat) : Int)) = false := by rw [hnil]; rfl
    have hls : lenA (sl []) = some (.int .i64 0) := rfl
    have hzl : (zerosZ t (up (lst s'))).length ≤ 4 := Nat.le_trans (List.length_filter_le _ _) (by simp; omega)
    have hl4 := lst_len4 s'
    have hpv := block_ok hchk hq.2.1 hq.2.2.1
    simp only [nilq g3 (fun h => g1 (by simpa [up] using h)), neq_bool, hlt, hbo, f1, f2, letO_some, cellsOf?_agg, cellsOf?_int, cellsOf?_bool, cellsOf?_imm, cellsOf?_ref, cellsOf?_nils, faddr_iptr, faddr_ptr, List.drop_succ_cons, List.drop_zero, List.take_succ_cons, List.take_zero, load1_iptr, loadN_iptr, List.length_cons, List.length_nil, Nat.le_refl, if_true, List.getElem?_cons_zero, List.getElem?_cons_succ, List.getD_cons_zero, List.getD_cons_succ, extrF_tup, binF_add, binF_sub, binF_mul, binF_eql, binF_neq, binF_lss, binF_leq, binF_gtr, binF_geq, true_and, gval_bool, Int.reduceBNe, Int.reduceBEq, pickF_true, pickF_false, reduceIte, Bool.true_eq_false, Bool.false_eq_true, if_false, condA_tt, condA_ff, condG_tt, condG_ff, condG_tt', condG_ff', condG_undef, gval_undef, beq_self_eq_true, bne_self_eq_false]
    refine exJ ?_
    refine c24 (Reads.sl _ _) g3 (by rw [up_length]; omega) ?_
    simp only [decide_true, letO_some, cellsOf?_agg, cellsOf?_int, cellsOf?_bool, cellsOf?_imm, cellsOf?_ref, cellsOf?_nils, faddr_iptr, faddr_ptr, List.drop_succ_cons, List.drop_zero, List.take_succ_cons, List.take_zero, load1_iptr, loadN_iptr, List.length_cons, List.length_nil, Nat.le_refl, if_true, List.getElem?_cons_zero, List.getElem?_cons_succ, List.getD_cons_zero, List.getD_cons_succ, extrF_tup, binF_add, binF_sub, binF_mul, binF_eql, binF_neq, binF_lss, binF_leq, binF_gtr, binF_geq, true_and, gval_bool, Int.reduceBNe, Int.reduceBEq, pickF_true, pickF_false, reduceIte, Bool.true_eq_false, Bool.false_eq_true, if_false, condA_tt, condA_ff, condG_tt, condG_ff, condG_tt', condG_ff', condG_undef, gval_undef]
    refine exJ ?_
    refine c24 (Reads.sl _ _) g4 (by rw [up_length]; omega) ?_
    simp only [decide_true, letO_some, cellsOf?_agg, cellsOf?_int, cellsOf?_bool, cellsOf?_imm, cellsOf?_ref, cellsOf?_nils, faddr_iptr, faddr_ptr, List.drop_succ_cons, List.drop_zero, List.take_succ_cons, List.take_zero, load1_iptr, loadN_iptr, List.length_cons, List.length_nil, Nat.le_refl, if_true, List.getElem?_cons_zero, List.getElem?_cons_succ, List.getD_cons_zero, List.getD_cons_succ, extrF_tup, binF_add, binF_sub, binF_mul, binF_eql, binF_neq, binF_lss, binF_leq, binF_gtr, binF_geq, true_and, gval_bool, Int.reduceBNe, Int.reduceBEq, pickF_true, pickF_false, reduceIte, Bool.true_eq_false, Bool.false_eq_true, if_false, condA_tt, condA_ff, condG_tt, condG_ff, condG_tt', condG_ff', condG_undef, gval_undef, beq_self_eq_true, hls, l3 hle]
    refine exJ ?_
    refine c36 (RT.tl _ _) (Reads.sl _ _) (Reads.sl _ _) (by omega) hsl (by rw [up_length]; omega) (by rw [up_length]; omega) ?_
    rw [hpv]
    simp only [beq_self_eq_true, letO_some, cellsOf?_agg, cellsOf?_int, cellsOf?_bool, cellsOf?_imm, cellsOf?_ref, cellsOf?_nils, faddr_iptr, faddr_ptr, List.drop_succ_cons, List.drop_zero, List.take_succ_cons, List.take_zero, load1_iptr, loadN_iptr, List.length_cons, List.length_nil, Nat.le_refl, if_true, List.getElem?_cons_zero, List.getElem?_cons_succ, List.getD_cons_zero, List.getD_cons_succ, extrF_tup, binF_add, binF_sub, binF_mul, binF_eql, binF_neq, binF_lss, binF_leq, binF_gtr, binF_geq, true_and, gval_bool, Int.reduceBNe, Int.reduceBEq, pickF_true, pickF_false, reduceIte, Bool.true_eq_false, Bool.false_eq_true, if_false, condA_tt, condA_ff, condG_tt, condG_ff, condG_tt', condG_ff', condG_undef, gval_undef]
    refine exJ ?_
    refine c17 ?_
    try simp only [letO_some, cellsOf?_agg, cellsOf?_int, cellsOf?_bool, cellsOf?_imm, cellsOf?_ref, cellsOf?_nils, faddr_iptr, faddr_ptr, List.drop_succ_cons, List.drop_zero, List.take_succ_cons, List.take_zero, load1_iptr, loadN_iptr, List.length_cons, List.length_nil, Nat.le_refl, if_true, List.getElem?_cons_zero, List.getElem?_cons_succ, List.getD_cons_zero, List.getD_cons_succ, extrF_tup, binF_add, binF_sub, binF_mul, binF_eql, binF_neq, binF_lss, binF_leq, binF_gtr, binF_geq, true_and, gval_bool, Int.reduceBNe, Int.reduceBEq, pickF_true, pickF_false, reduceIte, Bool.true_eq_false, Bool.false_eq_true, if_false, condA_tt, condA_ff, condG_tt, condG_ff, condG_tt', condG_ff', condG_undef, gval_undef]
    exact fin _ (Heap.le_refl _)
end Go.Proofs.YtbofkeoebnjjkaaDoor
namespace Go.Proofs.YtbofkeoebnjjkaaDoor.tableBlocked
open Go.Av Tab
theorem law {g : List Nat} (h0 : g.length = 27) (h1 : ∀ x ∈ g, x < 256) : ACalls Tryd.prog 8 [.agg (g.map fun (x : Nat) => .int .u8 (x : Int))] Heap.none fun r _ => r = .bool true :=
  c8 ⟨h0, h1⟩ rfl
end Go.Proofs.YtbofkeoebnjjkaaDoor.tableBlocked

/- MADE BY PROGRAM (rowt.py): the row and the tied card of TableBlocked. -/
namespace Go.Proofs.YtbofkeoebnjjkaaDoor.tableBlocked
open Go.ChangeShapes Go.WideShapes Go.ChangeAt Go.RowKit Go.Av
set_option linter.unusedVariables false

set_option maxRecDepth 100000 in
theorem lifted (os : Os) (started : os.Started) (H : Type) (enc : TypeId × Value → H) :
    ReturnsInHanded {} Tryd.checked os 8 .any (fun w args => (Rows.tableBlockedSpec.pre enc Tryd.prog Tryd.f8 [] false w args ∧ laidMetH Tryd.prog laidL w) ∧ sizedMet enc Tryd.prog Tryd.f8 (OpenSpec.ofChange Rows.tableBlockedSpec) false w args)
      (Rows.tableBlockedSpec.post enc Tryd.prog Tryd.f8 false true false false) := by
  refine returnsInHanded_of_change_and (C := Tryd.checked) (X := fun w _ => laidMetH Tryd.prog laidL w) (fun _ _ _ hh h => h.of_heap hh) ownK started (by kernel_rfl) Tryd.func8
    (ChangeSpec.witness_at (enc := enc) (C := Tryd.checked) (os := os) (X := fun w _ => laidMetH Tryd.prog laidL w) false (laidWorld os #[]) #[.agg #[.int .u8 0, .int .u8 0, .int .u8 0, .int .u8 0, .int .u8 0, .int .u8 0, .int .u8 0, .int .u8 0, .int .u8 0, .int .u8 0, .int .u8 0, .int .u8 0, .int .u8 0, .int .u8 0, .int .u8 0, .int .u8 0, .int .u8 0, .int .u8 0, .int .u8 0, .int .u8 0, .int .u8 0, .int .u8 0, .int .u8 0, .int .u8 0, .int .u8 0, .int .u8 0, .int .u8 0]] 8 rfl (by kernel_rfl) (by kernel_rfl) (by kernel_rfl) (by kernel_rfl) (by kernel_rfl) (laidWorld_met0 os _)) ?_
  intro W base args ds gs before hval0 hW hcnd _ hL _
  have hval : ∀ (j : Nat) t v, Tryd.f8.params[j]? = some t → args[j]? = some v → Value.okWide Tryd.prog W .any base t v := hval0
  have hW' := hW
  obtain ⟨p, q, hA0, hV, rfl, hfz, hnd⟩ := hW
  have hA : DataW.TrodAll enc Tryd.prog W 0 (fun _ => true) true Tryd.f8.params.toList args.toList ds p := hA0
  have hA1 := hA
  rw [Tryd.params8] at hA hval
  obtain ⟨rfl, rfl⟩ := trodVars_none hV
  clear hA0 hval0
  simp only [List.append_nil] at hW'
  have hlt : ∀ x ∈ p, x.block < W.heap.size := fun x hx => by simpa using hW'.lt x hx
  obtain ⟨v0, d0, rfl, rfl, h0⟩ := trodAll_one hA
  obtain ⟨g0, gl0, gx0, r0⟩ := rep_row (E := E0 W) (n := 27) (u := 5) (.inl ⟨_, Tryd.underlying57⟩) (by kernel_rfl) (by kernel_rfl) Tryd.underlying5 (hval 0 57 v0 rfl rfl)
  refine ((law gl0 gx0).2 (E0 W) W [v0] (glb_of_laid hL) (st0 W) (RepL.cons r0 (RepL.nil _))).mono ?_
  rintro e W' ⟨r, v, E', H', rfl, hr, _, hx, rfl⟩
  cases hr
  exact ⟨_, rfl, _, _, _, [], _, [], hW', trodAll_cons_mk (shut_bool Tryd.underlying4 _) trodAll_mk0, hx.trodAll laidOutK (by kernel_rfl) hA1 hlt, rfl, hx.kept _, fun h => by cases h⟩

theorem over : Rows.tableBlockedRow.holds Tryd.pinned (OpenSpec.ofChange Rows.tableBlockedSpec) :=
  OpenClaim.holds_of_wide 8 Tryd.f8 rfl rfl rfl rfl rfl rfl rfl ⟨rfl, rfl, rfl, rfl, rfl⟩ rfl rfl rfl rfl rfl (by kernel_rfl) Tryd.func8 (by kernel_rfl)
    (of_decide_eq_true (by kernel_rfl)) (by unfold Func.isWrapper; first | (rw [if_pos (by decide +kernel)]; kernel_rfl) | (rw [if_neg (by decide +kernel)]; exact ⟨rfl, rfl⟩))
    (fun os started H enc _ => lifted os started H enc)

theorem carded : Rows.TableBlockedCardSaid :=
  Claim7.holds_tied_plain_at .later [] [.data, .data] true (true, "29ac6a78e3fa4d425541ea16beb52bdc0cb68dcf07b6d1720047e0e447a29f7d") false
    over (fun _ h => by cases h) (by kernel_rfl) (fun _ h => by cases h) tableBlocked_row_tie rfl ⟨rfl, rfl⟩ (by kernel_rfl) rfl
    (fun f fn hf hfn => by
      obtain rfl : f = 8 := Option.some.inj ((show Tryd.prog.funcNamed "headword/headwordlaw11.TableBlocked" = some 8 by kernel_rfl).symm.trans hf) |>.symm
      obtain rfl : fn = Tryd.f8 := (Option.some.inj (Tryd.func8.symm.trans hfn)).symm
      exact ⟨by kernel_rfl, fun j t ht => by
        rw [Tryd.params8] at ht
        have hm := Array.mem_of_getElem? ht
        obtain rfl : t = 57 := by simpa using hm
        · exact (show Tryd.prog.wantsStandIn 57 = false by kernel_rfl)⟩)
    (by kernel_rfl)
#print axioms carded
end Go.Proofs.YtbofkeoebnjjkaaDoor.tableBlocked
