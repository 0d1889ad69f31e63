import Derived.Test.YtlajhbpkogekfaaCon
import Derived.Test.YtlajhbpkogekfaaAvB
import Derived.Test.YtlajhbpkogekfaaRows
import Derived.Test.YtlajhbpkogekfaaLTurnedW
/- LineTurned: for every input the law returns true, and the input reads as before. No conditions. -/
/- Texts by numbers. -/
set_option linter.unusedVariables false
namespace Line
def gw (W : Nat) : Nat := 1 + W % 40
def glong (W S : Nat) : Nat := if S % 3 > 0 then 1 + gw W / 2 else gw W
def gmin (W S : Nat) : Nat := if gw W < glong W S then gw W else glong W S
def gwords (W S : Nat) (l : List Nat) : List Int := l.map fun x => ((1 + x % gmin W S : Nat) : Int)
def madeL (W M S : Nat) (l : List Nat) (most : Nat) : List Int := gwords W S (l.take (1 + M % most))
theorem gw_range (W : Nat) : 1 ≤ gw W ∧ gw W ≤ 40 := by unfold gw; omega
theorem gmin_range (W S : Nat) : 1 ≤ gmin W S ∧ gmin W S ≤ gw W := by
  have := gw_range W
  unfold gmin glong
  split <;> split <;> omega
theorem made_len {W M S : Nat} {l : List Nat} {most : Nat} (hl : l.length = 10) (hm : 1 ≤ most ∧ most ≤ 10) : (madeL W M S l most).length = 1 + M % most := by
  have := Nat.mod_lt M (show most > 0 by omega)
  simp [madeL, gwords]; omega
theorem chk_made {W M S : Nat} {l : List Nat} {most : Nat} (hl : l.length = 10) (hm : 1 ≤ most ∧ most ≤ 10) : chk (gw W) (madeL W M S l most) = 0 := by
  have h1 := gw_range W
  have h2 := made_len (W := W) (M := M) (S := S) hl hm
  have h3 := Nat.mod_lt M (show most > 0 by omega)
  unfold chk
  rw [if_neg (by omega), if_neg (by omega), if_neg (by omega), if_pos]
  intro x hx
  simp only [madeL, gwords, List.mem_map] at hx
  obtain ⟨y, _, rfl⟩ := hx
  have h4 := gmin_range W S
  have := Nat.mod_lt y (show gmin W S > 0 by omega)
  omega
end Line

/- Ends in order. -/
set_option linter.unusedVariables false
namespace Line
/-- Ends that ascend, behind one, up to a last place. -/
def asc (n : Int) : Int → List Int → Prop
  | _, [] => True
  | last, e :: r => last < e ∧ 1 ≤ e ∧ e ≤ n ∧ asc n e r
theorem scan_asc {n : Int} : ∀ {l : List Int} {last : Int} (r : List Int), asc n last l → scan n last (l ++ r) = scan n (l.getLastD last) r
  | [], last, r, _ => rfl
  | e :: l, last, r, h => by
    obtain ⟨h1, h2, h3, h4⟩ := h
    rw [List.cons_append, scan, if_neg (by omega), if_neg (by omega), scan_asc r h4, List.getLastD_cons]
theorem asc_snoc {n : Int} : ∀ {l : List Int} {last x : Int}, asc n last l → l.getLastD last < x → 1 ≤ x → x ≤ n → asc n last (l ++ [x])
  | [], last, x, _, h1, h2, h3 => ⟨by simpa using h1, h2, h3, trivial⟩
  | e :: l, last, x, h, h1, h2, h3 => by
    obtain ⟨g1, g2, g3, g4⟩ := h
    rw [List.getLastD_cons] at h1
    exact ⟨g1, g2, g3, asc_snoc g4 h1 h2 h3⟩
theorem asc_of_scan {n : Int} : ∀ {l : List Int} {last : Int}, scan n last l = 0 → asc n last l
  | [], _, _ => trivial
  | e :: r, last, h => by
    rw [scan] at h
    split at h; · omega
    split at h; · omega
    exact ⟨by omega, by omega, by omega, asc_of_scan h⟩
/-- A line begins before it ends. -/
theorem stN_lt {n : Int} {l : List Int} (h : asc n 0 l) {k : Nat} (hk : k < l.length) : stN (toN l) k < (toN l).getD k 0 := by
  have key : ∀ {l : List Int} {last : Int}, 0 ≤ last → asc n last l → ∀ k, k < l.length → (if k = 0 then last.toNat else (toN l).getD (k - 1) 0) < (toN l).getD k 0 := by
    intro l
    induction l with
    | nil => intro last _ _ k hk; simp at hk
    | cons e r ih =>
      intro last hl h k hk
      obtain ⟨h1, h2, h3, h4⟩ := h
      cases k with
      | zero => simp [toN]; omega
      | succ k =>
        have := ih (last := e) (by omega) h4 k (by simpa using hk)
        cases k with
        | zero => simpa [toN] using this
        | succ k => simpa [toN] using this
  have := key (Int.le_refl 0) h k hk
  unfold stN
  simpa using this
theorem asc_le {n : Int} : ∀ {l : List Int} {last : Int}, asc n last l → ∀ e ∈ l, 1 ≤ e ∧ e ≤ n
  | [], _, _ => by simp
  | e :: r, last, h => by
    obtain ⟨h1, h2, h3, h4⟩ := h
    intro x hx
    rcases List.mem_cons.1 hx with rfl | hx
    · exact ⟨h2, h3⟩
    · exact asc_le h4 x hx
theorem up_append (a b : List Nat) : up (a ++ b) = up a ++ up b := by simp [up]
theorem up_snoc (a : List Nat) (q : Nat) : up (a ++ [q]) = up a ++ [(q : Int)] := by simp [up]
theorem toN_up (E : List Nat) : toN (up E) = E := by
  simp only [toN, up, List.map_map]
  conv => rhs; rw [← List.map_id E]
  exact List.map_congr_left fun x _ => by simp
end Line

/- Lines of ends, one by one. -/
set_option linter.unusedVariables false
set_option linter.unusedSimpArgs false
namespace Line
theorem getD_append_lt {E r : List Nat} {k : Nat} (h : k < E.length) : (E ++ r).getD k 0 = E.getD k 0 := by
  rw [List.getD_eq_getElem?_getD, List.getElem?_append_left h, ← List.getD_eq_getElem?_getD]
theorem getD_last (E : List Nat) (h : E ≠ []) : E.getD (E.length - 1) 0 = E.getLastD 0 := by
  rw [List.getLastD_eq_getLast?, List.getD_eq_getElem?_getD, List.getLast?_eq_getElem?]
theorem stN_append {E r : List Nat} : stN (E ++ r) E.length = E.getLastD 0 := by
  unfold stN
  split
  · rename_i h
    have : E = [] := List.eq_nil_of_length_eq_zero h
    subst this; rfl
  · rename_i h
    rw [getD_append_lt (by omega), getD_last E (by rintro rfl; simp at h)]
theorem spansN_append (E r : List Nat) : spansN (E ++ r) E.length = spansN E E.length := by
  unfold spansN
  refine List.map_congr_left fun k hk => ?_
  have hk := List.mem_range.1 hk
  unfold spanN stN
  rw [getD_append_lt hk]
  split
  · rfl
  · rw [getD_append_lt (by omega)]
theorem spansN_snoc (E : List Nat) (x : Nat) : spansN (E ++ [x]) (E.length + 1) = spansN E E.length ++ [(E.getLastD 0, x)] := by
  rw [spansN_succ, spansN_append]
  unfold spanN
  rw [stN_append, List.getD_eq_getElem?_getD, List.getElem?_append_right (Nat.le_refl _)]
  simp
theorem over_snoc (w : Int) (ws : List Int) (E : List Nat) (x : Nat) : over w ws (E ++ [x]) = (over w ws E || decide (lf w ws (E.getLastD 0) x < 0)) := by
  unfold over
  rw [List.length_append, List.length_singleton, spansN_snoc, List.any_append]
  simp
theorem up_lastD (E : List Nat) : (up E).getLastD 0 = (E.getLastD 0 : Nat) := by
  cases E with
  | nil => rfl
  | cons a l => simp [up, List.getLastD_eq_getLast?, List.getLast?_map, List.getLast?_cons]
/-- Ends that ascend, end with the last word, and fit. -/
theorem ended_mk {w : Int} {ws : List Int} {E : List Nat} (hc : chk w ws = 0) (ha : asc ws.length 0 (up E)) (hl : E.getLastD 0 = ws.length) (ho : over w ws E = false) : endedE w ws (up E) = 0 := by
  have hs : scan ws.length 0 (up E) = 0 := by
    have := scan_asc [] ha
    rw [List.append_nil] at this
    rw [this, up_lastD, hl]; simp [scan]
  rw [endedE, hc, hs, toN_up, ho]; simp

/-- What the first lines cost, but for those from a number on. -/
def wantE (w : Int) (ws : List Int) (E : List Nat) (m : Nat) : Nat → Int
  | 0 => 0
  | i + 1 => wantE w ws E m i + if i < m then sqf w ws (stN E i) (E.getD i 0) else 0
theorem costS_append {w : Int} {ws : List Int} {last p : Nat × Nat} {l : List (Nat × Nat)} : costS w ws last (l ++ [p]) = costS w ws last l + if p = last then 0 else sqf w ws p.1 p.2 := by
  simp [costS]
theorem costE_eq {w : Int} {ws : List Int} {E : List Nat} {n : Int} (ha : asc n 0 (up E)) (hne : E ≠ []) : ∀ i, i ≤ E.length → costS w ws (spanN E (E.length - 1)) (spansN E i) = wantE w ws E (E.length - 1) i
  | 0, _ => rfl
  | i + 1, h => by
    have hlen : 0 < E.length := List.length_pos_iff.2 hne
    rw [spansN_succ, costS_append, costE_eq ha hne i (by omega), wantE]
    congr 1
    by_cases hi : i < E.length - 1
    · rw [if_neg, if_pos hi]
      · rfl
      · intro he
        have h1 := congrArg Prod.snd he
        simp only [spanN] at h1
        have mono : ∀ d k, k + d + 1 < E.length → E.getD k 0 < E.getD (k + d + 1) 0 := by
          intro d
          induction d with
          | zero =>
            intro k hk
            have := stN_lt ha (k := k + 1) (by simpa using hk)
            rw [toN_up] at this
            simpa [stN] using this
          | succ d ih =>
            intro k hk
            have a1 := ih k (by omega)
            have := stN_lt ha (k := k + d + 1 + 1) (by simp; omega)
            rw [toN_up] at this
            simp only [stN, Nat.add_one_sub_one] at this
            rw [if_neg (by omega)] at this
            have e : k + (d + 1) + 1 = k + d + 1 + 1 := by omega
            rw [e]
            omega
        have := mono (E.length - 1 - i - 1) i (by omega)
        rw [show i + (E.length - 1 - i - 1) + 1 = E.length - 1 by omega] at this
        omega
    · have : i = E.length - 1 := by omega
      subst this
      rw [if_pos rfl, if_neg (by omega)]
theorem psum_len (ws : List Int) : psum ws ws.length = ws.sum + ws.length := by simp [psum]
theorem ended_up {w : Int} {ws es : List Int} (h : endedE w ws es = 0) : up (toN es) = es := by
  obtain ⟨h1, h2, h3⟩ : chk w ws = 0 ∧ scan ws.length 0 es = 0 ∧ over w ws (toN es) = false := by
    unfold endedE at h
    by_cases h1 : chk w ws = 0 <;> simp only [h1, ne_eq, not_true, not_false_eq_true, if_true, if_false] at h
    · by_cases h2 : scan ws.length 0 es = 0 <;> simp only [h2, ne_eq, not_true, not_false_eq_true, if_true, if_false] at h
      · refine ⟨h1, h2, ?_⟩
        cases h3 : over w ws (toN es) <;> simp [h3] at h ⊢
  exact up_toN fun e he => (scan_range h2 e he).1
end Line

/- Full lines, and lines that get longer. -/
set_option linter.unusedVariables false
namespace Line
theorem psum_mono {ws : List Int} (h : ∀ x ∈ ws, 1 ≤ x) {i j : Nat} (hij : i ≤ j) (hj : j ≤ ws.length) : psum ws i + 2 * ((j : Int) - i) ≤ psum ws j := by
  induction j with
  | zero => have : i = 0 := by omega
            subst this; omega
  | succ j ih =>
    by_cases he : i = j + 1
    · subst he; omega
    · have := ih (by omega) (by omega)
      rw [psum_succ (by omega)]
      have hm : ws.getD j 0 ∈ ws := by rw [List.getD_eq_getElem?_getD]; simp [show j < ws.length by omega]
      have := h _ hm
      omega
theorem lf_mono {w : Int} {ws : List Int} (hc : chk w ws = 0) {i j k : Nat} (hij : i ≤ j) (hjk : j ≤ k) (hk : k ≤ ws.length) : lf w ws i k ≤ lf w ws i j := by
  have := psum_mono (ws := ws) (fun x hx => ((chk_ok hc).2.2.2.2 x hx).1) hjk hk
  rw [lf_eq (by omega) (by omega), lf_eq (by omega) (by omega)]
  omega
theorem endN_eq {w : Int} {ws : List Int} {i m : Nat} (h1 : 1 ≤ m) (h2 : 0 ≤ lf w ws i m) : ∀ d, (∀ j, m < j → j ≤ m + d → lf w ws i j < 0) → endN w ws i (m + d) = m
  | 0, _ => by
    obtain ⟨m, rfl⟩ : ∃ m', m = m' + 1 := ⟨m - 1, by omega⟩
    rw [Nat.add_zero, endN, if_neg (by omega)]
  | d + 1, h => by
    rw [← Nat.add_assoc, endN, if_pos (h _ (by omega) (by omega))]
    exact endN_eq h1 h2 d fun j hj hj2 => h j hj (by omega)
theorem endN_greedy {w : Int} {ws : List Int} (hc : chk w ws = 0) {i m : Nat} (h1 : i < m) (h2 : 0 ≤ lf w ws i m) (hm : m ≤ ws.length) (h3 : m = ws.length ∨ lf w ws i (m + 1) < 0) : endN w ws i ws.length = m := by
  have := endN_eq (w := w) (ws := ws) (i := i) (m := m) (by omega) h2 (ws.length - m) fun j hj hj2 => by
    rcases h3 with h3 | h3
    · omega
    · have := lf_mono hc (i := i) (j := m + 1) (k := j) (by omega) (by omega) (by omega)
      omega
  rwa [show m + (ws.length - m) = ws.length by omega] at this
theorem fullE_done (w : Int) (ws : List Int) (f : Nat) : fullE w ws f ws.length = [] := by cases f <;> simp [fullE]
theorem wantE_m {w : Int} {ws : List Int} {E : List Nat} {m : Nat} : ∀ {i m' : Nat}, i ≤ m → i ≤ m' → wantE w ws E m i = wantE w ws E m' i
  | 0, _, _, _ => rfl
  | i + 1, m', h1, h2 => by
    rw [wantE, wantE, wantE_m (m' := m') (by omega) (by omega), if_pos (by omega), if_pos (by omega)]
end Line

/- The best of the last lines to a place. -/
set_option linter.unusedVariables false
namespace Line
def costL (w : Int) (ws : List Int) (P : List (Int × Nat)) (j i : Nat) : Int := (P.getD i (0, 0)).1 + sqf w ws i j
/-- The least cost of a last line to a place, and the first place where it begins. -/
def bst (w : Int) (ws : List Int) (P : List (Int × Nat)) (j : Nat) (r : Int × Nat) : Prop :=
  r.2 < j ∧ 0 ≤ lf w ws r.2 j ∧ r.1 = costL w ws P j r.2 ∧ ∀ i, i < j → 0 ≤ lf w ws i j → r.1 ≤ costL w ws P j i ∧ (i < r.2 → r.1 < costL w ws P j i)
theorem bst_unique {w : Int} {ws : List Int} {P : List (Int × Nat)} {j : Nat} {r r' : Int × Nat} (h : bst w ws P j r) (h' : bst w ws P j r') : r = r' := by
  obtain ⟨a1, a2, a3, a4⟩ := h
  obtain ⟨b1, b2, b3, b4⟩ := h'
  have h1 := a4 _ b1 b2
  have h2 := b4 _ a1 a2
  rw [← b3] at h1
  rw [← a3] at h2
  have e1 : r.1 = r'.1 := by omega
  have e2 : r.2 = r'.2 := by
    rcases Nat.lt_trichotomy r.2 r'.2 with h | h | h
    · have := h2.2 h; omega
    · exact h
    · have := h1.2 h; omega
  exact Prod.ext e1 e2
theorem lf_mono2 {w : Int} {ws : List Int} (hc : chk w ws = 0) {i j k : Nat} (hij : i ≤ j) (hjk : j ≤ k) (hk : k ≤ ws.length) : lf w ws i k ≤ lf w ws j k := by
  have := psum_mono (ws := ws) (fun x hx => ((chk_ok hc).2.2.2.2 x hx).1) hij (by omega)
  rw [lf_eq (by omega) (by omega), lf_eq (by omega) (by omega)]
  omega
theorem scanB_bst {w : Int} {ws : List Int} {P : List (Int × Nat)} {j : Nat} (hc : chk w ws = 0) (hj : 1 ≤ j) (hjn : j ≤ ws.length) : ∀ (m : Nat) (acc : Int × Nat), m ≤ j →
    (m < j → m ≤ acc.2 ∧ acc.2 < j ∧ 0 ≤ lf w ws acc.2 j ∧ acc.1 = costL w ws P j acc.2 ∧ ∀ i, m ≤ i → i < j → acc.1 ≤ costL w ws P j i ∧ (i < acc.2 → acc.1 < costL w ws P j i)) → bst w ws P j (scanB w ws P j m acc)
  | 0, acc, _, h => by
    obtain ⟨_, h2, h3, h4, h5⟩ := h (by omega)
    exact ⟨h2, h3, h4, fun i hi _ => h5 i (by omega) hi⟩
  | m + 1, acc, hm, h => by
    rw [scanB]
    split
    · rename_i hneg
      have hm1 : m + 1 < j := by
        by_cases he : m + 1 = j
        · exfalso
          have := lf_one hc (show m < ws.length by omega)
          rw [he] at this
          omega
        · omega
      obtain ⟨_, h2, h3, h4, h5⟩ := h hm1
      refine ⟨h2, h3, h4, fun i hi hf => ?_⟩
      by_cases hmi : m + 1 ≤ i
      · exact h5 i hmi hi
      · have := lf_mono2 hc (i := i) (j := m) (k := j) (by omega) (by omega) hjn
        omega
    · rename_i hnn
      refine scanB_bst hc hj hjn m _ (by omega) fun _ => ?_
      by_cases hmj : m + 1 = j
      · rw [if_pos (.inl hmj)]
        refine ⟨Nat.le_refl _, by omega, Int.not_lt.1 hnn, rfl, fun i h1 h2 => ?_⟩
        have : i = m := by omega
        subst this
        exact ⟨Int.le_refl _, fun h => absurd h (Nat.lt_irrefl _)⟩
      · obtain ⟨h1, h2, h3, h4, h5⟩ := h (by omega)
        have hcm : (P.getD m (0, 0)).1 + sqf w ws m j = costL w ws P j m := rfl
        rw [hcm]
        by_cases hle : costL w ws P j m ≤ acc.1
        · rw [if_pos (.inr hle)]
          refine ⟨Nat.le_refl _, by omega, Int.not_lt.1 hnn, rfl, fun i g1 g2 => ?_⟩
          by_cases him : i = m
          · subst him
            exact ⟨Int.le_refl _, fun h => absurd h (Nat.lt_irrefl _)⟩
          · have := h5 i (by omega) g2
            exact ⟨by simp only; omega, fun h => by simp only at h; omega⟩
        · rw [if_neg (by omega)]
          refine ⟨by omega, h2, h3, h4, fun i g1 g2 => ?_⟩
          by_cases him : i = m
          · subst him
            exact ⟨by omega, fun _ => by omega⟩
          · exact h5 i (by omega) g2
theorem pls_bst {w : Int} {ws : List Int} (hc : chk w ws = 0) {k : Nat} (hk : k < ws.length) : bst w ws (pls w ws k) (k + 1) ((pls w ws (k + 1)).getD (k + 1) (0, 0)) := by
  have e : (pls w ws (k + 1)).getD (k + 1) (0, 0) = scanB w ws (pls w ws k) (k + 1) (k + 1) (0, 0) := by
    rw [pls, List.getD_eq_getElem?_getD, List.getElem?_append_right (by simp)]
    simp
  rw [e]
  exact scanB_bst hc (by omega) (by omega) (k + 1) (0, 0) (Nat.le_refl _) fun h => absurd h (Nat.lt_irrefl _)
theorem costL_pls {w : Int} {ws : List Int} {k d j i : Nat} (h : i ≤ k) : costL w ws (pls w ws (k + d)) j i = costL w ws (pls w ws k) j i := by
  unfold costL; rw [pls_get h]

/-- Last lines do not begin before those of fewer words. -/
theorem start_mono {w : Int} {ws : List Int} (hc : chk w ws = 0) {k : Nat} (hk : k + 1 < ws.length) : ((pls w ws (k + 1)).getD (k + 1) (0, 0)).2 ≤ ((pls w ws (k + 2)).getD (k + 2) (0, 0)).2 := by
  have h1 := pls_bst hc (k := k) (by omega)
  have h2 : bst w ws (pls w ws (k + 1)) (k + 2) ((pls w ws (k + 2)).getD (k + 2) (0, 0)) := pls_bst hc (k := k + 1) hk
  generalize (pls w ws (k + 1)).getD (k + 1) (0, 0) = r at *
  generalize (pls w ws (k + 2)).getD (k + 2) (0, 0) = r' at *
  obtain ⟨c, s⟩ := r
  obtain ⟨c', s'⟩ := r'
  obtain ⟨a1, a2, a3, a4⟩ := h1
  obtain ⟨b1, b2, b3, b4⟩ := h2
  simp only at *
  by_cases hlt : s' < s
  · exfalso
    have f1 : lf w ws s' (k + 2) ≤ lf w ws s' (k + 1) := lf_mono hc (by omega) (by omega) (by omega)
    have f2 : lf w ws s' (k + 2) ≤ lf w ws s (k + 2) := lf_mono2 hc (by omega) (by omega) (by omega)
    have g1 := (a4 s' (by omega) (by omega)).2 hlt
    have g2 := (b4 s (by omega) (by omega)).1
    have e1 : costL w ws (pls w ws (k + 1)) (k + 2) s' = (( pls w ws k).getD s' (0, 0)).1 + sqf w ws s' (k + 2) := by
      rw [costL_pls (k := k) (d := 1) (by omega)]; rfl
    have e2 : costL w ws (pls w ws (k + 1)) (k + 2) s = ((pls w ws k).getD s (0, 0)).1 + sqf w ws s (k + 2) := by
      rw [costL_pls (k := k) (d := 1) (by omega)]; rfl
    rw [a3] at g1
    have hb3 : c' = costL w ws (pls w ws (k + 1)) (k + 2) s' := b3
    have g2' : c' ≤ costL w ws (pls w ws (k + 1)) (k + 2) s := g2
    rw [hb3, e1, e2] at g2'
    unfold costL at g1
    -- the squares
    have hx := lf_eq (w := w) (ws := ws) (i := s') (j := k + 2) (by omega) (by omega)
    have hy := lf_eq (w := w) (ws := ws) (i := s) (j := k + 2) (by omega) (by omega)
    have hz := lf_eq (w := w) (ws := ws) (i := s') (j := k + 1) (by omega) (by omega)
    have ht := lf_eq (w := w) (ws := ws) (i := s) (j := k + 1) (by omega) (by omega)
    unfold sqf at g1 g2'
    generalize lf w ws s' (k + 2) = x at *
    have hd : lf w ws s (k + 2) = x + (psum ws s - psum ws s') := by omega
    have he : lf w ws s' (k + 1) = x + (psum ws (k + 2) - psum ws (k + 1)) := by omega
    have hde : lf w ws s (k + 1) = x + (psum ws s - psum ws s') + (psum ws (k + 2) - psum ws (k + 1)) := by omega
    have hm1 : 0 ≤ psum ws s - psum ws s' := by omega
    have hm2 : 0 ≤ psum ws (k + 2) - psum ws (k + 1) := by omega
    rw [he, hde] at g1
    rw [hd] at g2'
    generalize psum ws s - psum ws s' = d at *
    generalize psum ws (k + 2) - psum ws (k + 1) = e at *
    have hpos : 0 ≤ d * e := Int.mul_nonneg hm1 hm2
    simp only [Int.mul_add, Int.add_mul] at g1 g2'
    have c1 : e * d = d * e := Int.mul_comm _ _
    have c2 : d * x = x * d := Int.mul_comm _ _
    have c3 : e * x = x * e := Int.mul_comm _ _
    rw [c1, c2, c3] at g1
    rw [c2] at g2'
    omega
  · omega
end Line

/- All ends; and full lines among them. -/
set_option linter.unusedVariables false
namespace Line
/-- All ends from a place on whose lines fit, in ascending order. -/
def ext (w : Int) (ws : List Int) : Nat → Nat → List (List Nat)
  | 0, fr => if fr = ws.length then [[]] else []
  | f + 1, fr => if fr = ws.length then [[]] else (List.range (ws.length - fr)).flatMap fun d => if lf w ws fr (fr + 1 + d) < 0 then [] else (ext w ws f (fr + 1 + d)).map (fun G => (fr + 1 + d) :: G)
/-- The same, to the places below one. -/
def extTo (w : Int) (ws : List Int) (f fr m : Nat) : List (List Nat) := (List.range m).flatMap fun d => if lf w ws fr (fr + 1 + d) < 0 then [] else (ext w ws f (fr + 1 + d)).map (fun G => (fr + 1 + d) :: G)
theorem extTo_succ (w : Int) (ws : List Int) (f fr m : Nat) : extTo w ws f fr (m + 1) = extTo w ws f fr m ++ if lf w ws fr (fr + 1 + m) < 0 then [] else (ext w ws f (fr + 1 + m)).map (fun G => (fr + 1 + m) :: G) := by
  unfold extTo
  rw [List.range_succ, List.flatMap_append]
  simp
theorem ext_succ {w : Int} {ws : List Int} {f fr : Nat} (h : fr ≠ ws.length) : ext w ws (f + 1) fr = extTo w ws f fr (ws.length - fr) := by
  rw [ext, if_neg h]; rfl
/-- Ends whose lines fit. -/
def okEnds (w : Int) (ws : List Int) (E : List Nat) : Prop := asc ws.length 0 (up E) ∧ E.getLastD 0 = ws.length ∧ over w ws E = false
theorem ok_ended {w : Int} {ws : List Int} {E : List Nat} (hc : chk w ws = 0) (h : okEnds w ws E) : endedE w ws (up E) = 0 := ended_mk hc h.1 h.2.1 h.2.2

/-- The first part of ends, that fits as far as it goes. -/
def prt (w : Int) (ws : List Int) (E : List Nat) : Prop := asc ws.length 0 (up E) ∧ over w ws E = false
theorem part_snoc {w : Int} {ws : List Int} {E : List Nat} {j : Nat} (h : prt w ws E) (h1 : E.getLastD 0 < j) (h2 : j ≤ ws.length) (h3 : 0 ≤ lf w ws (E.getLastD 0) j) : prt w ws (E ++ [j]) := by
  refine ⟨?_, ?_⟩
  · rw [up_snoc]
    exact asc_snoc h.1 (by rw [up_lastD]; omega) (by omega) (by omega)
  · rw [over_snoc, h.2]; simpa using h3
theorem part_nil (w : Int) (ws : List Int) : prt w ws [] := ⟨trivial, rfl⟩
theorem lastD_snoc (E : List Nat) (j : Nat) : (E ++ [j]).getLastD 0 = j := by simp
theorem leftL_snoc (w : Int) (ws : List Int) (E : List Nat) (j : Nat) : leftL w ws (E ++ [j]) (E.length + 1) = leftL w ws E E.length ++ [lf w ws (E.getLastD 0) j] := by
  rw [leftL_succ, stN_append]
  congr 1
  · unfold leftL
    refine List.map_congr_left fun k hk => ?_
    have hk := List.mem_range.1 hk
    rw [getD_append_lt hk]
    unfold stN
    split
    · rfl
    · rw [getD_append_lt (by omega)]
  · rw [List.getD_eq_getElem?_getD, List.getElem?_append_right (Nat.le_refl _)]
    simp

/-- All that are listed fit. -/
theorem ext_ok {w : Int} {ws : List Int} : ∀ (f fr : Nat) (E : List Nat), prt w ws E → E.getLastD 0 = fr → fr ≤ ws.length → ∀ F ∈ ext w ws f fr, okEnds w ws (E ++ F)
  | 0, fr, E, hp, he, hn, F, hF => by
    unfold ext at hF
    split at hF
    · simp at hF; subst hF
      rw [List.append_nil]
      exact ⟨hp.1, by omega, hp.2⟩
    · simp at hF
  | f + 1, fr, E, hp, he, hn, F, hF => by
    unfold ext at hF
    split at hF
    · simp at hF; subst hF
      rw [List.append_nil]
      exact ⟨hp.1, by omega, hp.2⟩
    · rw [List.mem_flatMap] at hF
      obtain ⟨d, hd, hF⟩ := hF
      have hd := List.mem_range.1 hd
      split at hF
      · simp at hF
      · rename_i hnn
        rw [List.mem_map] at hF
        obtain ⟨G, hG, rfl⟩ := hF
        have := ext_ok f (fr + 1 + d) (E ++ [fr + 1 + d]) (part_snoc hp (by omega) (by omega) (by rw [he]; omega)) (lastD_snoc _ _) (by omega) G hG
        rwa [List.append_assoc, List.singleton_append] at this

/-- Each line of full lines ends no sooner than that of any others. -/
theorem ok_lines {w : Int} {ws : List Int} {E : List Nat} (h : okEnds w ws E) {k : Nat} (hk : k < E.length) : stN E k < E.getD k 0 ∧ E.getD k 0 ≤ ws.length ∧ 0 ≤ lf w ws (stN E k) (E.getD k 0) := by
  obtain ⟨h1, h2, h3⟩ := h
  have a := stN_lt h1 (k := k) (by simpa using hk)
  rw [toN_up] at a
  refine ⟨a, ?_, ?_⟩
  · have := asc_le h1 ((E.getD k 0 : Nat) : Int) (by rw [← up_getD, List.getD_eq_getElem?_getD]; simp [hk])
    omega
  · unfold over at h3
    rw [List.any_eq_false] at h3
    have := h3 (spanN E k) (List.mem_of_getElem? (spansN_get hk))
    simp [spanN] at this
    exact this
theorem endN_max {w : Int} {ws : List Int} {i : Nat} : ∀ (m j : Nat), j ≤ m → 0 ≤ lf w ws i j → j ≤ endN w ws i m
  | 0, j, h, _ => by omega
  | m + 1, j, h, hn => by
    unfold endN
    split
    · rename_i hneg
      by_cases he : j = m + 1
      · subst he; omega
      · exact endN_max m j (by omega) hn
    · omega
theorem full_get {w : Int} {ws : List Int} : ∀ (f fr v : Nat), v < (fullE w ws f fr).length → (fullE w ws f fr).getD v 0 = endN w ws (if v = 0 then fr else (fullE w ws f fr).getD (v - 1) 0) ws.length
  | 0, fr, v, h => by simp [fullE] at h
  | f + 1, fr, v, h => by
    unfold fullE at h ⊢
    split at h
    · rename_i hlt
      rw [if_pos hlt]
      cases v with
      | zero => rfl
      | succ v =>
        have := full_get f (endN w ws fr ws.length) v (by simpa using h)
        rw [List.getD_cons_succ, this, if_neg (show ¬ (v + 1 = 0) by omega), Nat.add_sub_cancel]
        cases v with
        | zero => rfl
        | succ v => simp
    · simp at h
/-- Full ends reach the last word. -/
theorem full_last {w : Int} {ws : List Int} (hc : chk w ws = 0) : ∀ (f fr : Nat), fr < ws.length → ws.length - fr ≤ f → fullE w ws f fr ≠ [] ∧ (fullE w ws f fr).getD ((fullE w ws f fr).length - 1) 0 = ws.length
  | 0, fr, h, hf => by omega
  | f + 1, fr, h, hf => by
    have he := endN_range hc h ws.length h
    unfold fullE
    rw [if_pos h]
    refine ⟨by simp, ?_⟩
    by_cases hd : endN w ws fr ws.length < ws.length
    · obtain ⟨i1, i2⟩ := full_last hc f _ hd (by omega)
      have hl : 0 < (fullE w ws f (endN w ws fr ws.length)).length := List.length_pos_iff.2 i1
      rw [List.length_cons, Nat.add_sub_cancel]
      obtain ⟨m, hm⟩ : ∃ m, (fullE w ws f (endN w ws fr ws.length)).length = m + 1 := ⟨_, (Nat.succ_pred_eq_of_pos hl).symm⟩
      rw [hm, List.getD_cons_succ]
      rw [hm, Nat.add_sub_cancel] at i2
      exact i2
    · have : endN w ws fr ws.length = ws.length := by omega
      rw [this, fullE_done]; rfl
theorem endN_mono {w : Int} {ws : List Int} (hc : chk w ws = 0) {i i' : Nat} (h : i ≤ i') (hi : i' < ws.length) {j : Nat} (hij : i' ≤ j) (hj : j ≤ ws.length) (hf : 0 ≤ lf w ws i j) : j ≤ endN w ws i' ws.length :=
  endN_max _ _ hj (by have := lf_mono2 hc h hij hj; omega)
/-- Full lines are ahead of all others, line by line. -/
theorem full_ahead {w : Int} {ws : List Int} (hc : chk w ws = 0) {E : List Nat} (hE : okEnds w ws E) : ∀ v, v < E.length → v < (fullE w ws ws.length 0).length → E.getD v 0 ≤ (fullE w ws ws.length 0).getD v 0
  | 0, h1, h2 => by
    obtain ⟨a1, a2, a3⟩ := ok_lines hE h1
    rw [full_get _ _ _ h2]
    simp only [if_true]
    exact endN_max _ _ a2 (by simpa [stN] using a3)
  | v + 1, h1, h2 => by
    have ih := full_ahead hc hE v (by omega) (by omega)
    obtain ⟨a1, a2, a3⟩ := ok_lines hE h1
    rw [full_get _ _ _ h2, if_neg (by omega), Nat.add_sub_cancel]
    have e : stN E (v + 1) = E.getD v 0 := by simp [stN]
    rw [e] at a1 a3
    have hlt : (fullE w ws ws.length 0).getD v 0 < ws.length ∨ (fullE w ws ws.length 0).getD v 0 = ws.length ∨ ws.length < (fullE w ws ws.length 0).getD v 0 := by omega
    rcases hlt with h | h | h
    · by_cases hle : (fullE w ws ws.length 0).getD v 0 ≤ E.getD (v + 1) 0
      · exact endN_mono hc ih h hle a2 a3
      · have := endN_range hc h ws.length h
        omega
    · have hb := full_get (w := w) (ws := ws) ws.length 0 (v + 1) h2
      rw [if_neg (by omega), Nat.add_sub_cancel, h] at hb
      rw [h]
      -- there is no further line
      exfalso
      have hmem : ∀ (f fr v : Nat), v + 1 < (fullE w ws f fr).length → (fullE w ws f fr).getD v 0 < ws.length := by
        intro f
        induction f with
        | zero => intro fr v h; simp [fullE] at h
        | succ f ih2 =>
          intro fr v h
          unfold fullE at h ⊢
          split at h
          · rename_i hl
            rw [if_pos hl]
            cases v with
            | zero =>
              rw [List.getD_cons_zero]
              by_cases hd : endN w ws fr ws.length < ws.length
              · exact hd
              · have := endN_range hc hl ws.length hl
                have he : endN w ws fr ws.length = ws.length := by omega
                rw [he, fullE_done] at h
                simp at h
            | succ v =>
              rw [List.getD_cons_succ]
              exact ih2 _ v (by simpa using h)
          · simp at h
      have := hmem _ _ _ h2
      omega
    · exfalso
      have hv : v < (fullE w ws ws.length 0).length := by omega
      have hb := full_get (w := w) (ws := ws) ws.length 0 v hv
      have : ∀ m i, endN w ws i m ≤ m := by
        intro m
        induction m with
        | zero => intro i; simp [endN]
        | succ m ih3 =>
          intro i
          unfold endN
          split
          · have := ih3 i; omega
          · omega
      have := this ws.length (if v = 0 then 0 else (fullE w ws ws.length 0).getD (v - 1) 0)
      omega
/-- No ends have fewer lines. -/
theorem full_fewest {w : Int} {ws : List Int} (hc : chk w ws = 0) {E : List Nat} (hE : okEnds w ws E) : (fullE w ws ws.length 0).length ≤ E.length := by
  have hn := chk_ok hc
  have hne : E ≠ [] := by
    rintro rfl
    have := hE.2.1
    simp at this
    omega
  have hl : 0 < E.length := List.length_pos_iff.2 hne
  by_cases h : (fullE w ws ws.length 0).length ≤ E.length
  · exact h
  · exfalso
    have h1 := full_ahead hc hE (E.length - 1) (by omega) (by omega)
    rw [getD_last E hne, hE.2.1] at h1
    -- a full line that ends with the last word is the last
    have hmem : ∀ (f fr v : Nat), v + 1 < (fullE w ws f fr).length → (fullE w ws f fr).getD v 0 < ws.length := by
      intro f
      induction f with
      | zero => intro fr v h; simp [fullE] at h
      | succ f ih2 =>
        intro fr v h
        unfold fullE at h ⊢
        split at h
        · rename_i hl
          rw [if_pos hl]
          cases v with
          | zero =>
            rw [List.getD_cons_zero]
            by_cases hd : endN w ws fr ws.length < ws.length
            · exact hd
            · have := endN_range hc hl ws.length hl
              have he : endN w ws fr ws.length = ws.length := by omega
              rw [he, fullE_done] at h
              simp at h
          | succ v =>
            rw [List.getD_cons_succ]
            exact ih2 _ v (by simpa using h)
        · simp at h
    have := hmem ws.length 0 (E.length - 1) (by omega)
    omega
end Line

/- The first best ends fit. -/
set_option linter.unusedVariables false
namespace Line
theorem stepR_fit {w : Int} {ws : List Int} {n : Nat} {R : Nat → Best} {i j : Nat} (hj : j ≤ n) {acc : Best} (ha : acc.2.2 = 0 ∨ 0 ≤ lf w ws i acc.2.1) : (stepR w ws n R i j acc).2.2 = 0 ∨ 0 ≤ lf w ws i (stepR w ws n R i j acc).2.1 := by
  unfold stepR
  split
  · exact ha
  · rename_i hnn
    by_cases hjn : j < n
    · simp only [hjn, if_true]
      split
      · exact .inr (Int.not_lt.1 hnn)
      · split
        · exact .inr (Int.not_lt.1 hnn)
        · exact ha
    · have : j = n := by omega
      subst this
      simp only [hjn, if_false]
      split
      · exact .inr (Int.not_lt.1 hnn)
      · split
        · exact .inr (Int.not_lt.1 hnn)
        · exact ha
theorem scanR_fit {w : Int} {ws : List Int} {n : Nat} {R : Nat → Best} {i : Nat} : ∀ (m : Nat) (acc : Best), i + m ≤ n → (acc.2.2 = 0 ∨ 0 ≤ lf w ws i acc.2.1) → (scanR w ws n R i m acc).2.2 = 0 ∨ 0 ≤ lf w ws i (scanR w ws n R i m acc).2.1
  | 0, acc, _, h => h
  | m + 1, acc, hm, h => scanR_fit m _ (by omega) (stepR_fit (by omega) h)
theorem rst_fit {w : Int} {ws : List Int} : ∀ (k : Nat), k ≤ ws.length → ∀ i, ws.length - k ≤ i → i < ws.length → ((rst w ws ws.length k).getD (i - (ws.length - k)) (0, 0, 0)).2.2 = 0 ∨ 0 ≤ lf w ws i ((rst w ws ws.length k).getD (i - (ws.length - k)) (0, 0, 0)).2.1
  | 0, _ => by intro i h1 h2; omega
  | k + 1, hk => by
    intro i h1 h2
    by_cases hi : i = ws.length - (k + 1)
    · have := scanR_fit (w := w) (ws := ws) (n := ws.length) (R := fun j => (rst w ws ws.length k).getD (j - (ws.length - k)) (0, 0, 0)) (i := i) (k + 1) (0, 0, 0) (by omega) (.inl rfl)
      rw [hi] at this ⊢
      simpa only [rst, Nat.sub_self, List.getD_cons_zero] using this
    · have := rst_fit (w := w) k (by omega) i (by omega) h2
      rw [show i - (ws.length - (k + 1)) = (i - (ws.length - k)) + 1 by omega]
      simpa only [rst, List.getD_cons_succ] using this
theorem firstE_ok {w : Int} {ws : List Int} (hc : chk w ws = 0) : ∀ (f fr : Nat) (E : List Nat), prt w ws E → E.getLastD 0 = fr → fr ≤ ws.length → ws.length - fr ≤ f → okEnds w ws (E ++ firstE (rst w ws ws.length ws.length) ws.length f fr)
  | 0, fr, E, hp, he, hn, hf => by
    rw [firstE, List.append_nil]
    exact ⟨hp.1, by omega, hp.2⟩
  | f + 1, fr, E, hp, he, hn, hf => by
    unfold firstE
    split
    · rename_i hlt
      have h1 := rst_end hc ws.length (Nat.le_refl _) fr (by omega) hlt
      have h2 := rst_fit (w := w) (ws := ws) ws.length (Nat.le_refl _) fr (by omega) hlt
      rw [Nat.sub_self, Nat.sub_zero] at h1 h2
      generalize ((rst w ws ws.length ws.length).getD fr (0, 0, 0)) = b at *
      have h3 : 0 ≤ lf w ws fr b.2.1 := by
        rcases h2 with h2 | h2
        · omega
        · exact h2
      have := firstE_ok hc f b.2.1 (E ++ [b.2.1]) (part_snoc hp (by omega) h1.2.1 (by rw [he]; exact h3)) (lastD_snoc _ _) h1.2.1 (by omega)
      rwa [List.append_assoc, List.singleton_append] at this
    · rw [List.append_nil]
      exact ⟨hp.1, by omega, hp.2⟩
end Line

/- All ends of the first words. -/
set_option linter.unusedVariables false
namespace Line
theorem lastD_one (E : List Nat) (j : Nat) : (E ++ [j]).getLastD 0 = j := by simp
/-- All ends for the first 'n' words from a place on whose lines fit, in ascending order. -/
def extM (w : Int) (ws : List Int) (n : Nat) : Nat → Nat → List (List Nat)
  | 0, fr => if fr = n then [[]] else []
  | f + 1, fr => if fr = n then [[]] else (List.range (n - fr)).flatMap fun d => if lf w ws fr (fr + 1 + d) < 0 then [] else (extM w ws n f (fr + 1 + d)).map (fun G => (fr + 1 + d) :: G)
def extMTo (w : Int) (ws : List Int) (n f fr m : Nat) : List (List Nat) := (List.range m).flatMap fun d => if lf w ws fr (fr + 1 + d) < 0 then [] else (extM w ws n f (fr + 1 + d)).map (fun G => (fr + 1 + d) :: G)
theorem extMTo_succ (w : Int) (ws : List Int) (n f fr m : Nat) : extMTo w ws n f fr (m + 1) = extMTo w ws n f fr m ++ if lf w ws fr (fr + 1 + m) < 0 then [] else (extM w ws n f (fr + 1 + m)).map (fun G => (fr + 1 + m) :: G) := by
  unfold extMTo
  rw [List.range_succ, List.flatMap_append]
  simp
theorem extM_succ {w : Int} {ws : List Int} {n f fr : Nat} (h : fr ≠ n) : extM w ws n (f + 1) fr = extMTo w ws n f fr (n - fr) := by
  rw [extM, if_neg h]; rfl
theorem extM_done {w : Int} {ws : List Int} {n f : Nat} : extM w ws n f n = [[]] := by cases f <;> simp [extM]
theorem extMTo_len {w : Int} {ws : List Int} {n f fr B : Nat} (hB : ∀ j, (extM w ws n f j).length ≤ B) : ∀ m, (extMTo w ws n f fr m).length ≤ m * B
  | 0 => by simp [extMTo]
  | m + 1 => by
    have ih := extMTo_len (fr := fr) hB m
    rw [extMTo_succ, List.length_append, Nat.add_mul, Nat.one_mul]
    split
    · simp; omega
    · have := hB (fr + 1 + m)
      simp; omega
theorem extM_len {w : Int} {ws : List Int} {n : Nat} (hn : n ≤ 10) : ∀ (f fr : Nat), (extM w ws n f fr).length ≤ 10 ^ f
  | 0, fr => by unfold extM; split <;> simp
  | f + 1, fr => by
    have hp : 1 ≤ 10 ^ (f + 1) := Nat.one_le_pow _ _ (by decide)
    by_cases h : fr = n
    · subst h; rw [extM_done]; simpa using hp
    · rw [extM_succ h]
      have := extMTo_len (w := w) (ws := ws) (n := n) (f := f) (fr := fr) (fun j => extM_len hn f j) (n - fr)
      have h2 : (n - fr) * 10 ^ f ≤ 10 * 10 ^ f := Nat.mul_le_mul_right _ (by omega)
      rw [Nat.pow_succ, Nat.mul_comm (10 ^ f) 10]
      omega
end Line

/- Chains of lines: membership, cost; what 'even' gives is what is known of the places. -/
set_option linter.unusedVariables false
namespace Line
theorem snoc_ind {P : List Nat → Prop} (h0 : P []) (h1 : ∀ G j, P G → P (G ++ [j])) (F : List Nat) : P F := by
  have : ∀ l : List Nat, P l.reverse := by
    intro l
    induction l with
    | nil => exact h0
    | cons a l ih => rw [List.reverse_cons]; exact h1 _ _ ih
  have := this F.reverse
  rwa [List.reverse_reverse] at this
/-- Lines from a place on, that fit. -/
def chn (w : Int) (ws : List Int) : Nat → List Nat → Prop
  | _, [] => True
  | fr, j :: G => fr < j ∧ 0 ≤ lf w ws fr j ∧ chn w ws j G
theorem chn_snoc {w : Int} {ws : List Int} : ∀ {G : List Nat} {fr j : Nat}, chn w ws fr (G ++ [j]) ↔ chn w ws fr G ∧ G.getLastD fr < j ∧ 0 ≤ lf w ws (G.getLastD fr) j
  | [], fr, j => by simp [chn]
  | a :: G, fr, j => by
    rw [List.cons_append, chn, chn, chn_snoc (G := G), List.getLastD_cons]
    constructor
    · rintro ⟨h1, h2, h3, h4, h5⟩; exact ⟨⟨h1, h2, h3⟩, h4, h5⟩
    · rintro ⟨⟨h1, h2, h3⟩, h4, h5⟩; exact ⟨h1, h2, h3, h4, h5⟩
theorem chn_le {w : Int} {ws : List Int} : ∀ {G : List Nat} {fr : Nat}, chn w ws fr G → fr ≤ G.getLastD fr
  | [], fr, _ => by simp
  | a :: G, fr, h => by
    rw [List.getLastD_cons]
    have := chn_le h.2.2
    have := h.1
    omega
theorem mem_extM {w : Int} {ws : List Int} {n : Nat} : ∀ (f fr : Nat) (F : List Nat), fr ≤ n → n - fr ≤ f → (F ∈ extM w ws n f fr ↔ chn w ws fr F ∧ F.getLastD fr = n)
  | 0, fr, F, hn, hf => by
    have : fr = n := by omega
    subst this
    rw [extM_done, List.mem_singleton]
    constructor
    · rintro rfl; exact ⟨trivial, rfl⟩
    · rintro ⟨h1, h2⟩
      cases F with
      | nil => rfl
      | cons a G =>
        have := chn_le h1.2.2
        have := h1.1
        rw [List.getLastD_cons] at h2
        omega
  | f + 1, fr, F, hn, hf => by
    by_cases h : fr = n
    · subst h
      rw [extM_done, List.mem_singleton]
      constructor
      · rintro rfl; exact ⟨trivial, rfl⟩
      · rintro ⟨h1, h2⟩
        cases F with
        | nil => rfl
        | cons a G =>
          have := chn_le h1.2.2
          have := h1.1
          rw [List.getLastD_cons] at h2
          omega
    · rw [extM_succ h]
      unfold extMTo
      rw [List.mem_flatMap]
      constructor
      · rintro ⟨d, hd, hF⟩
        have hd := List.mem_range.1 hd
        split at hF
        · simp at hF
        · rename_i hnn
          obtain ⟨G, hG, rfl⟩ := List.mem_map.1 hF
          obtain ⟨g1, g2⟩ := (mem_extM f (fr + 1 + d) G (by omega) (by omega)).1 hG
          refine ⟨⟨by omega, by omega, g1⟩, ?_⟩
          rw [List.getLastD_cons]; exact g2
      · rintro ⟨h1, h2⟩
        cases F with
        | nil => simp at h2; omega
        | cons a G =>
          obtain ⟨g1, g2, g3⟩ := h1
          rw [List.getLastD_cons] at h2
          have hle := chn_le g3
          refine ⟨a - fr - 1, List.mem_range.2 (by omega), ?_⟩
          rw [show fr + 1 + (a - fr - 1) = a by omega, if_neg (by omega), List.mem_map]
          exact ⟨G, (mem_extM f a G (by omega) (by omega)).2 ⟨g3, h2⟩, rfl⟩
/-- What lines cost. -/
def cst (w : Int) (ws : List Int) : Nat → List Nat → Int
  | _, [] => 0
  | fr, j :: G => sqf w ws fr j + cst w ws j G
theorem cst_snoc {w : Int} {ws : List Int} : ∀ {G : List Nat} {fr j : Nat}, cst w ws fr (G ++ [j]) = cst w ws fr G + sqf w ws (G.getLastD fr) j
  | [], fr, j => by simp [cst]
  | a :: G, fr, j => by
    rw [List.cons_append, cst, cst, cst_snoc (G := G), List.getLastD_cons]; omega
/-- The same, but for the last line. -/
def cstL (w : Int) (ws : List Int) : Nat → List Nat → Int
  | _, [] => 0
  | fr, [j] => 0
  | fr, j :: k :: G => sqf w ws fr j + cstL w ws j (k :: G)
theorem cstL_snoc {w : Int} {ws : List Int} : ∀ {G : List Nat} {fr j : Nat}, cstL w ws fr (G ++ [j]) = cst w ws fr G
  | [], fr, j => by simp [cst, cstL]
  | [a], fr, j => by simp [cst, cstL]
  | a :: b :: G, fr, j => by
    rw [List.cons_append, List.cons_append, cstL, ← List.cons_append, cstL_snoc (G := b :: G)]
    simp only [cst]
theorem wantE_append {w : Int} {ws : List Int} {G r : List Nat} {m : Nat} : ∀ i, i ≤ G.length → wantE w ws (G ++ r) m i = wantE w ws G m i
  | 0, _ => rfl
  | i + 1, h => by
    rw [wantE, wantE, wantE_append i (by omega), getD_append_lt (by omega)]
    have : stN (G ++ r) i = stN G i := by
      unfold stN
      split
      · rfl
      · rw [getD_append_lt (by omega)]
    rw [this]
theorem want_cst {w : Int} {ws : List Int} (F : List Nat) : wantE w ws F F.length F.length = cst w ws 0 F := by
  refine snoc_ind (P := fun F => wantE w ws F F.length F.length = cst w ws 0 F) rfl (fun G j ih => ?_) F
  rw [cst_snoc, ← ih, List.length_append, List.length_singleton, wantE, if_pos (by omega), stN_append, wantE_append _ (Nat.le_refl _), wantE_m (m' := G.length) (by omega) (Nat.le_refl _)]
  congr 2
  rw [List.getD_eq_getElem?_getD, List.getElem?_append_right (Nat.le_refl _)]
  simp
theorem want_cstL {w : Int} {ws : List Int} {F : List Nat} (hne : F ≠ []) : wantE w ws F (F.length - 1) (F.length - 1) = cstL w ws 0 F := by
  revert hne
  refine snoc_ind (P := fun F => F ≠ [] → wantE w ws F (F.length - 1) (F.length - 1) = cstL w ws 0 F) (fun h => absurd rfl h) (fun G j _ _ => ?_) F
  rw [cstL_snoc, List.length_append, List.length_singleton, Nat.add_sub_cancel, wantE_append _ (Nat.le_refl _), want_cst]
theorem chn_asc {w : Int} {ws : List Int} {n : Nat} (F : List Nat) : chn w ws 0 F → F.getLastD 0 ≤ n → asc n 0 (up F) := by
  refine snoc_ind (P := fun F => chn w ws 0 F → F.getLastD 0 ≤ n → asc n 0 (up F)) (fun _ _ => trivial) (fun G j ih h1 h2 => ?_) F
  obtain ⟨g1, g2, g3⟩ := chn_snoc.1 h1
  rw [lastD_one] at h2
  rw [up_snoc]
  exact asc_snoc (ih g1 (by omega)) (by rw [up_lastD]; omega) (by omega) (by omega)
theorem chn_lines {w : Int} {ws : List Int} {n : Nat} {F : List Nat} (h : chn w ws 0 F) (hl : F.getLastD 0 ≤ n) : ∀ k, k < F.length → stN F k < F.getD k 0 ∧ F.getD k 0 ≤ n ∧ stN F k ≤ n := by
  intro k hk
  have ha := chn_asc F h hl
  have h1 := stN_lt ha (k := k) (by simpa using hk)
  rw [toN_up] at h1
  have h2 : F.getD k 0 ≤ n := by
    have := asc_le ha ((F.getD k 0 : Nat) : Int) (by rw [← up_getD, List.getD_eq_getElem?_getD]; simp [hk])
    omega
  omega
theorem chn_length {w : Int} {ws : List Int} : ∀ {F : List Nat} {fr : Nat}, chn w ws fr F → F.length + fr ≤ F.getLastD fr
  | [], fr, _ => by simp
  | a :: G, fr, h => by
    have := chn_length h.2.2
    have := h.1
    rw [List.getLastD_cons, List.length_cons]; omega
/-- Where the last line begins. -/
def lastSt (F : List Nat) : Nat := stN F (F.length - 1)
theorem lastSt_snoc (G : List Nat) (j : Nat) : lastSt (G ++ [j]) = G.getLastD 0 := by
  unfold lastSt
  rw [List.length_append, List.length_singleton, Nat.add_sub_cancel, stN_append]
/-- The least cost, and the smallest start for it. -/
def lex (w : Int) (ws : List Int) (L : List (List Nat)) (r : Int × Nat) : Prop :=
  (∃ F ∈ L, cst w ws 0 F = r.1 ∧ lastSt F = r.2) ∧ ∀ F ∈ L, r.1 < cst w ws 0 F ∨ (r.1 = cst w ws 0 F ∧ r.2 ≤ lastSt F)
theorem lex_unique {w : Int} {ws : List Int} {L : List (List Nat)} {r r' : Int × Nat} (h : lex w ws L r) (h' : lex w ws L r') : r = r' := by
  obtain ⟨⟨F, a1, a2, a3⟩, a4⟩ := h
  obtain ⟨⟨F', b1, b2, b3⟩, b4⟩ := h'
  have h1 := a4 F' b1
  have h2 := b4 F a1
  rw [b2, b3] at h1
  rw [a2, a3] at h2
  exact Prod.ext (by omega) (by omega)
/-- The places know the least costs. -/
theorem pls_lex {w : Int} {ws : List Int} (hc : chk w ws = 0) : ∀ n, n ≤ ws.length → 1 ≤ n → lex w ws (extM w ws n n 0) ((pls w ws n).getD n (0, 0)) := by
  have key : ∀ n, n ≤ ws.length → (∃ F ∈ extM w ws n n 0, cst w ws 0 F = ((pls w ws n).getD n (0, 0)).1) ∧ (∀ F ∈ extM w ws n n 0, ((pls w ws n).getD n (0, 0)).1 ≤ cst w ws 0 F) ∧ (1 ≤ n → lex w ws (extM w ws n n 0) ((pls w ws n).getD n (0, 0))) := by
    intro n
    induction n using Nat.strongRecOn with
    | _ n ih =>
      intro hn
      cases n with
      | zero =>
        rw [extM_done]
        refine ⟨⟨[], by simp, rfl⟩, fun F hF => ?_, fun h => by omega⟩
        rw [List.mem_singleton] at hF; subst hF
        simp [pls, cst]
      | succ k =>
        have hb := pls_bst hc (k := k) (by omega)
        generalize (pls w ws (k + 1)).getD (k + 1) (0, 0) = r at *
        obtain ⟨b1, b2, b3, b4⟩ := hb
        have hP : ∀ s, s ≤ k → ((pls w ws k).getD s (0, 0)) = (pls w ws s).getD s (0, 0) := fun s hs => by
          have := pls_get (w := w) (ws := ws) (k := s) (m := s) (Nat.le_refl _) (k - s)
          rwa [show s + (k - s) = k by omega] at this
        have hall : ∀ F ∈ extM w ws (k + 1) (k + 1) 0, r.1 < cst w ws 0 F ∨ (r.1 = cst w ws 0 F ∧ r.2 ≤ lastSt F) := by
          intro F hF
          obtain ⟨h1, h2⟩ := (mem_extM (k + 1) 0 F (by omega) (by omega)).1 hF
          revert h1 h2
          refine snoc_ind (P := fun F => chn w ws 0 F → F.getLastD 0 = k + 1 → r.1 < cst w ws 0 F ∨ (r.1 = cst w ws 0 F ∧ r.2 ≤ lastSt F)) (fun _ h => by simp at h) (fun G j _ h1 h2 => ?_) F
          rw [lastD_one] at h2
          subst h2
          obtain ⟨g1, g2, g3⟩ := chn_snoc.1 h1
          rw [cst_snoc, lastSt_snoc]
          generalize hs : G.getLastD 0 = s at *
          have hG : G ∈ extM w ws s s 0 := (mem_extM s 0 G (by omega) (by omega)).2 ⟨g1, hs⟩
          have h3 := (ih s g2 (by omega)).2.1 G hG
          have h4 := b4 s g2 g3
          unfold costL at h4
          rw [hP s (by omega)] at h4
          by_cases hlt : s < r.2
          · have := h4.2 hlt; left; omega
          · have := h4.1
            by_cases he : r.1 = cst w ws 0 G + sqf w ws s (k + 1)
            · exact .inr ⟨he, by omega⟩
            · exact .inl (by omega)
        have hex : ∃ F ∈ extM w ws (k + 1) (k + 1) 0, cst w ws 0 F = r.1 ∧ lastSt F = r.2 := by
          obtain ⟨G, hG, hcG⟩ := (ih r.2 b1 (by omega)).1
          obtain ⟨g1, g2⟩ := (mem_extM r.2 0 G (by omega) (by omega)).1 hG
          refine ⟨G ++ [k + 1], (mem_extM (k + 1) 0 _ (by omega) (by omega)).2 ⟨chn_snoc.2 ⟨g1, by omega, by rw [g2]; exact b2⟩, lastD_one _ _⟩, ?_, ?_⟩
          · rw [cst_snoc, hcG, g2, b3]
            unfold costL
            rw [hP r.2 (by omega)]
          · rw [lastSt_snoc, g2]
        refine ⟨?_, fun F hF => ?_, fun _ => ⟨hex, hall⟩⟩
        · obtain ⟨F, h1, h2, _⟩ := hex; exact ⟨F, h1, h2⟩
        · rcases hall F hF with h | h <;> omega
  exact fun n hn h1 => (key n hn).2.2 h1
end Line

/- A greater width, one word more; chains of lines are ends that fit. -/
set_option linter.unusedVariables false
namespace Line
theorem prt_chn {w : Int} {ws : List Int} (E : List Nat) : prt w ws E ↔ chn w ws 0 E ∧ E.getLastD 0 ≤ ws.length := by
  refine snoc_ind (P := fun E => prt w ws E ↔ chn w ws 0 E ∧ E.getLastD 0 ≤ ws.length) ?_ (fun G j ih => ?_) E
  · exact ⟨fun _ => ⟨trivial, by simp⟩, fun _ => part_nil w ws⟩
  · constructor
    · rintro ⟨h1, h2⟩
      have h3 : asc ws.length 0 (up G) ∧ G.getLastD 0 < j ∧ j ≤ ws.length := by
        have key : ∀ (l : List Nat) (last : Int) (x : Nat), asc ws.length last (up (l ++ [x])) → asc ws.length last (up l) ∧ (up l).getLastD last < x ∧ x ≤ ws.length := by
          intro l
          induction l with
          | nil =>
            intro last x h
            simp only [List.nil_append, up, List.map_cons, List.map_nil, asc] at h ⊢
            refine ⟨trivial, ?_, ?_⟩
            · simp only [List.getLastD_nil]; omega
            · omega
          | cons a l ih =>
            intro last x h
            simp only [List.cons_append, up, List.map_cons, asc] at h ⊢
            obtain ⟨i1, i2, i3⟩ := ih _ x h.2.2.2
            refine ⟨⟨h.1, h.2.1, h.2.2.1, i1⟩, ?_, i3⟩
            rw [List.getLastD_cons]; exact i2
        obtain ⟨k1, k2, k3⟩ := key G 0 j h1
        rw [up_lastD] at k2
        exact ⟨k1, by omega, k3⟩
      rw [over_snoc, Bool.or_eq_false_iff, decide_eq_false_iff_not] at h2
      have h4 := ih.1 ⟨h3.1, h2.1⟩
      refine ⟨chn_snoc.2 ⟨h4.1, h3.2.1, by omega⟩, ?_⟩
      rw [lastD_one]; exact h3.2.2
    · rintro ⟨h1, h2⟩
      rw [lastD_one] at h2
      obtain ⟨c1, c2, c3⟩ := chn_snoc.1 h1
      exact part_snoc (ih.2 ⟨c1, by omega⟩) c2 h2 c3
theorem ok_chn {w : Int} {ws : List Int} {E : List Nat} : okEnds w ws E ↔ chn w ws 0 E ∧ E.getLastD 0 = ws.length := by
  constructor
  · rintro ⟨h1, h2, h3⟩
    exact ⟨((prt_chn E).1 ⟨h1, h3⟩).1, h2⟩
  · rintro ⟨h1, h2⟩
    have := (prt_chn E).2 ⟨h1, by omega⟩
    exact ⟨this.1, h2, this.2⟩
theorem full_chn {w : Int} {ws : List Int} (hc : chk w ws = 0) : ∀ (f fr : Nat), fr ≤ ws.length → ws.length - fr ≤ f → chn w ws fr (fullE w ws f fr) ∧ (fullE w ws f fr).getLastD fr = ws.length
  | 0, fr, h, hf => by
    have : fr = ws.length := by omega
    subst this
    rw [fullE_done]; exact ⟨trivial, rfl⟩
  | f + 1, fr, h, hf => by
    by_cases hlt : fr < ws.length
    · rw [fullE, if_pos hlt]
      have hr := endN_range hc hlt ws.length hlt
      have ih := full_chn hc f (endN w ws fr ws.length) hr.2 (by omega)
      refine ⟨⟨hr.1, ?_, ih.1⟩, ?_⟩
      · have key : ∀ m, fr < m → 0 ≤ lf w ws fr (endN w ws fr m) := by
          intro m
          induction m with
          | zero => intro h; omega
          | succ m ih =>
            intro h
            unfold endN
            split
            · rename_i hn
              by_cases hm : fr < m
              · exact ih hm
              · have : m = fr := by omega
                subst this
                have := lf_one hc hlt
                omega
            · omega
        exact key _ hlt
      · rw [List.getLastD_cons]; exact ih.2
    · have : fr = ws.length := by omega
      subst this
      rw [fullE_done]; exact ⟨trivial, rfl⟩
theorem full_ok {w : Int} {ws : List Int} (hc : chk w ws = 0) : okEnds w ws (fullE w ws ws.length 0) :=
  ok_chn.2 (full_chn hc _ _ (by omega) (by omega))
-- a greater width
theorem lf_wider {w : Int} {ws : List Int} {i j : Nat} : lf (w + 1) ws i j = lf w ws i j + 1 := by unfold lf leftS; omega
theorem chn_wider {w : Int} {ws : List Int} : ∀ {G : List Nat} {fr : Nat}, chn w ws fr G → chn (w + 1) ws fr G
  | [], _, _ => trivial
  | a :: G, fr, h => ⟨h.1, by have := h.2.1; rw [lf_wider]; omega, chn_wider h.2.2⟩
theorem chk_wider {w : Int} {ws : List Int} (hc : chk w ws = 0) (h : w < 40) : chk (w + 1) ws = 0 := by
  obtain ⟨w1, w2, n1, n2, hws⟩ := chk_ok hc
  unfold chk
  rw [if_neg (by omega), if_neg (by omega), if_neg (by omega), if_pos]
  intro x hx
  have := hws x hx
  omega
theorem ok_wider {w : Int} {ws : List Int} {E : List Nat} (h : okEnds w ws E) : okEnds (w + 1) ws E :=
  ok_chn.2 ⟨chn_wider (ok_chn.1 h).1, (ok_chn.1 h).2⟩
theorem full_wider {w : Int} {ws : List Int} (hc : chk w ws = 0) (h : w < 40) : (fullE (w + 1) ws ws.length 0).length ≤ (fullE w ws ws.length 0).length :=
  full_fewest (chk_wider hc h) (ok_wider (full_ok hc))
-- one word more
theorem psum_more {ws : List Int} {x : Int} {k : Nat} (h : k ≤ ws.length) : psum (ws ++ [x]) k = psum ws k := by
  unfold psum; rw [List.take_append_of_le_length h]
theorem lf_more {w : Int} {ws : List Int} {x : Int} {i j : Nat} (hi : i ≤ ws.length) (hj : j ≤ ws.length) : lf w (ws ++ [x]) i j = lf w ws i j := by
  rw [lf_eq (by simp; omega) (by simp; omega), lf_eq hi hj, psum_more hi, psum_more hj]
theorem chk_more {w : Int} {ws : List Int} {x : Int} (hc : chk w ws = 0) (hn : ws.length ≤ 9) (hx : 1 ≤ x ∧ x ≤ w) : chk w (ws ++ [x]) = 0 := by
  obtain ⟨w1, w2, n1, n2, hws⟩ := chk_ok hc
  unfold chk
  rw [if_neg (by omega), if_neg (by simp), if_neg (by simp; omega), if_pos]
  intro y hy
  rcases List.mem_append.1 hy with h | h
  · exact hws y h
  · rw [List.mem_singleton] at h; subst h; exact hx
theorem chn_more {w : Int} {ws : List Int} {x : Int} : ∀ {G : List Nat} {fr : Nat}, fr ≤ ws.length → G.getLastD fr ≤ ws.length → (chn w (ws ++ [x]) fr G ↔ chn w ws fr G)
  | [], _, _, _ => Iff.rfl
  | a :: G, fr, h1, h2 => by
    rw [List.getLastD_cons] at h2
    constructor
    · rintro ⟨g1, g2, g3⟩
      have := chn_le g3
      rw [lf_more h1 (by omega)] at g2
      exact ⟨g1, g2, (chn_more (by omega) h2).1 g3⟩
    · rintro ⟨g1, g2, g3⟩
      have := chn_le g3
      rw [← lf_more (x := x) h1 (by omega)] at g2
      exact ⟨g1, g2, (chn_more (by omega) h2).2 g3⟩
theorem full_more {w : Int} {ws : List Int} {x : Int} (hc : chk w ws = 0) (hn : ws.length ≤ 9) (hx : 1 ≤ x ∧ x ≤ w) :
    (fullE w ws ws.length 0).length ≤ (fullE w (ws ++ [x]) (ws ++ [x]).length 0).length ∧ (fullE w (ws ++ [x]) (ws ++ [x]).length 0).length ≤ (fullE w ws ws.length 0).length + 1 := by
  have hc' := chk_more hc hn hx
  have h1 := ok_chn.1 (full_ok hc)
  have h2 := ok_chn.1 (full_ok hc')
  have hl : (ws ++ [x]).length = ws.length + 1 := by simp
  constructor
  · generalize hF : fullE w (ws ++ [x]) (ws ++ [x]).length 0 = F at *
    rw [hl] at h2
    have hne : F ≠ [] := by rintro rfl; simp at h2
    obtain ⟨G, j, rfl⟩ : ∃ G j, F = G ++ [j] := ⟨F.dropLast, F.getLast hne, (List.dropLast_concat_getLast hne).symm⟩
    rw [lastD_one] at h2
    obtain ⟨⟨c1, c2, c3⟩, rfl⟩ := And.imp_left chn_snoc.1 h2
    by_cases hm : G.getLastD 0 = ws.length
    · have := full_fewest hc (ok_chn.2 ⟨(chn_more (by omega) (by omega)).1 c1, hm⟩)
      simp; omega
    · have hm2 : G.getLastD 0 < ws.length := by omega
      have h3 := lf_mono hc' (i := G.getLastD 0) (j := ws.length) (k := ws.length + 1) (by omega) (by omega) (by rw [hl]; omega)
      rw [lf_more (j := ws.length) (by omega) (by omega)] at h3
      have := full_fewest hc (E := G ++ [ws.length]) (ok_chn.2 ⟨chn_snoc.2 ⟨(chn_more (by omega) (by omega)).1 c1, hm2, by omega⟩, by rw [lastD_one]⟩)
      simpa using this
  · have := full_fewest hc' (E := fullE w ws ws.length 0 ++ [ws.length + 1]) (ok_chn.2 ⟨chn_snoc.2 ⟨(chn_more (by omega) (by omega)).2 h1.1, by omega, ?_⟩, by rw [lastD_one, hl]⟩)
    · simpa using this
    · rw [h1.2]
      exact lf_one hc' (by omega)
theorem scanB_more {w : Int} {ws : List Int} {x : Int} {P : List (Int × Nat)} {j : Nat} (hj : j ≤ ws.length) : ∀ (m : Nat) (acc : Int × Nat), m ≤ j → scanB w (ws ++ [x]) P j m acc = scanB w ws P j m acc
  | 0, _, _ => rfl
  | m + 1, acc, hm => by
    unfold scanB
    rw [lf_more (by omega) hj, scanB_more hj m _ (by omega)]
    unfold sqf
    rw [lf_more (by omega) hj]
theorem pls_more {w : Int} {ws : List Int} {x : Int} : ∀ k, k ≤ ws.length → pls w (ws ++ [x]) k = pls w ws k
  | 0, _ => rfl
  | k + 1, hk => by
    unfold pls
    rw [pls_more k (by omega), scanB_more hk _ _ (by omega)]
end Line

/- The opposite order. -/
set_option linter.unusedVariables false
namespace Line
/-- The ends of lines from the other end. -/
def rv (n fr : Nat) (G : List Nat) : List Nat := ((fr :: G).dropLast.map (n - ·)).reverse
/-- What is left of lines. -/
def rs (w : Int) (ws : List Int) : Nat → List Nat → List Int
  | _, [] => []
  | fr, j :: G => lf w ws fr j :: rs w ws j G
theorem rv_nil (n fr : Nat) : rv n fr [] = [] := rfl
theorem rv_cons (n fr j : Nat) (G : List Nat) : rv n fr (j :: G) = rv n j G ++ [n - fr] := by simp [rv, List.dropLast_cons_of_ne_nil]
theorem rs_snoc {w : Int} {ws : List Int} {j : Nat} : ∀ {G : List Nat} {fr : Nat}, rs w ws fr (G ++ [j]) = rs w ws fr G ++ [lf w ws (G.getLastD fr) j]
  | [], fr => rfl
  | a :: G, fr => by rw [List.cons_append, rs, rs, rs_snoc, List.getLastD_cons]; rfl
theorem rs_left {w : Int} {ws : List Int} (E : List Nat) : rs w ws 0 E = leftL w ws E E.length := by
  refine snoc_ind (P := fun E => rs w ws 0 E = leftL w ws E E.length) rfl (fun G j ih => ?_) E
  rw [rs_snoc, ih]
  have := leftL_snoc w ws G j
  simpa using this.symm
theorem psum_rev {ws : List Int} {k : Nat} (h : k ≤ ws.length) : psum ws.reverse k = psum ws ws.length - psum ws (ws.length - k) := by
  unfold psum
  rw [List.take_reverse, List.sum_reverse, List.take_length]
  have := congrArg List.sum (List.take_append_drop (ws.length - k) ws)
  rw [List.sum_append] at this
  omega
theorem lf_rev {w : Int} {ws : List Int} {a b : Nat} (hab : a ≤ b) (hb : b ≤ ws.length) : lf w ws.reverse (ws.length - b) (ws.length - a) = lf w ws a b := by
  rw [lf_eq (by simp) (by simp), lf_eq (by omega) hb, psum_rev (by omega), psum_rev (by omega)]
  rw [show ws.length - (ws.length - b) = b by omega, show ws.length - (ws.length - a) = a by omega]
  omega
theorem chk_rev {w : Int} {ws : List Int} (hc : chk w ws = 0) : chk w ws.reverse = 0 := by
  obtain ⟨w1, w2, n1, n2, hws⟩ := chk_ok hc
  unfold chk
  rw [if_neg (by omega), if_neg (by rw [List.length_reverse]; omega), if_neg (by rw [List.length_reverse]; omega), if_pos]
  intro x hx
  exact hws x (List.mem_reverse.1 hx)
theorem chn_rev {w : Int} {ws : List Int} : ∀ {G : List Nat} {fr : Nat}, chn w ws fr G → G.getLastD fr = ws.length →
    chn w ws.reverse 0 (rv ws.length fr G) ∧ (rv ws.length fr G).getLastD 0 = ws.length - fr ∧ rs w ws.reverse 0 (rv ws.length fr G) = (rs w ws fr G).reverse
  | [], fr, h, hl => by
    simp only [List.getLastD_nil] at hl
    subst hl
    refine ⟨trivial, by simp [rv_nil], rfl⟩
  | j :: G, fr, h, hl => by
    rw [List.getLastD_cons] at hl
    obtain ⟨i1, i2, i3⟩ := chn_rev h.2.2 hl
    have hj := chn_le h.2.2
    rw [hl] at hj
    have hlt := h.1
    rw [rv_cons]
    refine ⟨chn_snoc.2 ⟨i1, by omega, ?_⟩, by simp, ?_⟩
    · rw [i2, lf_rev (by omega) hj]; exact h.2.1
    · rw [rs_snoc, i3, i2, lf_rev (by omega) hj, rs, List.reverse_cons]
theorem ok_rev {w : Int} {ws : List Int} {E : List Nat} (h : okEnds w ws E) : okEnds w ws.reverse (rv ws.length 0 E) := by
  obtain ⟨h1, h2⟩ := ok_chn.1 h
  obtain ⟨i1, i2, _⟩ := chn_rev h1 h2
  exact ok_chn.2 ⟨i1, by rw [i2, List.length_reverse]; rfl⟩
theorem rv_length {n fr : Nat} {E : List Nat} : (rv n fr E).length = E.length := by simp [rv]
theorem left_rev {w : Int} {ws : List Int} {E : List Nat} (h : okEnds w ws E) : leftL w ws.reverse (rv ws.length 0 E) E.length = (leftL w ws E E.length).reverse := by
  obtain ⟨h1, h2⟩ := ok_chn.1 h
  have := (chn_rev h1 h2).2.2
  rw [rs_left, rs_left, rv_length] at this
  exact this
theorem full_rev {w : Int} {ws : List Int} (hc : chk w ws = 0) : (fullE w ws.reverse ws.reverse.length 0).length = (fullE w ws ws.length 0).length := by
  have h1 := full_fewest (chk_rev hc) (ok_rev (full_ok hc))
  have h2 := full_fewest (ws := ws.reverse.reverse) (chk_rev (chk_rev hc)) (ok_rev (full_ok (chk_rev hc)))
  rw [rv_length] at h1 h2
  rw [List.reverse_reverse] at h2
  omega
end Line

/- Some ends of a text: lines as full as they can be, or shorter by numbers. -/
set_option linter.unusedVariables false
namespace Line
def brT (w : Int) (ws : List Int) (st : List Nat) (fr : Nat) : Nat → Nat → Nat
  | 0, to => to
  | f + 1, to => if to < ws.length ∧ 0 ≤ lf w ws fr (to + 1) ∧ 0 < st.getD to 0 % 4 then brT w ws st fr f (to + 1) else to
def brk (w : Int) (ws : List Int) (st : List Nat) : Nat → Nat → List Nat
  | 0, _ => []
  | f + 1, fr => if fr < ws.length then brT w ws st fr ws.length (fr + 1) :: brk w ws st f (brT w ws st fr ws.length (fr + 1)) else []
theorem brk_done (w : Int) (ws : List Int) (st : List Nat) (f : Nat) : brk w ws st f ws.length = [] := by cases f <;> simp [brk]
theorem brT_stop {w : Int} {ws : List Int} {st : List Nat} {fr f to : Nat} (h : ¬ (to < ws.length ∧ 0 ≤ lf w ws fr (to + 1) ∧ 0 < st.getD to 0 % 4)) : brT w ws st fr f to = to := by
  cases f with
  | zero => rfl
  | succ f => rw [brT, if_neg h]
theorem brT_fit {w : Int} {ws : List Int} {st : List Nat} {fr : Nat} : ∀ f to, fr < to → to ≤ ws.length → 0 ≤ lf w ws fr to → fr < brT w ws st fr f to ∧ brT w ws st fr f to ≤ ws.length ∧ 0 ≤ lf w ws fr (brT w ws st fr f to)
  | 0, to, h1, h2, h3 => ⟨h1, h2, h3⟩
  | f + 1, to, h1, h2, h3 => by
    unfold brT
    split
    · rename_i h; exact brT_fit f (to + 1) (by omega) (by omega) h.2.1
    · exact ⟨h1, h2, h3⟩
theorem brk_chn {w : Int} {ws : List Int} {st : List Nat} (hc : chk w ws = 0) : ∀ f fr, fr ≤ ws.length → ws.length - fr ≤ f → chn w ws fr (brk w ws st f fr) ∧ (brk w ws st f fr).getLastD fr = ws.length
  | 0, fr, h, hf => by
    have : fr = ws.length := by omega
    subst this
    rw [brk_done]; exact ⟨trivial, rfl⟩
  | f + 1, fr, h, hf => by
    by_cases hlt : fr < ws.length
    · rw [brk, if_pos hlt]
      have hr := brT_fit (w := w) (ws := ws) (st := st) (fr := fr) ws.length (fr + 1) (by omega) (by omega) (lf_one hc hlt)
      have ih := brk_chn (st := st) hc f (brT w ws st fr ws.length (fr + 1)) hr.2.1 (by omega)
      exact ⟨⟨hr.1, hr.2.2, ih.1⟩, by rw [List.getLastD_cons]; exact ih.2⟩
    · have : fr = ws.length := by omega
      subst this
      rw [brk_done]; exact ⟨trivial, rfl⟩
theorem brk_ok {w : Int} {ws : List Int} {st : List Nat} (hc : chk w ws = 0) : okEnds w ws (brk w ws st ws.length 0) := ok_chn.2 (brk_chn hc _ _ (by omega) (by omega))
end Line

/- A list that is reversed in place. -/
set_option linter.unusedVariables false
namespace Line
/-- The outer parts reversed. -/
def rvk (l : List Int) (i : Nat) : List Int := (List.range l.length).map fun k => l.getD (if k < i ∨ l.length - 1 - i < k then l.length - 1 - k else k) 0
@[simp] theorem rvk_length (l : List Int) (i : Nat) : (rvk l i).length = l.length := by simp [rvk]
theorem rvk_get {l : List Int} {i k : Nat} (hk : k < l.length) : (rvk l i).getD k 0 = l.getD (if k < i ∨ l.length - 1 - i < k then l.length - 1 - k else k) 0 := by
  simp [rvk, List.getD_eq_getElem?_getD, hk]
theorem ext_getD {l m : List Int} (h : l.length = m.length) (h2 : ∀ k, k < l.length → l.getD k 0 = m.getD k 0) : l = m := by
  refine List.ext_getElem h fun k h3 h4 => ?_
  have := h2 k h3
  simpa [List.getD_eq_getElem?_getD, h3, h4] using this
theorem rvk_zero (l : List Int) : rvk l 0 = l := by
  refine ext_getD (by simp) fun k hk => ?_
  rw [rvk_length] at hk
  rw [rvk_get hk, if_neg (by omega)]
theorem rvk_end {l : List Int} {i : Nat} (h : l.length ≤ 2 * i + 1) (h2 : i ≤ l.length) : rvk l i = l.reverse := by
  refine ext_getD (by simp) fun k hk => ?_
  rw [rvk_length] at hk
  rw [rvk_get hk]
  have e : l.reverse.getD k 0 = l.getD (l.length - 1 - k) 0 := by
    simp [List.getD_eq_getElem?_getD, List.getElem?_reverse hk]
  rw [e]
  split
  · rfl
  · congr 1; omega
theorem getD_set' {l : List Int} {i k : Nat} {x : Int} (hi : i < l.length) : (l.set i x).getD k 0 = if k = i then x else l.getD k 0 := by
  rw [List.getD_eq_getElem?_getD, List.getD_eq_getElem?_getD, List.getElem?_set]
  by_cases h : i = k
  · subst h; simp [hi]
  · rw [if_neg h, if_neg (by omega)]
theorem rvk_step {l : List Int} {i : Nat} (h : 2 * i + 1 < l.length) : ((rvk l i).set i (l.getD (l.length - 1 - i) 0)).set (l.length - 1 - i) (l.getD i 0) = rvk l (i + 1) := by
  refine ext_getD (by simp) fun k hk => ?_
  simp only [List.length_set, rvk_length] at hk
  rw [getD_set' (by simp; omega), getD_set' (by simp; omega), rvk_get hk, rvk_get hk]
  by_cases h1 : k = l.length - 1 - i
  · rw [if_pos h1, if_pos (by omega)]
    congr 1; omega
  · rw [if_neg h1]
    by_cases h2 : k = i
    · rw [if_pos h2, if_pos (by omega), h2]
    · rw [if_neg h2]
      by_cases h3 : k < i ∨ l.length - 1 - i < k
      · rw [if_pos h3, if_pos (by omega)]
      · rw [if_neg h3, if_neg (by omega)]
theorem up_rv {n : Nat} {E : List Nat} (hne : E ≠ []) (h : ∀ e ∈ E, e ≤ n) : ((n : Int) :: ((up E).take (E.length - 1)).map fun e => (n : Int) - e).reverse = up (rv n 0 E) := by
  unfold rv up
  rw [List.map_reverse]
  congr 1
  rw [List.map_map]
  cases E with
  | nil => exact absurd rfl hne
  | cons a E =>
    rw [List.dropLast_cons_of_ne_nil (by simp), List.map_cons, List.dropLast_eq_take]
    congr 1
    rw [← List.map_cons (f := fun x : Nat => (x : Int)), ← List.map_take, List.map_map]
    refine List.map_congr_left fun e he => ?_
    have := h e (List.mem_of_mem_take he)
    simp only [Function.comp]
    omega
end Line

namespace Go.Proofs.Ytlajhbpkogekfaa
open Go.Av Line
set_option linter.unusedVariables false
set_option linter.unusedSimpArgs false
set_option maxRecDepth 4000

theorem slc_reads {H : Heap} {v : AV} {l : List Int} {i j : Nat} (h : Reads H v l) (hij : i < j) (hj : j ≤ l.length) :
    ∃ v', slc 1 v (some (.int .i64 (i : Int))) (some (.int .i64 (j : Int))) none = some v' ∧ Reads H v' ((l.drop i).take (j - i)) := by
  have n1 : ∀ d, natOf (some (.int .i64 (i : Int))) d = some i := fun d => by simp [natOf]
  have n2 : ∀ d, natOf (some (.int .i64 (j : Int))) d = some j := fun d => by simp [natOf]
  cases v <;> simp only [Reads] at h <;> try exact h.elim
  · subst h; simp at hj; omega
  · obtain ⟨rfl, rfl⟩ := h
    simp only [slc, n1, n2, Option.bind_some]
    rw [if_pos ⟨by omega, hj⟩]
    refine ⟨_, rfl, by simp; omega, ?_⟩
    rw [Nat.mul_one, Nat.mul_one, ints_drop, ints_take]
  · rename_i s b off n cp
    obtain ⟨rfl, rfl, cells, hb, hc, ht⟩ := h
    simp only [slc, n1, n2, Option.bind_some]
    rw [if_pos ⟨by trivial, by omega, hj, by omega⟩]
    refine ⟨_, rfl, rfl, by simp; omega, cells, hb, by omega, ?_⟩
    rw [Nat.mul_one, ← ints_take, ← ints_drop, ← ht, List.drop_take, List.take_take, List.drop_drop, Nat.min_eq_left (by omega)]

/-- left, of the law -/
theorem c43 {w : Int} {v : AV} {ws : List Int} {i j : Nat} {H : Heap} {K : AV → Heap → Prop} (hv : Reads H v ws) (hc : chk w ws = 0) (hij : i < j) (hj : j ≤ ws.length) (hk : K (.int .i64 (lf w ws i j)) H) :
    ACalls Try.prog 43 [.agg [.int .i64 w, v], .int .i64 i, .int .i64 j] H K := by
  apply W43_ok
  unfold W43
  obtain ⟨w1, w2, n1, n2, hws⟩ := chk_ok hc
  obtain ⟨v', hs, hr⟩ := slc_reads hv hij hj
  have hll : ((ws.drop i).take (j - i)).length = j - i := by simp; omega
  simp only [letO_some, cellsOf?_agg, cellsOf?_int, cellsOf?_bool, cellsOf?_imm, cellsOf?_ref, cellsOf?_nils, faddr_iptr, faddr_ptr, List.drop_succ_cons, List.drop_zero, List.take_succ_cons, List.take_zero, load1_iptr, loadN_iptr, List.length_cons, List.length_nil, Nat.le_refl, if_true, List.getElem?_cons_zero, List.getElem?_cons_succ, List.getD_cons_zero, List.getD_cons_succ, extrF_tup, binF_add, binF_sub, binF_mul, binF_eql, binF_neq, binF_lss, binF_leq, binF_gtr, binF_geq, true_and, hs, hr.len]
  refine ⟨fun L H' => ∃ (k : Nat), L = [.int .i64 (psum ws (i + k) - psum ws i - 1), .int .i64 k] ∧ i + k ≤ j ∧ H' = H, fun L _ => (j - i - iv L 1).toNat, ⟨0, by simp, by omega, rfl⟩, ?_⟩
  intro L H' hI
  obtain ⟨k, rfl, hk1, rfl⟩ := hI
  simp only [letO_some, cellsOf?_agg, cellsOf?_int, cellsOf?_bool, cellsOf?_imm, cellsOf?_ref, cellsOf?_nils, faddr_iptr, faddr_ptr, List.drop_succ_cons, List.drop_zero, List.take_succ_cons, List.take_zero, load1_iptr, loadN_iptr, List.length_cons, List.length_nil, Nat.le_refl, if_true, List.getElem?_cons_zero, List.getElem?_cons_succ, List.getD_cons_zero, List.getD_cons_succ, extrF_tup, binF_add, binF_sub, binF_mul, binF_eql, binF_neq, binF_lss, binF_leq, binF_gtr, binF_geq, true_and, hll]
  have hb1 := psum_le (ws := ws) (k := i) fun x hx => by have := hws x (List.mem_of_mem_take hx); omega
  have hb2 := psum_le (ws := ws) (k := i + k) fun x hx => by have := hws x (List.mem_of_mem_take hx); omega
  refine condA_t (fun hlt => ?_) (fun hge => ?_)
  · refine hr.get (Heap.le_refl _) (by omega) (by rw [hll]; exact hlt) ?_
    have hk2 : k < j - i := by omega
    have hg : ((ws.drop i).take (j - i)).getD (k : Int).toNat 0 = ws.getD (i + k) 0 := by
      rw [Int.toNat_natCast, List.getD_eq_getElem?_getD, List.getElem?_take_of_lt hk2, List.getElem?_drop, ← List.getD_eq_getElem?_getD]
    rw [hg]
    have hm : ws.getD (i + k) 0 ∈ ws := by rw [List.getD_eq_getElem?_getD]; simp [show i + k < ws.length by omega]
    have hx := hws _ hm
    have hp := psum_succ (show i + k < ws.length by omega)
    simp only [letO_some, cellsOf?_agg, cellsOf?_int, cellsOf?_bool, cellsOf?_imm, cellsOf?_ref, cellsOf?_nils, faddr_iptr, faddr_ptr, List.drop_succ_cons, List.drop_zero, List.take_succ_cons, List.take_zero, load1_iptr, loadN_iptr, List.length_cons, List.length_nil, Nat.le_refl, if_true, List.getElem?_cons_zero, List.getElem?_cons_succ, List.getD_cons_zero, List.getD_cons_succ, extrF_tup, binF_add, binF_sub, binF_mul, binF_eql, binF_neq, binF_lss, binF_leq, binF_gtr, binF_geq, true_and]
    rw [wrap_i64 (n := ws.getD (i + k) 0 + 1) (by omega) (by omega), wrap_i64 (n := psum ws (i + k) - psum ws i - 1 + (ws.getD (i + k) 0 + 1)) (by omega) (by omega), wrap_i64 (n := (k : Int) + 1) (by omega) (by omega)]
    try simp only [true_and, and_true]
    refine ⟨⟨k + 1, ?_, by omega⟩, by simp <;> omega⟩
    have e : psum ws (i + (k + 1)) - psum ws i - 1 = psum ws (i + k) - psum ws i - 1 + (ws.getD (i + k) 0 + 1) := by
      rw [show i + (k + 1) = i + k + 1 by omega, hp]; omega
    rw [e]
    rfl
  · have : i + k = j := by omega
    rw [this] at hb2 ⊢
    rw [wrap_i64 (by omega) (by omega)]
    rw [lf_eq (by omega) hj] at hk
    refine endK_ret ?_
    have e : w - (psum ws j - psum ws i - 1) = w + 1 - (psum ws j - psum ws i) := by omega
    rw [e]; exact hk

theorem conv53 {n : Int} (h : 0 ≤ n ∧ n < 256) : convF Try.prog 5 3 (.int .u8 n) = some (.int .i64 n) := by
  have h1 : Try.prog.underlying 5 = some (.int .u8) := by kernel_rfl
  have h2 : Try.prog.underlying 3 = some (.int .i64) := by kernel_rfl
  simp only [convF, h1, h2]
  rw [wrap_i64 (by omega) (by omega)]
theorem rem_nat {k : IntKind} {t : TypeId} {a b : Nat} (hb : b ≠ 0) : binF Try.prog .rem t (.int k (a : Int)) (.int k (b : Int)) = some (.int k ((a % b : Nat) : Int)) := by
  simp only [binF]
  rw [if_pos ⟨by trivial, by omega⟩, Int.ofNat_tmod]
theorem quo_nat {t : TypeId} {a b : Nat} (hb : b ≠ 0) (ha : a < 1000000000) : binF Try.prog .quo t (.int .i64 (a : Int)) (.int .i64 (b : Int)) = some (.int .i64 ((a / b : Nat) : Int)) := by
  simp only [binF]
  rw [if_pos ⟨by trivial, by omega⟩, ← Int.ofNat_tdiv]
  have := Nat.div_le_self a b
  generalize a / b = q at *
  rw [wrap_i64 (by omega) (by omega)]
theorem b24n {x : AV} (hx : cellsOf? x = some [x]) : buildF Try.prog 24 [(0, x)] = some (.agg [x, .nils]) := by
  rw [buildF_of (show buildPlan Try.prog 24 = some ([.int .i64 0, .nils], [(0, 1), (1, 1)]) by kernel_rfl)]
  simp [fillA, hx, splice]
def u8s (l : List Nat) : List AV := l.map fun (x : Nat) => .int .u8 (x : Int)
@[simp] theorem u8s_length (l : List Nat) : (u8s l).length = l.length := by simp [u8s]

/-- made -/
theorem c34 {W M S most : Nat} {l : List Nat} {H : Heap} {K : AV → Heap → Prop} (hW : W < 256) (hM : M < 256) (hS : S < 256) (hl : l.length = 10) (hlx : ∀ x ∈ l, x < 256) (hm : 1 ≤ most ∧ most ≤ 10)
    (hk : K (.agg [.int .i64 (gw W : Nat), sl (madeL W M S l most)]) H) : ACalls Try.prog 34 [.agg (u8s (W :: M :: S :: l)), .int .i64 most] H K := by
  apply W34_ok
  unfold W34
  have hgw := gw_range W
  have hgm := gmin_range W S
  have hr40 : binF Try.prog .rem 3 (.int .i64 (W : Int)) (.int .i64 40) = some (.int .i64 ((W % 40 : Nat) : Int)) := rem_nat (b := 40) (by decide)
  simp only [letO_some, cellsOf?_agg, cellsOf?_int, cellsOf?_bool, cellsOf?_imm, cellsOf?_ref, cellsOf?_nils, faddr_iptr, faddr_ptr, List.drop_succ_cons, List.drop_zero, List.take_succ_cons, List.take_zero, load1_iptr, loadN_iptr, List.length_cons, List.length_nil, Nat.le_refl, if_true, List.getElem?_cons_zero, List.getElem?_cons_succ, List.getD_cons_zero, List.getD_cons_succ, extrF_tup, binF_add, binF_sub, binF_mul, binF_eql, binF_neq, binF_lss, binF_leq, binF_gtr, binF_geq, true_and, u8s, List.map_cons, conv53 (show (0 : Int) ≤ W ∧ (W : Int) < 256 by omega), hr40]
  intro b4 hb4
  have e1 : (1 : Int) + ((W % 40 : Nat) : Int) = ((gw W : Nat) : Int) := by unfold gw; omega
  rw [e1, wrap_i64 (by omega) (by omega)]
  simp only [b24n cellsOf?_int, letO_some]
  refine alloc_store (cs := [.int .i64 (gw W : Nat), .nils]) rfl rfl rfl rfl fun b5 hb5 => ?_
  have hne : b4 ≠ b5 := Heap.ne_of Heap.put_same hb5
  have hb5' : H b5 = none := by rwa [Heap.put_ne (Ne.symm hne)] at hb5
  generalize hH4 : (H.put b4 [.int .i64 0, .nils]).put b5 [.int .i64 (gw W : Nat), .nils] = H4
  have l50 : load1 (.ptr b5 0) H4 = some (.int .i64 (gw W : Nat)) := load1_at (by subst hH4; exact Heap.put_same) rfl
  have hr3 : binF Try.prog .rem 5 (.int .u8 (S : Int)) (.int .u8 3) = some (.int .u8 ((S % 3 : Nat) : Int)) := rem_nat (b := 3) (by decide)
  have hq2 : binF Try.prog .quo 3 (.int .i64 (gw W : Nat)) (.int .i64 2) = some (.int .i64 ((gw W / 2 : Nat) : Int)) := quo_nat (b := 2) (by decide) (by omega)
  simp only [letO_some, cellsOf?_agg, cellsOf?_int, cellsOf?_bool, cellsOf?_imm, cellsOf?_ref, cellsOf?_nils, faddr_iptr, faddr_ptr, List.drop_succ_cons, List.drop_zero, List.take_succ_cons, List.take_zero, load1_iptr, loadN_iptr, List.length_cons, List.length_nil, Nat.le_refl, if_true, List.getElem?_cons_zero, List.getElem?_cons_succ, List.getD_cons_zero, List.getD_cons_succ, extrF_tup, binF_add, binF_sub, binF_mul, binF_eql, binF_neq, binF_lss, binF_leq, binF_gtr, binF_geq, true_and, Nat.zero_add, l50, hr3, hq2]
  refine ⟨fun L h => L = [.int .i64 (glong W S : Nat)] ∧ h = H4, ?_, ?_⟩
  · refine condA_t (fun hgt => ?_) (fun hle => ?_)
    · have : glong W S = 1 + gw W / 2 := by unfold glong; rw [if_pos (by omega)]
      rw [this, wrap_i64 (by omega) (by omega)]
      exact ⟨by simp, rfl⟩
    · have : glong W S = gw W := by unfold glong; rw [if_neg (by omega)]
      rw [this]
      exact ⟨rfl, rfl⟩
  rintro L h ⟨rfl, rfl⟩
  have hrm : binF Try.prog .rem 3 (.int .i64 (M : Int)) (.int .i64 (most : Int)) = some (.int .i64 ((M % most : Nat) : Int)) := rem_nat (by omega)
  have hmm := Nat.mod_lt M (show most > 0 by omega)
  simp only [letO_some, cellsOf?_agg, cellsOf?_int, cellsOf?_bool, cellsOf?_imm, cellsOf?_ref, cellsOf?_nils, faddr_iptr, faddr_ptr, List.drop_succ_cons, List.drop_zero, List.take_succ_cons, List.take_zero, load1_iptr, loadN_iptr, List.length_cons, List.length_nil, Nat.le_refl, if_true, List.getElem?_cons_zero, List.getElem?_cons_succ, List.getD_cons_zero, List.getD_cons_succ, extrF_tup, binF_add, binF_sub, binF_mul, binF_eql, binF_neq, binF_lss, binF_leq, binF_gtr, binF_geq, true_and, conv53 (show (0 : Int) ≤ M ∧ (M : Int) < 256 by omega), hrm]
  have e2 : (1 : Int) + ((M % most : Nat) : Int) = ((1 + M % most : Nat) : Int) := by omega
  rw [e2, wrap_i64 (by omega) (by omega)]
  generalize hn : 1 + M % most = n at *
  have hsl : slcArr 10 1 (.iptr (l.map fun (x : Nat) => AV.int .u8 (x : Int))) none (some (.int .i64 (n : Int))) none = some (.imm n (n == 10) (u8s (l.take n))) := by
    have e : natOf (some (.int .i64 (n : Int))) 10 = some n := by simp [natOf]
    have e3 : natOf none 0 = some 0 := rfl
    simp only [slcArr, e, e3, Option.bind_some]
    rw [if_pos ⟨by omega, by omega⟩]
    simp [u8s, List.map_take]
  simp only [hsl, letO_some, lenA]
  have hws : ∀ x ∈ madeL W M S l most, 1 ≤ x ∧ x ≤ 40 := fun x hx => by
    have := (chk_ok (chk_made (W := W) (M := M) (S := S) hl hm)).2.2.2.2 x hx
    omega
  let T : AV → List AV := fun X => [.int .i64 (gw W : Nat), X]
  refine ⟨fun L H' => ∃ (i : Nat) (X : AV), L = [.int .i64 i] ∧ i ≤ n ∧ Grow 1 ((H.put b4 [.int .i64 0, .nils]).put b5 (T X)) H' X i (ints (gwords W S (l.take i))), fun L _ => (n - iv L 0).toNat,
    ⟨0, .nils, rfl, by omega, by subst hH4; exact Grow.nils 1 _⟩, ?_⟩
  intro L H' hI
  obtain ⟨i, X, rfl, hi, hg⟩ := hI
  simp only [letO_some, cellsOf?_agg, cellsOf?_int, cellsOf?_bool, cellsOf?_imm, cellsOf?_ref, cellsOf?_nils, faddr_iptr, faddr_ptr, List.drop_succ_cons, List.drop_zero, List.take_succ_cons, List.take_zero, load1_iptr, loadN_iptr, List.length_cons, List.length_nil, Nat.le_refl, if_true, List.getElem?_cons_zero, List.getElem?_cons_succ, List.getD_cons_zero, List.getD_cons_succ, extrF_tup, binF_add, binF_sub, binF_mul, binF_eql, binF_neq, binF_lss, binF_leq, binF_gtr, binF_geq, true_and]
  have hHb : H' b5 = some (T X) := hg.le _ _ Heap.put_same
  refine condA_t (fun hlt => ?_) (fun hge => ?_)
  · have hin : i < n := by omega
    have hil : i < l.length := by omega
    have hx : ((u8s (l.take n)).drop (i * 1))[0]? = some (.int .u8 (l[i] : Nat)) := by
      rw [List.getElem?_drop, Nat.mul_one, Nat.add_zero]
      simp [u8s, hil, hin]
    have hxl : l[i] < 256 := hlx _ (by simp)
    have l1 : load1 (.ptr b5 (0 + 1)) H' = some X := load1_at hHb rfl
    have l0 : load1 (.ptr b5 0) H' = some (.int .i64 (gw W : Nat)) := load1_at hHb rfl
    have hmin : min2F (.int .i64 (glong W S : Nat)) (.int .i64 (gw W : Nat)) = some (.int .i64 (gmin W S : Nat)) := by
      simp only [min2F]
      unfold gmin
      split <;> split <;> first | rfl | omega
    have hrx : binF Try.prog .rem 3 (.int .i64 ((l[i] : Nat) : Int)) (.int .i64 (gmin W S : Nat)) = some (.int .i64 ((l[i] % gmin W S : Nat) : Int)) := rem_nat (by omega)
    simp only [idx_imm hin, letO_some, cellsOf?_agg, cellsOf?_int, cellsOf?_bool, cellsOf?_imm, cellsOf?_ref, cellsOf?_nils, faddr_iptr, faddr_ptr, List.drop_succ_cons, List.drop_zero, List.take_succ_cons, List.take_zero, load1_iptr, loadN_iptr, List.length_cons, List.length_nil, Nat.le_refl, if_true, List.getElem?_cons_zero, List.getElem?_cons_succ, List.getD_cons_zero, List.getD_cons_succ, extrF_tup, binF_add, binF_sub, binF_mul, binF_eql, binF_neq, binF_lss, binF_leq, binF_gtr, binF_geq, true_and, hx, conv53 (show (0 : Int) ≤ (l[i] : Nat) ∧ ((l[i] : Nat) : Int) < 256 by omega), l1, l0, hmin, hrx]
    have hmx := Nat.mod_lt l[i] (show gmin W S > 0 by omega)
    have e3 : (1 : Int) + ((l[i] % gmin W S : Nat) : Int) = ((1 + l[i] % gmin W S : Nat) : Int) := by omega
    rw [e3, wrap_i64 (by omega) (by omega)]
    simp only [l22 cellsOf?_int, letO_some]
    refine appendA_one hg (by omega) fun v' H'' hg' => ?_
    refine storeA_of (cs := [v']) (hg'.le _ _ Heap.put_same) hg'.cells (by simp [hg'.scalar]) rfl (by simp [T]) ?_
    rw [wrap_i64 (by omega) (by omega)]
    refine ⟨⟨i + 1, v', by simp, by omega, ?_⟩, by simp <;> omega⟩
    have e4 : gwords W S (l.take (i + 1)) = gwords W S (l.take i) ++ [((1 + l[i] % gmin W S : Nat) : Int)] := by
      unfold gwords
      rw [List.take_add_one, List.getElem?_eq_getElem hil, List.map_append]
      rfl
    rw [e4]
    have := hg'.put (y := T v') Heap.put_same
    rw [Heap.put_put] at this
    simpa [splice, T] using this
  · have hin : i = n := by omega
    subst hin
    have hL : loadN 2 (.ptr b5 0) H' = some (.agg [.int .i64 (gw W : Nat), X]) := loadN_at hHb
    have hb4H : H' b4 = some [.int .i64 0, .nils] := hg.le _ _ (by rw [Heap.put_ne hne]; exact Heap.put_same)
    simp only [hL, letO_some]
    refine storeA_of (cs := [.int .i64 (gw W : Nat), X]) hb4H rfl (by simp only [List.all_cons, hg.scalar]; rfl) rfl (by simp) ?_
    have e5 : splice [.int .i64 0, .nils] 0 [.int .i64 (gw W : Nat), X] = [.int .i64 (gw W : Nat), X] := rfl
    rw [e5]
    rw [show loadN 2 (.ptr b4 0) (Heap.put H' b4 [.int .i64 (gw W : Nat), X]) = some (.agg [.int .i64 (gw W : Nat), X]) from loadN_at (cells := [.int .i64 (gw W : Nat), X]) Heap.put_same]
    simp only [letO_some]
    have hg1 := hg.put (c := b4) (x := [.int .i64 0, .nils]) (y := [.int .i64 (gw W : Nat), X]) (by rw [Heap.put_ne hne]; exact Heap.put_same)
    obtain ⟨H2, hl2, hg2⟩ := hg1.shrink (H := H) (Heap.le_put (Heap.le_put (Heap.le_put_self hb4) hb5') hb4)
    refine endK_pub (r' := .agg [.int .i64 (gw W : Nat), X]) (Pub.drop hl2) ?_
    refine hg2.endG (f := fun v => .agg [.int .i64 (gw W : Nat), v]) (fun b => ⟨fun e => by subst e; rfl, fun e => by subst e; rfl, fun e => by subst e; have := Grow.frz hg2.1 b; simp only [lift, List.map, this]; rfl⟩) ?_
    have hlen := made_len (W := W) (M := M) (S := S) hl hm
    rw [sl, hlen, hn] at hk
    rw [madeL, hn] at hk
    exact hk
theorem shr_ex {t : TypeId} {k k' : IntKind} {a b : Int} (hb : 0 ≤ b) : ∃ y, binF Try.prog .shr t (.int k a) (.int k' b) = some (.int k y) := by
  simp only [binF]
  rw [if_neg (by omega)]
  exact ⟨_, rfl⟩
theorem and_ex {t : TypeId} {k : IntKind} {a b : Int} : ∃ y, binF Try.prog .and t (.int k a) (.int k b) = some (.int k y) := by
  simp only [binF, if_true]
  exact ⟨_, rfl⟩
theorem slc_pre {H : Heap} {v : AV} {l : List Int} {k : Nat} (h : Reads H v l) (hk : k ≤ l.length) : ∃ v', slc 1 v none (some (.int .i64 (k : Int))) none = some v' ∧ Reads H v' (l.take k) := by
  have n1 : ∀ d, natOf none d = some d := fun d => rfl
  have n2 : ∀ d, natOf (some (.int .i64 (k : Int))) d = some k := fun d => by simp [natOf]
  cases v <;> simp only [Reads] at h <;> try exact h.elim
  · subst h
    have : k = 0 := by simpa using hk
    subst this
    simp only [slc, n1, n2, Option.bind_some]
    exact ⟨_, rfl, rfl⟩
  · obtain ⟨rfl, rfl⟩ := h
    simp only [slc, n1, n2, Option.bind_some]
    rw [if_pos ⟨by omega, hk⟩]
    refine ⟨_, rfl, by simp; omega, ?_⟩
    rw [Nat.mul_one, Nat.zero_mul, List.drop_zero, Nat.sub_zero, ints_take]
  · rename_i s b off n cp
    obtain ⟨rfl, rfl, cells, hb, hc, ht⟩ := h
    simp only [slc, n1, n2, Option.bind_some]
    rw [if_pos ⟨by trivial, by omega, hk, by simp⟩]
    refine ⟨_, rfl, rfl, by simp; omega, cells, hb, by omega, ?_⟩
    rw [Nat.zero_mul, Nat.add_zero, Nat.sub_zero, ← ints_take, ← ht, List.take_take, Nat.min_eq_left hk]

theorem any_succ (F : List Nat) (i : Nat) (g : Nat × Nat → Bool) : (spansN F (i + 1)).any g = ((spansN F i).any g || g (stN F i, F.getD i 0)) := by
  rw [spansN_succ, List.any_append]
  simp [spanN]

@[simp] theorem iv_three {k : IntKind} {n : Int} {x y z : AV} {L : List AV} : iv (x :: y :: z :: .int k n :: L) 3 = n := rfl
theorem wantE_bd {w : Int} {ws : List Int} (hc : chk w ws = 0) (E : List Nat) (m : Nat) : ∀ i, 0 ≤ wantE w ws E m i ∧ wantE w ws E m i ≤ 40000000000 * i
  | 0 => by simp [wantE]
  | i + 1 => by
    have := wantE_bd hc E m i
    have := sqf_bnd hc (stN E i) (E.getD i 0)
    rw [wantE]
    split <;> omega
theorem leftL_get {w : Int} {ws : List Int} {E : List Nat} {n k : Nat} (h : k < n) : (leftL w ws E n).getD k 0 = lf w ws (stN E k) (E.getD k 0) := by
  rw [List.getD_eq_getElem?_getD]
  simp only [leftL, List.getElem?_map]
  rw [List.getElem?_range h]
  rfl
theorem sum_take_succ {ws : List Int} {k : Nat} (h : k < ws.length) : (ws.take (k + 1)).sum = (ws.take k).sum + ws.getD k 0 := by
  rw [List.take_add_one, List.sum_append, List.getD_eq_getElem?_getD, List.getElem?_eq_getElem h]
  simp

end Go.Proofs.Ytlajhbpkogekfaa

namespace Go.Proofs.Ytlajhbpkogekfaa
open Go.Av Line
set_option linter.unusedVariables false
set_option linter.unusedSimpArgs false
set_option maxRecDepth 4000

/-- broken: which ends -/
theorem c39e {w : Int} {v : AV} {ws : List Int} {st : List Nat} {H : Heap} {K : AV → Heap → Prop} (hv : Reads H v ws) (hc : chk w ws = 0) (hst : st.length = 10) (hsx : ∀ x ∈ st, x < 256)
    (hk : endedE w ws (up (brk w ws st ws.length 0)) = 0 → K (sl (up (brk w ws st ws.length 0))) H) : ACalls Try.prog 39 [.agg [.int .i64 w, v], .agg (u8s st)] H K := by
  apply W39_ok
  unfold W39
  obtain ⟨w1, w2, n1, n2, hws⟩ := chk_ok hc
  simp only [letO_some, cellsOf?_agg, cellsOf?_int, cellsOf?_bool, cellsOf?_imm, cellsOf?_ref, cellsOf?_nils, faddr_iptr, faddr_ptr, List.drop_succ_cons, List.drop_zero, List.take_succ_cons, List.take_zero, load1_iptr, loadN_iptr, List.length_cons, List.length_nil, Nat.le_refl, if_true, List.getElem?_cons_zero, List.getElem?_cons_succ, List.getD_cons_zero, List.getD_cons_succ, extrF_tup, binF_add, binF_sub, binF_mul, binF_eql, binF_neq, binF_lss, binF_leq, binF_gtr, binF_geq, true_and]
  refine ⟨fun L H' => ∃ (E : List Nat) (X : AV), L = [X, .int .i64 (E.getLastD 0 : Nat)] ∧ Grow 1 H H' X E.length (ints (up E)) ∧ asc ws.length 0 (up E) ∧ E.length ≤ E.getLastD 0 ∧ E.getLastD 0 ≤ ws.length ∧ over w ws E = false ∧ ∃ f, ws.length ≤ f + E.getLastD 0 ∧ E ++ brk w ws st f (E.getLastD 0) = brk w ws st ws.length 0, fun L _ => (ws.length - iv L 1).toNat,
    ⟨[], .nils, rfl, Grow.nils 1 H, trivial, by simp, by simp, rfl, ws.length, by simp, rfl⟩, ?_⟩
  intro L H' hI
  obtain ⟨E, X, rfl, hg, ha, hlen, hle, ho, f, hf, hbr⟩ := hI
  have hv' := hv.le hg.le
  simp only [letO_some, cellsOf?_agg, cellsOf?_int, cellsOf?_bool, cellsOf?_imm, cellsOf?_ref, cellsOf?_nils, faddr_iptr, faddr_ptr, List.drop_succ_cons, List.drop_zero, List.take_succ_cons, List.take_zero, load1_iptr, loadN_iptr, List.length_cons, List.length_nil, Nat.le_refl, if_true, List.getElem?_cons_zero, List.getElem?_cons_succ, List.getD_cons_zero, List.getD_cons_succ, extrF_tup, binF_add, binF_sub, binF_mul, binF_eql, binF_neq, binF_lss, binF_leq, binF_gtr, binF_geq, true_and, hv.len]
  generalize hfr : E.getLastD 0 = fr at *
  refine condA_t (fun hlt => ?_) (fun hge => ?_)
  · have hlt : fr < ws.length := by omega
    rw [wrap_i64 (by omega) (by omega)]
    obtain ⟨f, rfl⟩ : ∃ g, f = g + 1 := ⟨f - 1, by omega⟩
    rw [brk, if_pos hlt] at hbr
    generalize hT : brT w ws st fr ws.length (fr + 1) = T at *
    refine ⟨fun L H'' => ∃ to : Nat, L = [.int .i64 to] ∧ fr < to ∧ to ≤ ws.length ∧ 0 ≤ lf w ws fr to ∧ H'' = H' ∧ ∃ g, ws.length ≤ g + to ∧ brT w ws st fr g to = T, fun L _ => (ws.length - iv L 0).toNat, ⟨fr + 1, by simp, by omega, by omega, lf_one hc hlt, rfl, ws.length, by omega, hT⟩, ?_⟩
    intro L H'' hJ
    obtain ⟨to, rfl, h1, h2, h3, rfl, g, hgf, hgT⟩ := hJ
    simp only [letO_some, cellsOf?_agg, cellsOf?_int, cellsOf?_bool, cellsOf?_imm, cellsOf?_ref, cellsOf?_nils, faddr_iptr, faddr_ptr, List.drop_succ_cons, List.drop_zero, List.take_succ_cons, List.take_zero, load1_iptr, loadN_iptr, List.length_cons, List.length_nil, Nat.le_refl, if_true, List.getElem?_cons_zero, List.getElem?_cons_succ, List.getD_cons_zero, List.getD_cons_succ, extrF_tup, binF_add, binF_sub, binF_mul, binF_eql, binF_neq, binF_lss, binF_leq, binF_gtr, binF_geq, true_and]
    -- the line ends here
    have stop : T = to → appendA 1 8 X (.imm 1 true [.int .i64 to]) (fun t40 H15 => (∃ (E' : List Nat) (X' : AV), [t40, .int .i64 to] = [X', .int .i64 (E'.getLastD 0 : Nat)] ∧ Grow 1 H H15 X' E'.length (ints (up E')) ∧ asc ws.length 0 (up E') ∧ E'.length ≤ E'.getLastD 0 ∧ E'.getLastD 0 ≤ ws.length ∧ over w ws E' = false ∧ ∃ f, ws.length ≤ f + E'.getLastD 0 ∧ E' ++ brk w ws st f (E'.getLastD 0) = brk w ws st ws.length 0) ∧
        (ws.length - iv [t40, .int .i64 to] 1).toNat < (ws.length - iv [X, .int .i64 fr] 1).toNat) H'' := by
      intro hTo
      refine appendA_one hg (by omega) fun v' H7 hg7 => ⟨⟨E ++ [to], v', by simp, ?_, ?_, by simp; omega, by simp; omega, ?_, f, by simp; omega, by rw [← hbr, hTo]; simp⟩, by simp; omega⟩
      · rw [up_snoc]; simpa using hg7
      · rw [up_snoc]
        exact asc_snoc ha (by rw [up_lastD]; omega) (by omega) (by omega)
      · rw [over_snoc, ho, hfr]; simpa using h3
    by_cases ht : to < ws.length
    · have e1 : decide ((to : Int) < (ws.length : Int)) = true := by simp; omega
      have hto1 : IntKind.i64.wrap ((to : Int) + 1) = ((to + 1 : Nat) : Int) := by rw [wrap_i64 (by omega) (by omega)]; simp
      simp only [e1, gval_bool, if_true, letO_some, hto1, binF_add]
      refine exJc ?_
      refine c43 hv' hc (show fr < to + 1 by omega) (by omega) ?_
      simp only [letO_some, cellsOf?_agg, cellsOf?_int, cellsOf?_bool, cellsOf?_imm, cellsOf?_ref, cellsOf?_nils, faddr_iptr, faddr_ptr, List.drop_succ_cons, List.drop_zero, List.take_succ_cons, List.take_zero, load1_iptr, loadN_iptr, List.length_cons, List.length_nil, Nat.le_refl, if_true, List.getElem?_cons_zero, List.getElem?_cons_succ, List.getD_cons_zero, List.getD_cons_succ, extrF_tup, binF_add, binF_sub, binF_mul, binF_eql, binF_neq, binF_lss, binF_leq, binF_gtr, binF_geq, true_and, pickF_true]
      have hx : st[to]? = some (st[to]'(by omega)) := by simp [show to < st.length by omega]
      have hxb : st[to]'(by omega) < 256 := hsx _ (by simp)
      by_cases hn : 0 ≤ lf w ws fr (to + 1)
      · have hia : idxArr 10 1 (.iptr (u8s st)) (.int .i64 (to : Int)) = some (.iptr ((u8s st).drop to)) := by
          simp [idxArr]; omega
        have hla : ((u8s st).drop to)[0]? = some (.int .u8 ((st[to]'(by omega) : Nat) : Int)) := by
          rw [List.getElem?_drop, Nat.add_zero]; simp [u8s, hx]
        have hr4 : binF Try.prog .rem 5 (.int .u8 ((st[to]'(by omega) : Nat) : Int)) (.int .u8 4) = some (.int .u8 ((st[to]'(by omega) % 4 : Nat) : Int)) := rem_nat (b := 4) (by decide)
        simp only [hn, decide_true, gval_bool, if_true, letO_some, hia, load1_iptr, hla, hr4, binF_gtr, pickF_true]
        refine condA_t (fun hgt => ?_) (fun hle4 => ?_)
        · refine ⟨⟨to + 1, rfl, by omega, by omega, hn, g - 1, by omega, ?_⟩, by simp; omega⟩
          obtain ⟨g, rfl⟩ : ∃ k, g = k + 1 := ⟨g - 1, by omega⟩
          rw [brT, if_pos ⟨ht, hn, by rw [List.getD_eq_getElem?_getD, hx]; simp only [Option.getD_some]; omega⟩] at hgT
          exact hgT
        · simp only [l22 cellsOf?_int, letO_some]
          refine stop ?_
          rw [← hgT, brT_stop]
          rintro ⟨_, _, hb⟩
          rw [List.getD_eq_getElem?_getD, hx] at hb
          simp only [Option.getD_some] at hb
          omega
      · simp only [hn, decide_false, gval_bool, Bool.false_eq_true, if_false, letO_some, pickF_false]
        simp only [condA_bool, condG_bool]
        refine ⟨fun h => by simp at h, fun _ => ?_⟩
        simp only [l22 cellsOf?_int, letO_some]
        refine stop ?_
        rw [← hgT, brT_stop]
        rintro ⟨_, hb, _⟩
        omega
    · have e1 : decide ((to : Int) < (ws.length : Int)) = false := by simp; omega
      simp only [e1, gval_bool, Bool.false_eq_true, if_false, letO_some]
      refine ⟨fun r h => r = .tup [] ∧ h = H'', ?_, ?_⟩
      · simp only [condA_bool, condG_bool]
        exact ⟨fun h => by simp at h, fun _ => by simp⟩
      rintro t25 H13 ⟨rfl, rfl⟩
      simp only [pickF_false, gval_bool, Bool.false_eq_true, if_false, letO_some, condA_bool, condG_bool]
      refine ⟨fun h => by simp at h, fun _ => ?_⟩
      simp only [l22 cellsOf?_int, letO_some]
      refine stop ?_
      rw [← hgT, brT_stop]
      rintro ⟨hb, _⟩
      omega
  · have : fr = ws.length := by omega
    have he := ended_mk hc ha (by rw [hfr]; exact this) ho
    rw [this, brk_done, List.append_nil] at hbr
    subst hbr
    have := hk he
    refine hg.end1 ?_
    simpa [sl] using this
end Go.Proofs.Ytlajhbpkogekfaa

namespace Go.Proofs.Ytlajhbpkogekfaa
open Go.Av Line
set_option linter.unusedVariables false
set_option linter.unusedSimpArgs false

/-- slices.Reverse, of a list of one's own -/
theorem c60 {v : AV} {n : Nat} {l : List Int} {H0 H : Heap} {K : AV → Heap → Prop} (hg : Grow 1 H0 H v n (ints l)) (hr : isOwn v ∨ n ≤ 1) (hn : n < 1000000)
    (hk : ∀ H', Grow 1 H0 H' v n (ints l.reverse) → K (.tup []) H') : ACalls Try.prog 60 [v] H K := by
  apply W60_ok
  unfold W60
  have hl : l.length = n := by simpa using hg.1
  simp only [letO_some, cellsOf?_agg, cellsOf?_int, cellsOf?_bool, cellsOf?_imm, cellsOf?_ref, cellsOf?_nils, faddr_iptr, faddr_ptr, List.drop_succ_cons, List.drop_zero, List.take_succ_cons, List.take_zero, load1_iptr, loadN_iptr, List.length_cons, List.length_nil, Nat.le_refl, if_true, List.getElem?_cons_zero, List.getElem?_cons_succ, List.getD_cons_zero, List.getD_cons_succ, extrF_tup, binF_add, binF_sub, binF_mul, binF_eql, binF_neq, binF_lss, binF_leq, binF_gtr, binF_geq, true_and, hg.len]
  rw [wrap_i64 (by omega) (by omega)]
  refine ⟨fun L H' => ∃ i : Nat, L = [.int .i64 i, .int .i64 ((n : Int) - 1 - i)] ∧ i ≤ n ∧ (i = 0 ∨ 2 * i ≤ n) ∧ Grow 1 H0 H' v n (ints (rvk l i)), fun L _ => (n - iv L 0).toNat,
    ⟨0, by simp, by omega, .inl rfl, by rw [rvk_zero]; exact hg⟩, ?_⟩
  intro L H' hI
  obtain ⟨i, rfl, hi, hi2, hg'⟩ := hI
  simp only [letO_some, cellsOf?_agg, cellsOf?_int, cellsOf?_bool, cellsOf?_imm, cellsOf?_ref, cellsOf?_nils, faddr_iptr, faddr_ptr, List.drop_succ_cons, List.drop_zero, List.take_succ_cons, List.take_zero, load1_iptr, loadN_iptr, List.length_cons, List.length_nil, Nat.le_refl, if_true, List.getElem?_cons_zero, List.getElem?_cons_succ, List.getD_cons_zero, List.getD_cons_succ, extrF_tup, binF_add, binF_sub, binF_mul, binF_eql, binF_neq, binF_lss, binF_leq, binF_gtr, binF_geq, true_and]
  refine condA_t (fun hlt => ?_) (fun hge => ?_)
  · have hlt2 : 2 * i + 1 < n := by omega
    have hown := hr.resolve_right (by omega)
    obtain ⟨b, hb, hidx, hld, hst⟩ := grow_at hg' hown (i := i) (by omega)
    obtain ⟨b2, hb2, hidx2, hld2, hst2⟩ := grow_at hg' hown (i := n - 1 - i) (by omega)
    have ej : (n : Int) - 1 - i = ((n - 1 - i : Nat) : Int) := by omega
    rw [ej]
    simp only [hidx, hidx2, hld _ (Heap.le_refl _), hld2 _ (Heap.le_refl _), letO_some]
    have e1 : (rvk l i).getD (n - 1 - i) 0 = l.getD (n - 1 - i) 0 := by
      rw [rvk_get (by omega), if_neg (by omega)]
    have e2 : (rvk l i).getD i 0 = l.getD i 0 := by
      rw [rvk_get (by omega), if_neg (by omega)]
    rw [e1, e2]
    refine hst _ _ fun H5 hg5 _ => ?_
    obtain ⟨b3, hb3, hidx3, _, hst3⟩ := grow_at hg5 hown (i := n - 1 - i) (by omega)
    rw [hidx2] at hidx3
    cases hidx3
    refine hst3 _ _ fun H6 hg6 _ => ?_
    rw [wrap_i64 (by omega) (by omega), wrap_i64 (by omega) (by omega)]
    refine ⟨⟨i + 1, by simp <;> omega, by omega, .inr (by omega), ?_⟩, by simp <;> omega⟩
    have := rvk_step (l := l) (i := i) (by omega)
    rw [hl] at this
    rw [← this]; exact hg6
  · refine endK_ret (hk _ ?_)
    rw [← rvk_end (l := l) (i := i) (by omega) (by omega)]
    exact hg'
end Go.Proofs.Ytlajhbpkogekfaa

namespace Go.Proofs.Ytlajhbpkogekfaa
open Go.Av Line
set_option linter.unusedVariables false
set_option linter.unusedSimpArgs false
set_option maxRecDepth 4000

theorem alloc_grow {sz : Nat} {H0 H : Heap} {v : AV} {n b : Nat} {cells cs : List AV} (h : Grow sz H0 H v n cells) (hb : H b = none) : Grow sz (H0.put b cs) (H.put b cs) v n cells := by
  refine ⟨h.1, ?_⟩
  rcases h.2 with ⟨e, e2, rfl⟩ | ⟨e, rfl⟩ | ⟨b3, hb3, e, rfl⟩
  · exact .inl ⟨e, e2, rfl⟩
  · exact .inr (.inl ⟨e, rfl⟩)
  · have hne : b3 ≠ b := Heap.ne_of (Heap.put_same) hb
    exact .inr (.inr ⟨b3, by rw [Heap.put_ne hne]; exact hb3, e, Heap.put_comm hne⟩)
theorem alloc_store_le {n : Nat} {z cs : List AV} {x : AV} {k : AV → Heap → Prop} {H H0 : Heap} (h0 : H0.le H) (hx : cellsOf? x = some cs) (hs : cs.all isScalar = true) (hl : cs.length = n) (hz : z.length = n)
    (hk : ∀ b, H b = none → k (.ptr b 0) (H.put b cs)) : allocA z (fun t H3 => H0.le H3 ∧ storeA n t x (fun H4 => H0.le H4 ∧ k t H4) H3) H := by
  intro b hb
  refine ⟨Heap.le_trans h0 (Heap.le_new hb), ?_⟩
  refine storeA_of Heap.put_same hx hs hl (by simp [hl, hz]) ?_
  have : splice z 0 cs = cs := by simp [splice, hl, hz]
  rw [this, Heap.put_put]
  exact ⟨Heap.le_trans h0 (Heap.le_new hb), hk b hb⟩

/-- LineTurned -/
theorem c14 {W M S : Nat} {l st : List Nat} {H : Heap} {K : AV → Heap → Prop} (hW : W < 256) (hM : M < 256) (hS : S < 256) (hl : l.length = 10) (hlx : ∀ x ∈ l, x < 256) (hst : st.length = 10) (hsx : ∀ x ∈ st, x < 256) (hk : ∀ H', H.le H' → K (.bool true) H') :
    ACalls Try.prog 14 [.agg (u8s (W :: M :: S :: l)), .agg (u8s st)] H K := by
  apply W14_ok
  unfold W14
  have hc := chk_made (W := W) (M := M) (S := S) (most := 10) hl (by omega)
  have hL13 : loadN 13 (.iptr (u8s (W :: M :: S :: l))) H = some (.agg (u8s (W :: M :: S :: l))) := by
    rw [loadN_iptr, if_pos (by simp [hl]), List.take_of_length_le (by simp [hl])]
  simp only [cellsOf?_agg, letO_some, hL13]
  refine c34 (most := 10) hW hM hS hl hlx (by omega) ?_
  generalize madeL W M S l 10 = ws at *
  generalize ((gw W : Nat) : Int) = w at *
  obtain ⟨w1, w2, n1, n2, hws⟩ := chk_ok hc
  refine alloc_store (cs := [.int .i64 w, sl ws]) rfl rfl rfl rfl fun b5 hb5 => ?_
  have hle5 := Heap.le_put_self (cs := [.int .i64 w, sl ws]) hb5
  have hb : (H.put b5 [.int .i64 w, sl ws]) b5 = some [.int .i64 w, sl ws] := Heap.put_same
  generalize H.put b5 [.int .i64 w, sl ws] = H5 at *
  have lw : load1 (.ptr b5 (0 + 1)) H5 = some (sl ws) := load1_at hb rfl
  have l0 : load1 (.ptr b5 0) H5 = some (.int .i64 w) := load1_at hb rfl
  have hlw : ws.length < 2 ^ 60 := by omega
  simp only [letO_some, cellsOf?_agg, cellsOf?_int, cellsOf?_bool, cellsOf?_imm, cellsOf?_ref, cellsOf?_nils, faddr_iptr, faddr_ptr, List.drop_succ_cons, List.drop_zero, List.take_succ_cons, List.take_zero, load1_iptr, loadN_iptr, List.length_cons, List.length_nil, Nat.le_refl, if_true, List.getElem?_cons_zero, List.getElem?_cons_succ, List.getD_cons_zero, List.getD_cons_succ, extrF_tup, binF_add, binF_sub, binF_mul, binF_eql, binF_neq, binF_lss, binF_leq, binF_gtr, binF_geq, true_and, lw, l0, (Reads.sl H5 ws).len]
  refine c40 (Reads.sl _ _) (by rintro rfl; simp at n1) (by omega) fun v1 H6 hg6 ho6 => ⟨hg6.le, ?_⟩
  simp only [b24 cellsOf?_int hg6.cells, letO_some]
  refine alloc_store_le (cs := [.int .i64 w, v1]) hg6.le rfl (by simp only [List.all_cons, hg6.scalar]; rfl) rfl rfl fun b7 hb7 => ?_
  have hg7 := alloc_grow (cs := [.int .i64 w, v1]) hg6 hb7
  have h57 : H5 b7 = none := by
    cases h : H5 b7 with
    | none => rfl
    | some c => rw [hg6.le _ _ h] at hb7; cases hb7
  have hG5 : (H5.put b7 [.int .i64 w, v1]) b5 = some [.int .i64 w, sl ws] := Heap.le_new h57 _ _ hb
  have hG7 : (H5.put b7 [.int .i64 w, v1]) b7 = some [.int .i64 w, v1] := Heap.put_same
  have hleG : H5.le (H5.put b7 [.int .i64 w, v1]) := Heap.le_new h57
  generalize H6.put b7 [.int .i64 w, v1] = H8 at *
  generalize H5.put b7 [.int .i64 w, v1] = G at *
  have l1 : load1 (.ptr b7 (0 + 1)) H8 = some v1 := load1_at (hg7.le _ _ hG7) rfl
  simp only [letO_some, cellsOf?_agg, cellsOf?_int, cellsOf?_bool, cellsOf?_imm, cellsOf?_ref, cellsOf?_nils, faddr_iptr, faddr_ptr, List.drop_succ_cons, List.drop_zero, List.take_succ_cons, List.take_zero, load1_iptr, loadN_iptr, List.length_cons, List.length_nil, Nat.le_refl, if_true, List.getElem?_cons_zero, List.getElem?_cons_succ, List.getD_cons_zero, List.getD_cons_succ, extrF_tup, binF_add, binF_sub, binF_mul, binF_eql, binF_neq, binF_lss, binF_leq, binF_gtr, binF_geq, true_and, l1]
  refine c60 hg7 (.inl ho6) (by omega) fun H9 hg9 => ?_
  have hL5 : ∀ {X : Heap}, G.le X → loadN 2 (.ptr b5 0) X = some (.agg [.int .i64 w, sl ws]) := fun h => loadN_at (cells := [.int .i64 w, sl ws]) (h _ _ hG5)
  have hL7 : ∀ {X : Heap}, G.le X → loadN 2 (.ptr b7 0) X = some (.agg [.int .i64 w, v1]) := fun h => loadN_at (cells := [.int .i64 w, v1]) (h _ _ hG7)
  have hle9 := hg9.le
  simp only [hL5 hle9, letO_some]
  refine c36 (Reads.sl _ _) hlw ?_
  have hcr := chk_rev hc
  have hF : ∀ us : List Int, chk w us = 0 → fullO w us = up (fullE w us us.length 0) := fun us h => by rw [fullO, if_pos h]
  have hrl : ws.reverse.length = ws.length := List.length_reverse
  rw [hF _ hc, hc]
  simp only [letO_some, cellsOf?_agg, cellsOf?_int, cellsOf?_bool, cellsOf?_imm, cellsOf?_ref, cellsOf?_nils, faddr_iptr, faddr_ptr, List.drop_succ_cons, List.drop_zero, List.take_succ_cons, List.take_zero, load1_iptr, loadN_iptr, List.length_cons, List.length_nil, Nat.le_refl, if_true, List.getElem?_cons_zero, List.getElem?_cons_succ, List.getD_cons_zero, List.getD_cons_succ, extrF_tup, binF_add, binF_sub, binF_mul, binF_eql, binF_neq, binF_lss, binF_leq, binF_gtr, binF_geq, true_and, hL7 hle9]
  refine c36 hg9.reads (by rw [hrl]; exact hlw) ?_
  rw [hF _ hcr, hcr]
  have q1 : ∀ (l : List Int), lenA (sl l) = some (.int .i64 l.length) := fun l => (Reads.sl H9 l).len
  have u1 : ∀ F : List Nat, (up F).length = F.length := fun F => by simp [up]
  have ht10 : List.take 10 (u8s st) = u8s st := List.take_of_length_le (by simp [hst])
  simp only [letO_some, cellsOf?_agg, cellsOf?_int, cellsOf?_bool, cellsOf?_imm, cellsOf?_ref, cellsOf?_nils, faddr_iptr, faddr_ptr, List.drop_succ_cons, List.drop_zero, List.take_succ_cons, List.take_zero, load1_iptr, loadN_iptr, List.length_cons, List.length_nil, Nat.le_refl, if_true, List.getElem?_cons_zero, List.getElem?_cons_succ, List.getD_cons_zero, List.getD_cons_succ, extrF_tup, binF_add, binF_sub, binF_mul, binF_eql, binF_neq, binF_lss, binF_leq, binF_gtr, binF_geq, true_and, gval_bool, Int.reduceBNe, Int.reduceBEq, pickF_true, pickF_false, reduceIte, Bool.true_eq_false, Bool.false_eq_true, if_false, condA_tt, condA_ff, condG_tt, condG_ff, condG_tt', condG_ff', condG_undef, gval_undef, bne_self_eq_false, q1, u1, full_rev hc, hL5 hle9, u8s_length, hst, ht10]
  refine c39e (Reads.sl _ _) hc hst hsx fun he => ?_
  have hok := brk_ok (st := st) hc
  generalize hE : brk w ws st ws.length 0 = E at *
  have hEl := (ended_short he)
  rw [u1] at hEl
  have hne : E ≠ [] := by rintro rfl; simp at hEl
  have hEn : ∀ e ∈ E, e ≤ ws.length := by
    intro e hme
    obtain ⟨k, hk, rfl⟩ := List.getElem_of_mem hme
    have := (ok_lines hok hk).2.1
    rw [List.getD_eq_getElem?_getD, List.getElem?_eq_getElem hk] at this
    exact this
  simp only [l22 cellsOf?_int, letO_some]
  refine c46 ?_
  obtain ⟨y, hy, hry⟩ := slc_pre (Reads.sl H9 (up E)) (k := E.length - 1) (by rw [u1]; omega)
  have ey : ((up E).take (E.length - 1)).length = E.length - 1 := by rw [List.length_take, u1]; omega
  simp only [letO_some, cellsOf?_agg, cellsOf?_int, cellsOf?_bool, cellsOf?_imm, cellsOf?_ref, cellsOf?_nils, faddr_iptr, faddr_ptr, List.drop_succ_cons, List.drop_zero, List.take_succ_cons, List.take_zero, load1_iptr, loadN_iptr, List.length_cons, List.length_nil, Nat.le_refl, if_true, List.getElem?_cons_zero, List.getElem?_cons_succ, List.getD_cons_zero, List.getD_cons_succ, extrF_tup, binF_add, binF_sub, binF_mul, binF_eql, binF_neq, binF_lss, binF_leq, binF_gtr, binF_geq, true_and, q1, u1]
  rw [wrap_i64 (by omega) (by omega), show ((E.length : Int) - 1) = ((E.length - 1 : Nat) : Int) by omega]
  simp only [hy, hry.len, ey, letO_some]
  refine ⟨fun L H' => ∃ (k : Nat) (X : AV), L = [X, .int .i64 k] ∧ k ≤ E.length - 1 ∧ (isOwn X ∨ k = 0) ∧ Grow 1 H9 H' X (k + 1) (ints ((ws.length : Int) :: ((up E).take k).map fun e => (ws.length : Int) - e)), fun L _ => (E.length - 1 - iv L 1).toNat,
    ⟨0, _, rfl, by omega, .inr rfl, Grow.imm rfl⟩, ?_⟩
  intro L H' hI
  obtain ⟨k, X, rfl, hk1, hown, hgX⟩ := hI
  simp only [letO_some, cellsOf?_agg, cellsOf?_int, cellsOf?_bool, cellsOf?_imm, cellsOf?_ref, cellsOf?_nils, faddr_iptr, faddr_ptr, List.drop_succ_cons, List.drop_zero, List.take_succ_cons, List.take_zero, load1_iptr, loadN_iptr, List.length_cons, List.length_nil, Nat.le_refl, if_true, List.getElem?_cons_zero, List.getElem?_cons_succ, List.getD_cons_zero, List.getD_cons_succ, extrF_tup, binF_add, binF_sub, binF_mul, binF_eql, binF_neq, binF_lss, binF_leq, binF_gtr, binF_geq, true_and]
  refine condA_t (fun hlt => ?_) (fun hge => ?_)
  · have hkl : k < E.length - 1 := by omega
    refine hry.get hgX.le (by omega) (by rw [ey]; omega) ?_
    rw [Int.toNat_natCast]
    have hg1 : ((up E).take (E.length - 1)).getD k 0 = (E.getD k 0 : Nat) := by
      rw [List.getD_eq_getElem?_getD, List.getElem?_take_of_lt (by omega), ← List.getD_eq_getElem?_getD, up_getD]
    have hb1 := (ok_lines hok (k := k) (by omega)).2.1
    rw [hg1]
    simp only [letO_some, cellsOf?_agg, cellsOf?_int, cellsOf?_bool, cellsOf?_imm, cellsOf?_ref, cellsOf?_nils, faddr_iptr, faddr_ptr, List.drop_succ_cons, List.drop_zero, List.take_succ_cons, List.take_zero, load1_iptr, loadN_iptr, List.length_cons, List.length_nil, Nat.le_refl, if_true, List.getElem?_cons_zero, List.getElem?_cons_succ, List.getD_cons_zero, List.getD_cons_succ, extrF_tup, binF_add, binF_sub, binF_mul, binF_eql, binF_neq, binF_lss, binF_leq, binF_gtr, binF_geq, true_and]
    rw [wrap_i64 (by omega) (by omega)]
    simp only [l22 cellsOf?_int, letO_some]
    refine appendA_oneR hgX (by omega) fun v' H7 hg7 ho7 => ?_
    rw [wrap_i64 (by omega) (by omega)]
    refine ⟨⟨k + 1, v', rfl, by omega, .inl ho7, ?_⟩, by simp <;> omega⟩
    have e : (up E).take (k + 1) = (up E).take k ++ [((E.getD k 0 : Nat) : Int)] := by
      have hku : k < (up E).length := by rw [u1]; omega
      rw [List.take_add_one, ← up_getD, List.getD_eq_getElem?_getD, List.getElem?_eq_getElem hku]
      rfl
    rw [e, List.map_append, ← List.cons_append]
    exact hg7
  have hkE : k = E.length - 1 := by omega
  subst hkE
  have hm1 : E.length - 1 + 1 = E.length := by omega
  rw [hm1] at hgX
  refine c60 hgX (by rcases hown with h | h; exact .inl h; exact .inr (by omega)) (by omega) fun H21 hg21 => ?_
  rw [up_rv hne hEn] at hg21
  have hrv := rv_length (n := ws.length) (fr := 0) (E := E)
  have hok2 := ok_rev hok
  generalize hR : rv ws.length 0 E = R at *
  have he2 := ok_ended hcr hok2
  have hle21 := Heap.le_trans hle9 hg21.le
  simp only [hL5 hle21, letO_some]
  refine c44p (Reads.sl _ _) (Reads.sl _ _) hlw (by rw [u1]; omega) ?_
  rw [he, leftO, if_pos he, toN_up, u1]
  simp only [letO_some, cellsOf?_agg, cellsOf?_int, cellsOf?_bool, cellsOf?_imm, cellsOf?_ref, cellsOf?_nils, faddr_iptr, faddr_ptr, List.drop_succ_cons, List.drop_zero, List.take_succ_cons, List.take_zero, load1_iptr, loadN_iptr, List.length_cons, List.length_nil, Nat.le_refl, if_true, List.getElem?_cons_zero, List.getElem?_cons_succ, List.getD_cons_zero, List.getD_cons_succ, extrF_tup, binF_add, binF_sub, binF_mul, binF_eql, binF_neq, binF_lss, binF_leq, binF_gtr, binF_geq, true_and, hL7 hle21]
  refine c44 (hg9.reads.le hg21.le) hg21.reads (by rw [hrl]; exact hlw) (by rw [u1]; omega) (fun h => absurd he2 h) fun _ v17 H23 hg23 ho23 => ?_
  rw [toN_up, u1] at hg23
  simp only [letO_some, cellsOf?_agg, cellsOf?_int, cellsOf?_bool, cellsOf?_imm, cellsOf?_ref, cellsOf?_nils, faddr_iptr, faddr_ptr, List.drop_succ_cons, List.drop_zero, List.take_succ_cons, List.take_zero, load1_iptr, loadN_iptr, List.length_cons, List.length_nil, Nat.le_refl, if_true, List.getElem?_cons_zero, List.getElem?_cons_succ, List.getD_cons_zero, List.getD_cons_succ, extrF_tup, binF_add, binF_sub, binF_mul, binF_eql, binF_neq, binF_lss, binF_leq, binF_gtr, binF_geq, true_and]
  refine c60 hg23 (.inl ho23) (by omega) fun H24 hg24 => ?_
  have hlr := left_rev hok
  rw [hR] at hlr
  rw [hrv, hlr, List.reverse_reverse] at hg24
  simp only [letO_some, cellsOf?_agg, cellsOf?_int, cellsOf?_bool, cellsOf?_imm, cellsOf?_ref, cellsOf?_nils, faddr_iptr, faddr_ptr, List.drop_succ_cons, List.drop_zero, List.take_succ_cons, List.take_zero, load1_iptr, loadN_iptr, List.length_cons, List.length_nil, Nat.le_refl, if_true, List.getElem?_cons_zero, List.getElem?_cons_succ, List.getD_cons_zero, List.getD_cons_succ, extrF_tup, binF_add, binF_sub, binF_mul, binF_eql, binF_neq, binF_lss, binF_leq, binF_gtr, binF_geq, true_and, gval_bool, Int.reduceBNe, Int.reduceBEq, pickF_true, pickF_false, reduceIte, Bool.true_eq_false, Bool.false_eq_true, if_false, condA_tt, condA_ff, condG_tt, condG_ff, condG_tt', condG_ff', condG_undef, gval_undef, beq_self_eq_true]
  refine exJ ?_
  refine c25p (Reads.sl _ _) hg24.reads (by simp; omega) ?_
  simp only [decide_true, letO_some, cellsOf?_agg, cellsOf?_int, cellsOf?_bool, cellsOf?_imm, cellsOf?_ref, cellsOf?_nils, faddr_iptr, faddr_ptr, List.drop_succ_cons, List.drop_zero, List.take_succ_cons, List.take_zero, load1_iptr, loadN_iptr, List.length_cons, List.length_nil, Nat.le_refl, if_true, List.getElem?_cons_zero, List.getElem?_cons_succ, List.getD_cons_zero, List.getD_cons_succ, extrF_tup, binF_add, binF_sub, binF_mul, binF_eql, binF_neq, binF_lss, binF_leq, binF_gtr, binF_geq, true_and, gval_bool, Int.reduceBNe, Int.reduceBEq, pickF_true, pickF_false, reduceIte, Bool.true_eq_false, Bool.false_eq_true, if_false, condA_tt, condA_ff, condG_tt, condG_ff, condG_tt', condG_ff', condG_undef, gval_undef]
  refine exJ ?_
  refine c16 ?_
  try simp only [letO_some, cellsOf?_agg, cellsOf?_int, cellsOf?_bool, cellsOf?_imm, cellsOf?_ref, cellsOf?_nils, faddr_iptr, faddr_ptr, List.drop_succ_cons, List.drop_zero, List.take_succ_cons, List.take_zero, load1_iptr, loadN_iptr, List.length_cons, List.length_nil, Nat.le_refl, if_true, List.getElem?_cons_zero, List.getElem?_cons_succ, List.getD_cons_zero, List.getD_cons_succ, extrF_tup, binF_add, binF_sub, binF_mul, binF_eql, binF_neq, binF_lss, binF_leq, binF_gtr, binF_geq, true_and, gval_bool, Int.reduceBNe, Int.reduceBEq, pickF_true, pickF_false, reduceIte, Bool.true_eq_false, Bool.false_eq_true, if_false, condA_tt, condA_ff, condG_tt, condG_ff, condG_tt', condG_ff', condG_undef, gval_undef]
  exact endK_ret (hk _ (Heap.le_trans hle5 (Heap.le_trans hleG (Heap.le_trans hle21 hg24.le))))
theorem lineTurned.law {W M S : Nat} {l st : List Nat} (hW : W < 256) (hM : M < 256) (hS : S < 256) (hl : l.length = 10) (hlx : ∀ x ∈ l, x < 256) (hst : st.length = 10) (hsx : ∀ x ∈ st, x < 256) :
    ACalls Try.prog 14 [.agg (u8s (W :: M :: S :: l)), .agg (u8s st)] Heap.none fun r _ => r = .bool true := c14 hW hM hS hl hlx hst hsx fun _ _ => rfl
end Go.Proofs.Ytlajhbpkogekfaa

/- MADE BY PROGRAM (row.py): the row of LineTurned. -/
namespace Go.Proofs.Ytlajhbpkogekfaa.lineTurned
open Go.ChangeShapes Go.WideShapes Go.ChangeAt Go.RowKit Go.Av
set_option linter.unusedVariables false

theorem own : ownKnob Try.prog.godebug = none := by kernel_rfl
theorem laidOut : laidOutB Try.prog = true := by kernel_rfl
theorem split13 {g : List Nat} (h : g.length = 13) : ∃ a b c l, g = a :: b :: c :: l ∧ l.length = 10 := by
  match g, h with
  | a :: b :: c :: l, h => exact ⟨a, b, c, l, rfl, by simpa using h⟩

set_option maxRecDepth 100000 in
theorem lifted (os : Os) (started : os.Started) (H : Type) (enc : TypeId × Value → H) :
    ReturnsInHanded {} Try.checked os 14 .any (Rows.lineTurnedSpec.pre6 enc Try.prog Try.f14 Rows.lineTurnedRow.domain false) (Rows.lineTurnedSpec.post enc Try.prog Try.f14 false true false false) := by
  refine returnsInHanded_of_change (C := Try.checked) own started (by kernel_rfl) Try.func14
    (ChangeSpec.witness6 (enc := enc) (C := Try.checked) false ⟨#[], #[.agg #[.int .u8 0, .int .u8 0, .int .u8 0, .int .u8 0, .int .u8 0, .int .u8 0, .int .u8 0, .int .u8 0, .int .u8 0, .int .u8 0, .int .u8 0, .int .u8 0, .int .u8 0], .agg #[.int .u8 0, .int .u8 0, .int .u8 0, .int .u8 0, .int .u8 0, .int .u8 0, .int .u8 0, .int .u8 0, .int .u8 0, .int .u8 0]], []⟩ 8 (by kernel_rfl) (by kernel_rfl) (by kernel_rfl) (by kernel_rfl)) ?_
  intro W base args ds gs before hval0 hW hcnd _
  have hval : ∀ (j : Nat) t v, Try.f14.params[j]? = some t → args[j]? = some v → Value.okWide Try.prog W .any base t v := hval0
  have hW' := hW
  obtain ⟨p, q, hA0, hV, rfl, hfz, hnd⟩ := hW
  have hA : DataW.TrodAll enc Try.prog W 0 (fun _ => true) true Try.f14.params.toList args.toList ds p := hA0
  have hA1 := hA
  rw [Try.params14] at hA hval
  obtain ⟨rfl, rfl⟩ := trodVars_none hV
  clear hA0 hval0
  simp only [List.append_nil] at hW'
  have hlt : ∀ x ∈ p, x.block < W.heap.size := fun x hx => by simpa using hW'.lt x hx
  obtain ⟨v0, v1, d0, d1, p0, p1, rfl, rfl, rfl, h0, h1⟩ := trodAll_two hA
  obtain ⟨g0, gl0, gx0, r0⟩ := rep_row (E := E0 W) (n := 13) (u := 5) (.inl ⟨_, Try.underlying47⟩) (by kernel_rfl) (by kernel_rfl) Try.underlying5 (hval 0 47 v0 rfl rfl)
  obtain ⟨W0, M0, S0, l0, rfl, hl0⟩ := split13 gl0
  obtain ⟨a1, al1, ax1, r1⟩ := rep_row (E := E0 W) (n := 10) (u := 5) (.inr ⟨_, _, Try.underlying45⟩) (by kernel_rfl) (by kernel_rfl) Try.underlying5 (hval 1 45 v1 rfl rfl)
  refine ((law (gx0 _ (by simp)) (gx0 _ (by simp)) (gx0 _ (by simp)) hl0 (fun x hx => gx0 x (by simp [hx])) al1 ax1).2 (E0 W) W [v0, v1] (st0 W) (RepL.cons r0 (RepL.cons r1 (RepL.nil _)))).mono ?_
  rintro e W' ⟨r, v, E', H', rfl, hr, _, hx, rfl⟩
  cases hr
  exact ⟨_, rfl, _, _, _, [], _, [], hW', trodAll_cons_mk (shut_bool Try.underlying4 _) trodAll_mk0, hx.trodAll laidOut (by kernel_rfl) hA1 hlt, rfl, hx.kept _, fun h => by cases h⟩

theorem over : Rows.lineTurnedRow.holds Try.pinned (OpenSpec.ofChange Rows.lineTurnedSpec) :=
  OpenClaim.holds_of_wide 14 Try.f14 rfl rfl rfl rfl rfl rfl rfl ⟨rfl, rfl, rfl, rfl, rfl⟩ rfl rfl rfl rfl rfl (by kernel_rfl) Try.func14 (by kernel_rfl)
    (of_decide_eq_true (by kernel_rfl)) (by unfold Func.isWrapper; first | (rw [if_pos (by decide +kernel)]; kernel_rfl) | (rw [if_neg (by decide +kernel)]; exact ⟨rfl, rfl⟩))
    (fun os started H enc _ => lifted os started H enc)

theorem proved : Rows.LineTurnedSaid := over
#print axioms proved
end Go.Proofs.Ytlajhbpkogekfaa.lineTurned
