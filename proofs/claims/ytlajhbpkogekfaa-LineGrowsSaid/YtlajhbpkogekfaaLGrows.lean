import Derived.Test.YtlajhbpkogekfaaCon
import Derived.Test.YtlajhbpkogekfaaAvB
import Derived.Test.YtlajhbpkogekfaaRows
import Derived.Test.YtlajhbpkogekfaaLGrowsW
/- LineGrows: for every input the law returns true, and the input reads as before. No conditions. -/
/- Texts by numbers. -/
set_option linter.unusedVariables false
namespace Line
def gw (W : Nat) : Nat := 1 + W % 40
def glong (W S : Nat) : Nat := if S % 3 > 0 then 1 + gw W / 2 else gw W
def gmin (W S : Nat) : Nat := if gw W < glong W S then gw W else glong W S
def gwords (W S : Nat) (l : List Nat) : List Int := l.map fun x => ((1 + x % gmin W S : Nat) : Int)
def madeL (W M S : Nat) (l : List Nat) (most : Nat) : List Int := gwords W S (l.take (1 + M % most))
theorem gw_range (W : Nat) : 1 ≤ gw W ∧ gw W ≤ 40 := by unfold gw; omega
theorem gmin_range (W S : Nat) : 1 ≤ gmin W S ∧ gmin W S ≤ gw W := by
  have := gw_range W
  unfold gmin glong
  split <;> split <;> omega
theorem made_len {W M S : Nat} {l : List Nat} {most : Nat} (hl : l.length = 10) (hm : 1 ≤ most ∧ most ≤ 10) : (madeL W M S l most).length = 1 + M % most := by
  have := Nat.mod_lt M (show most > 0 by omega)
  simp [madeL, gwords]; omega
theorem chk_made {W M S : Nat} {l : List Nat} {most : Nat} (hl : l.length = 10) (hm : 1 ≤ most ∧ most ≤ 10) : chk (gw W) (madeL W M S l most) = 0 := by
  have h1 := gw_range W
  have h2 := made_len (W := W) (M := M) (S := S) hl hm
  have h3 := Nat.mod_lt M (show most > 0 by omega)
  unfold chk
  rw [if_neg (by omega), if_neg (by omega), if_neg (by omega), if_pos]
  intro x hx
  simp only [madeL, gwords, List.mem_map] at hx
  obtain ⟨y, _, rfl⟩ := hx
  have h4 := gmin_range W S
  have := Nat.mod_lt y (show gmin W S > 0 by omega)
  omega
end Line

/- Ends in order. -/
set_option linter.unusedVariables false
namespace Line
/-- Ends that ascend, behind one, up to a last place. -/
def asc (n : Int) : Int → List Int → Prop
  | _, [] => True
  | last, e :: r => last < e ∧ 1 ≤ e ∧ e ≤ n ∧ asc n e r
theorem scan_asc {n : Int} : ∀ {l : List Int} {last : Int} (r : List Int), asc n last l → scan n last (l ++ r) = scan n (l.getLastD last) r
  | [], last, r, _ => rfl
  | e :: l, last, r, h => by
    obtain ⟨h1, h2, h3, h4⟩ := h
    rw [List.cons_append, scan, if_neg (by omega), if_neg (by omega), scan_asc r h4, List.getLastD_cons]
theorem asc_snoc {n : Int} : ∀ {l : List Int} {last x : Int}, asc n last l → l.getLastD last < x → 1 ≤ x → x ≤ n → asc n last (l ++ [x])
  | [], last, x, _, h1, h2, h3 => ⟨by simpa using h1, h2, h3, trivial⟩
  | e :: l, last, x, h, h1, h2, h3 => by
    obtain ⟨g1, g2, g3, g4⟩ := h
    rw [List.getLastD_cons] at h1
    exact ⟨g1, g2, g3, asc_snoc g4 h1 h2 h3⟩
theorem asc_of_scan {n : Int} : ∀ {l : List Int} {last : Int}, scan n last l = 0 → asc n last l
  | [], _, _ => trivial
  | e :: r, last, h => by
    rw [scan] at h
    split at h; · omega
    split at h; · omega
    exact ⟨by omega, by omega, by omega, asc_of_scan h⟩
/-- A line begins before it ends. -/
theorem stN_lt {n : Int} {l : List Int} (h : asc n 0 l) {k : Nat} (hk : k < l.length) : stN (toN l) k < (toN l).getD k 0 := by
  have key : ∀ {l : List Int} {last : Int}, 0 ≤ last → asc n last l → ∀ k, k < l.length → (if k = 0 then last.toNat else (toN l).getD (k - 1) 0) < (toN l).getD k 0 := by
    intro l
    induction l with
    | nil => intro last _ _ k hk; simp at hk
    | cons e r ih =>
      intro last hl h k hk
      obtain ⟨h1, h2, h3, h4⟩ := h
      cases k with
      | zero => simp [toN]; omega
      | succ k =>
        have := ih (last := e) (by omega) h4 k (by simpa using hk)
        cases k with
        | zero => simpa [toN] using this
        | succ k => simpa [toN] using this
  have := key (Int.le_refl 0) h k hk
  unfold stN
  simpa using this
theorem asc_le {n : Int} : ∀ {l : List Int} {last : Int}, asc n last l → ∀ e ∈ l, 1 ≤ e ∧ e ≤ n
  | [], _, _ => by simp
  | e :: r, last, h => by
    obtain ⟨h1, h2, h3, h4⟩ := h
    intro x hx
    rcases List.mem_cons.1 hx with rfl | hx
    · exact ⟨h2, h3⟩
    · exact asc_le h4 x hx
theorem up_append (a b : List Nat) : up (a ++ b) = up a ++ up b := by simp [up]
theorem up_snoc (a : List Nat) (q : Nat) : up (a ++ [q]) = up a ++ [(q : Int)] := by simp [up]
theorem toN_up (E : List Nat) : toN (up E) = E := by
  simp only [toN, up, List.map_map]
  conv => rhs; rw [← List.map_id E]
  exact List.map_congr_left fun x _ => by simp
end Line

/- Lines of ends, one by one. -/
set_option linter.unusedVariables false
set_option linter.unusedSimpArgs false
namespace Line
theorem getD_append_lt {E r : List Nat} {k : Nat} (h : k < E.length) : (E ++ r).getD k 0 = E.getD k 0 := by
  rw [List.getD_eq_getElem?_getD, List.getElem?_append_left h, ← List.getD_eq_getElem?_getD]
theorem getD_last (E : List Nat) (h : E ≠ []) : E.getD (E.length - 1) 0 = E.getLastD 0 := by
  rw [List.getLastD_eq_getLast?, List.getD_eq_getElem?_getD, List.getLast?_eq_getElem?]
theorem stN_append {E r : List Nat} : stN (E ++ r) E.length = E.getLastD 0 := by
  unfold stN
  split
  · rename_i h
    have : E = [] := List.eq_nil_of_length_eq_zero h
    subst this; rfl
  · rename_i h
    rw [getD_append_lt (by omega), getD_last E (by rintro rfl; simp at h)]
theorem spansN_append (E r : List Nat) : spansN (E ++ r) E.length = spansN E E.length := by
  unfold spansN
  refine List.map_congr_left fun k hk => ?_
  have hk := List.mem_range.1 hk
  unfold spanN stN
  rw [getD_append_lt hk]
  split
  · rfl
  · rw [getD_append_lt (by omega)]
theorem spansN_snoc (E : List Nat) (x : Nat) : spansN (E ++ [x]) (E.length + 1) = spansN E E.length ++ [(E.getLastD 0, x)] := by
  rw [spansN_succ, spansN_append]
  unfold spanN
  rw [stN_append, List.getD_eq_getElem?_getD, List.getElem?_append_right (Nat.le_refl _)]
  simp
theorem over_snoc (w : Int) (ws : List Int) (E : List Nat) (x : Nat) : over w ws (E ++ [x]) = (over w ws E || decide (lf w ws (E.getLastD 0) x < 0)) := by
  unfold over
  rw [List.length_append, List.length_singleton, spansN_snoc, List.any_append]
  simp
theorem up_lastD (E : List Nat) : (up E).getLastD 0 = (E.getLastD 0 : Nat) := by
  cases E with
  | nil => rfl
  | cons a l => simp [up, List.getLastD_eq_getLast?, List.getLast?_map, List.getLast?_cons]
/-- Ends that ascend, end with the last word, and fit. -/
theorem ended_mk {w : Int} {ws : List Int} {E : List Nat} (hc : chk w ws = 0) (ha : asc ws.length 0 (up E)) (hl : E.getLastD 0 = ws.length) (ho : over w ws E = false) : endedE w ws (up E) = 0 := by
  have hs : scan ws.length 0 (up E) = 0 := by
    have := scan_asc [] ha
    rw [List.append_nil] at this
    rw [this, up_lastD, hl]; simp [scan]
  rw [endedE, hc, hs, toN_up, ho]; simp

/-- What the first lines cost, but for those from a number on. -/
def wantE (w : Int) (ws : List Int) (E : List Nat) (m : Nat) : Nat → Int
  | 0 => 0
  | i + 1 => wantE w ws E m i + if i < m then sqf w ws (stN E i) (E.getD i 0) else 0
theorem costS_append {w : Int} {ws : List Int} {last p : Nat × Nat} {l : List (Nat × Nat)} : costS w ws last (l ++ [p]) = costS w ws last l + if p = last then 0 else sqf w ws p.1 p.2 := by
  simp [costS]
theorem costE_eq {w : Int} {ws : List Int} {E : List Nat} {n : Int} (ha : asc n 0 (up E)) (hne : E ≠ []) : ∀ i, i ≤ E.length → costS w ws (spanN E (E.length - 1)) (spansN E i) = wantE w ws E (E.length - 1) i
  | 0, _ => rfl
  | i + 1, h => by
    have hlen : 0 < E.length := List.length_pos_iff.2 hne
    rw [spansN_succ, costS_append, costE_eq ha hne i (by omega), wantE]
    congr 1
    by_cases hi : i < E.length - 1
    · rw [if_neg, if_pos hi]
      · rfl
      · intro he
        have h1 := congrArg Prod.snd he
        simp only [spanN] at h1
        have mono : ∀ d k, k + d + 1 < E.length → E.getD k 0 < E.getD (k + d + 1) 0 := by
          intro d
          induction d with
          | zero =>
            intro k hk
            have := stN_lt ha (k := k + 1) (by simpa using hk)
            rw [toN_up] at this
            simpa [stN] using this
          | succ d ih =>
            intro k hk
            have a1 := ih k (by omega)
            have := stN_lt ha (k := k + d + 1 + 1) (by simp; omega)
            rw [toN_up] at this
            simp only [stN, Nat.add_one_sub_one] at this
            rw [if_neg (by omega)] at this
            have e : k + (d + 1) + 1 = k + d + 1 + 1 := by omega
            rw [e]
            omega
        have := mono (E.length - 1 - i - 1) i (by omega)
        rw [show i + (E.length - 1 - i - 1) + 1 = E.length - 1 by omega] at this
        omega
    · have : i = E.length - 1 := by omega
      subst this
      rw [if_pos rfl, if_neg (by omega)]
theorem psum_len (ws : List Int) : psum ws ws.length = ws.sum + ws.length := by simp [psum]
theorem ended_up {w : Int} {ws es : List Int} (h : endedE w ws es = 0) : up (toN es) = es := by
  obtain ⟨h1, h2, h3⟩ : chk w ws = 0 ∧ scan ws.length 0 es = 0 ∧ over w ws (toN es) = false := by
    unfold endedE at h
    by_cases h1 : chk w ws = 0 <;> simp only [h1, ne_eq, not_true, not_false_eq_true, if_true, if_false] at h
    · by_cases h2 : scan ws.length 0 es = 0 <;> simp only [h2, ne_eq, not_true, not_false_eq_true, if_true, if_false] at h
      · refine ⟨h1, h2, ?_⟩
        cases h3 : over w ws (toN es) <;> simp [h3] at h ⊢
  exact up_toN fun e he => (scan_range h2 e he).1
end Line

/- Full lines, and lines that get longer. -/
set_option linter.unusedVariables false
namespace Line
theorem psum_mono {ws : List Int} (h : ∀ x ∈ ws, 1 ≤ x) {i j : Nat} (hij : i ≤ j) (hj : j ≤ ws.length) : psum ws i + 2 * ((j : Int) - i) ≤ psum ws j := by
  induction j with
  | zero => have : i = 0 := by omega
            subst this; omega
  | succ j ih =>
    by_cases he : i = j + 1
    · subst he; omega
    · have := ih (by omega) (by omega)
      rw [psum_succ (by omega)]
      have hm : ws.getD j 0 ∈ ws := by rw [List.getD_eq_getElem?_getD]; simp [show j < ws.length by omega]
      have := h _ hm
      omega
theorem lf_mono {w : Int} {ws : List Int} (hc : chk w ws = 0) {i j k : Nat} (hij : i ≤ j) (hjk : j ≤ k) (hk : k ≤ ws.length) : lf w ws i k ≤ lf w ws i j := by
  have := psum_mono (ws := ws) (fun x hx => ((chk_ok hc).2.2.2.2 x hx).1) hjk hk
  rw [lf_eq (by omega) (by omega), lf_eq (by omega) (by omega)]
  omega
theorem endN_eq {w : Int} {ws : List Int} {i m : Nat} (h1 : 1 ≤ m) (h2 : 0 ≤ lf w ws i m) : ∀ d, (∀ j, m < j → j ≤ m + d → lf w ws i j < 0) → endN w ws i (m + d) = m
  | 0, _ => by
    obtain ⟨m, rfl⟩ : ∃ m', m = m' + 1 := ⟨m - 1, by omega⟩
    rw [Nat.add_zero, endN, if_neg (by omega)]
  | d + 1, h => by
    rw [← Nat.add_assoc, endN, if_pos (h _ (by omega) (by omega))]
    exact endN_eq h1 h2 d fun j hj hj2 => h j hj (by omega)
theorem endN_greedy {w : Int} {ws : List Int} (hc : chk w ws = 0) {i m : Nat} (h1 : i < m) (h2 : 0 ≤ lf w ws i m) (hm : m ≤ ws.length) (h3 : m = ws.length ∨ lf w ws i (m + 1) < 0) : endN w ws i ws.length = m := by
  have := endN_eq (w := w) (ws := ws) (i := i) (m := m) (by omega) h2 (ws.length - m) fun j hj hj2 => by
    rcases h3 with h3 | h3
    · omega
    · have := lf_mono hc (i := i) (j := m + 1) (k := j) (by omega) (by omega) (by omega)
      omega
  rwa [show m + (ws.length - m) = ws.length by omega] at this
theorem fullE_done (w : Int) (ws : List Int) (f : Nat) : fullE w ws f ws.length = [] := by cases f <;> simp [fullE]
theorem wantE_m {w : Int} {ws : List Int} {E : List Nat} {m : Nat} : ∀ {i m' : Nat}, i ≤ m → i ≤ m' → wantE w ws E m i = wantE w ws E m' i
  | 0, _, _, _ => rfl
  | i + 1, m', h1, h2 => by
    rw [wantE, wantE, wantE_m (m' := m') (by omega) (by omega), if_pos (by omega), if_pos (by omega)]
end Line

/- The best of the last lines to a place. -/
set_option linter.unusedVariables false
namespace Line
def costL (w : Int) (ws : List Int) (P : List (Int × Nat)) (j i : Nat) : Int := (P.getD i (0, 0)).1 + sqf w ws i j
/-- The least cost of a last line to a place, and the first place where it begins. -/
def bst (w : Int) (ws : List Int) (P : List (Int × Nat)) (j : Nat) (r : Int × Nat) : Prop :=
  r.2 < j ∧ 0 ≤ lf w ws r.2 j ∧ r.1 = costL w ws P j r.2 ∧ ∀ i, i < j → 0 ≤ lf w ws i j → r.1 ≤ costL w ws P j i ∧ (i < r.2 → r.1 < costL w ws P j i)
theorem bst_unique {w : Int} {ws : List Int} {P : List (Int × Nat)} {j : Nat} {r r' : Int × Nat} (h : bst w ws P j r) (h' : bst w ws P j r') : r = r' := by
  obtain ⟨a1, a2, a3, a4⟩ := h
  obtain ⟨b1, b2, b3, b4⟩ := h'
  have h1 := a4 _ b1 b2
  have h2 := b4 _ a1 a2
  rw [← b3] at h1
  rw [← a3] at h2
  have e1 : r.1 = r'.1 := by omega
  have e2 : r.2 = r'.2 := by
    rcases Nat.lt_trichotomy r.2 r'.2 with h | h | h
    · have := h2.2 h; omega
    · exact h
    · have := h1.2 h; omega
  exact Prod.ext e1 e2
theorem lf_mono2 {w : Int} {ws : List Int} (hc : chk w ws = 0) {i j k : Nat} (hij : i ≤ j) (hjk : j ≤ k) (hk : k ≤ ws.length) : lf w ws i k ≤ lf w ws j k := by
  have := psum_mono (ws := ws) (fun x hx => ((chk_ok hc).2.2.2.2 x hx).1) hij (by omega)
  rw [lf_eq (by omega) (by omega), lf_eq (by omega) (by omega)]
  omega
theorem scanB_bst {w : Int} {ws : List Int} {P : List (Int × Nat)} {j : Nat} (hc : chk w ws = 0) (hj : 1 ≤ j) (hjn : j ≤ ws.length) : ∀ (m : Nat) (acc : Int × Nat), m ≤ j →
    (m < j → m ≤ acc.2 ∧ acc.2 < j ∧ 0 ≤ lf w ws acc.2 j ∧ acc.1 = costL w ws P j acc.2 ∧ ∀ i, m ≤ i → i < j → acc.1 ≤ costL w ws P j i ∧ (i < acc.2 → acc.1 < costL w ws P j i)) → bst w ws P j (scanB w ws P j m acc)
  | 0, acc, _, h => by
    obtain ⟨_, h2, h3, h4, h5⟩ := h (by omega)
    exact ⟨h2, h3, h4, fun i hi _ => h5 i (by omega) hi⟩
  | m + 1, acc, hm, h => by
    rw [scanB]
    split
    · rename_i hneg
      have hm1 : m + 1 < j := by
        by_cases he : m + 1 = j
        · exfalso
          have := lf_one hc (show m < ws.length by omega)
          rw [he] at this
          omega
        · omega
      obtain ⟨_, h2, h3, h4, h5⟩ := h hm1
      refine ⟨h2, h3, h4, fun i hi hf => ?_⟩
      by_cases hmi : m + 1 ≤ i
      · exact h5 i hmi hi
      · have := lf_mono2 hc (i := i) (j := m) (k := j) (by omega) (by omega) hjn
        omega
    · rename_i hnn
      refine scanB_bst hc hj hjn m _ (by omega) fun _ => ?_
      by_cases hmj : m + 1 = j
      · rw [if_pos (.inl hmj)]
        refine ⟨Nat.le_refl _, by omega, Int.not_lt.1 hnn, rfl, fun i h1 h2 => ?_⟩
        have : i = m := by omega
        subst this
        exact ⟨Int.le_refl _, fun h => absurd h (Nat.lt_irrefl _)⟩
      · obtain ⟨h1, h2, h3, h4, h5⟩ := h (by omega)
        have hcm : (P.getD m (0, 0)).1 + sqf w ws m j = costL w ws P j m := rfl
        rw [hcm]
        by_cases hle : costL w ws P j m ≤ acc.1
        · rw [if_pos (.inr hle)]
          refine ⟨Nat.le_refl _, by omega, Int.not_lt.1 hnn, rfl, fun i g1 g2 => ?_⟩
          by_cases him : i = m
          · subst him
            exact ⟨Int.le_refl _, fun h => absurd h (Nat.lt_irrefl _)⟩
          · have := h5 i (by omega) g2
            exact ⟨by simp only; omega, fun h => by simp only at h; omega⟩
        · rw [if_neg (by omega)]
          refine ⟨by omega, h2, h3, h4, fun i g1 g2 => ?_⟩
          by_cases him : i = m
          · subst him
            exact ⟨by omega, fun _ => by omega⟩
          · exact h5 i (by omega) g2
theorem pls_bst {w : Int} {ws : List Int} (hc : chk w ws = 0) {k : Nat} (hk : k < ws.length) : bst w ws (pls w ws k) (k + 1) ((pls w ws (k + 1)).getD (k + 1) (0, 0)) := by
  have e : (pls w ws (k + 1)).getD (k + 1) (0, 0) = scanB w ws (pls w ws k) (k + 1) (k + 1) (0, 0) := by
    rw [pls, List.getD_eq_getElem?_getD, List.getElem?_append_right (by simp)]
    simp
  rw [e]
  exact scanB_bst hc (by omega) (by omega) (k + 1) (0, 0) (Nat.le_refl _) fun h => absurd h (Nat.lt_irrefl _)
theorem costL_pls {w : Int} {ws : List Int} {k d j i : Nat} (h : i ≤ k) : costL w ws (pls w ws (k + d)) j i = costL w ws (pls w ws k) j i := by
  unfold costL; rw [pls_get h]

/-- Last lines do not begin before those of fewer words. -/
theorem start_mono {w : Int} {ws : List Int} (hc : chk w ws = 0) {k : Nat} (hk : k + 1 < ws.length) : ((pls w ws (k + 1)).getD (k + 1) (0, 0)).2 ≤ ((pls w ws (k + 2)).getD (k + 2) (0, 0)).2 := by
  have h1 := pls_bst hc (k := k) (by omega)
  have h2 : bst w ws (pls w ws (k + 1)) (k + 2) ((pls w ws (k + 2)).getD (k + 2) (0, 0)) := pls_bst hc (k := k + 1) hk
  generalize (pls w ws (k + 1)).getD (k + 1) (0, 0) = r at *
  generalize (pls w ws (k + 2)).getD (k + 2) (0, 0) = r' at *
  obtain ⟨c, s⟩ := r
  obtain ⟨c', s'⟩ := r'
  obtain ⟨a1, a2, a3, a4⟩ := h1
  obtain ⟨b1, b2, b3, b4⟩ := h2
  simp only at *
  by_cases hlt : s' < s
  · exfalso
    have f1 : lf w ws s' (k + 2) ≤ lf w ws s' (k + 1) := lf_mono hc (by omega) (by omega) (by omega)
    have f2 : lf w ws s' (k + 2) ≤ lf w ws s (k + 2) := lf_mono2 hc (by omega) (by omega) (by omega)
    have g1 := (a4 s' (by omega) (by omega)).2 hlt
    have g2 := (b4 s (by omega) (by omega)).1
    have e1 : costL w ws (pls w ws (k + 1)) (k + 2) s' = (( pls w ws k).getD s' (0, 0)).1 + sqf w ws s' (k + 2) := by
      rw [costL_pls (k := k) (d := 1) (by omega)]; rfl
    have e2 : costL w ws (pls w ws (k + 1)) (k + 2) s = ((pls w ws k).getD s (0, 0)).1 + sqf w ws s (k + 2) := by
      rw [costL_pls (k := k) (d := 1) (by omega)]; rfl
    rw [a3] at g1
    have hb3 : c' = costL w ws (pls w ws (k + 1)) (k + 2) s' := b3
    have g2' : c' ≤ costL w ws (pls w ws (k + 1)) (k + 2) s := g2
    rw [hb3, e1, e2] at g2'
    unfold costL at g1
    -- the squares
    have hx := lf_eq (w := w) (ws := ws) (i := s') (j := k + 2) (by omega) (by omega)
    have hy := lf_eq (w := w) (ws := ws) (i := s) (j := k + 2) (by omega) (by omega)
    have hz := lf_eq (w := w) (ws := ws) (i := s') (j := k + 1) (by omega) (by omega)
    have ht := lf_eq (w := w) (ws := ws) (i := s) (j := k + 1) (by omega) (by omega)
    unfold sqf at g1 g2'
    generalize lf w ws s' (k + 2) = x at *
    have hd : lf w ws s (k + 2) = x + (psum ws s - psum ws s') := by omega
    have he : lf w ws s' (k + 1) = x + (psum ws (k + 2) - psum ws (k + 1)) := by omega
    have hde : lf w ws s (k + 1) = x + (psum ws s - psum ws s') + (psum ws (k + 2) - psum ws (k + 1)) := by omega
    have hm1 : 0 ≤ psum ws s - psum ws s' := by omega
    have hm2 : 0 ≤ psum ws (k + 2) - psum ws (k + 1) := by omega
    rw [he, hde] at g1
    rw [hd] at g2'
    generalize psum ws s - psum ws s' = d at *
    generalize psum ws (k + 2) - psum ws (k + 1) = e at *
    have hpos : 0 ≤ d * e := Int.mul_nonneg hm1 hm2
    simp only [Int.mul_add, Int.add_mul] at g1 g2'
    have c1 : e * d = d * e := Int.mul_comm _ _
    have c2 : d * x = x * d := Int.mul_comm _ _
    have c3 : e * x = x * e := Int.mul_comm _ _
    rw [c1, c2, c3] at g1
    rw [c2] at g2'
    omega
  · omega
end Line

/- All ends; and full lines among them. -/
set_option linter.unusedVariables false
namespace Line
/-- All ends from a place on whose lines fit, in ascending order. -/
def ext (w : Int) (ws : List Int) : Nat → Nat → List (List Nat)
  | 0, fr => if fr = ws.length then [[]] else []
  | f + 1, fr => if fr = ws.length then [[]] else (List.range (ws.length - fr)).flatMap fun d => if lf w ws fr (fr + 1 + d) < 0 then [] else (ext w ws f (fr + 1 + d)).map (fun G => (fr + 1 + d) :: G)
/-- The same, to the places below one. -/
def extTo (w : Int) (ws : List Int) (f fr m : Nat) : List (List Nat) := (List.range m).flatMap fun d => if lf w ws fr (fr + 1 + d) < 0 then [] else (ext w ws f (fr + 1 + d)).map (fun G => (fr + 1 + d) :: G)
theorem extTo_succ (w : Int) (ws : List Int) (f fr m : Nat) : extTo w ws f fr (m + 1) = extTo w ws f fr m ++ if lf w ws fr (fr + 1 + m) < 0 then [] else (ext w ws f (fr + 1 + m)).map (fun G => (fr + 1 + m) :: G) := by
  unfold extTo
  rw [List.range_succ, List.flatMap_append]
  simp
theorem ext_succ {w : Int} {ws : List Int} {f fr : Nat} (h : fr ≠ ws.length) : ext w ws (f + 1) fr = extTo w ws f fr (ws.length - fr) := by
  rw [ext, if_neg h]; rfl
/-- Ends whose lines fit. -/
def okEnds (w : Int) (ws : List Int) (E : List Nat) : Prop := asc ws.length 0 (up E) ∧ E.getLastD 0 = ws.length ∧ over w ws E = false
theorem ok_ended {w : Int} {ws : List Int} {E : List Nat} (hc : chk w ws = 0) (h : okEnds w ws E) : endedE w ws (up E) = 0 := ended_mk hc h.1 h.2.1 h.2.2

/-- The first part of ends, that fits as far as it goes. -/
def prt (w : Int) (ws : List Int) (E : List Nat) : Prop := asc ws.length 0 (up E) ∧ over w ws E = false
theorem part_snoc {w : Int} {ws : List Int} {E : List Nat} {j : Nat} (h : prt w ws E) (h1 : E.getLastD 0 < j) (h2 : j ≤ ws.length) (h3 : 0 ≤ lf w ws (E.getLastD 0) j) : prt w ws (E ++ [j]) := by
  refine ⟨?_, ?_⟩
  · rw [up_snoc]
    exact asc_snoc h.1 (by rw [up_lastD]; omega) (by omega) (by omega)
  · rw [over_snoc, h.2]; simpa using h3
theorem part_nil (w : Int) (ws : List Int) : prt w ws [] := ⟨trivial, rfl⟩
theorem lastD_snoc (E : List Nat) (j : Nat) : (E ++ [j]).getLastD 0 = j := by simp
theorem leftL_snoc (w : Int) (ws : List Int) (E : List Nat) (j : Nat) : leftL w ws (E ++ [j]) (E.length + 1) = leftL w ws E E.length ++ [lf w ws (E.getLastD 0) j] := by
  rw [leftL_succ, stN_append]
  congr 1
  · unfold leftL
    refine List.map_congr_left fun k hk => ?_
    have hk := List.mem_range.1 hk
    rw [getD_append_lt hk]
    unfold stN
    split
    · rfl
    · rw [getD_append_lt (by omega)]
  · rw [List.getD_eq_getElem?_getD, List.getElem?_append_right (Nat.le_refl _)]
    simp

/-- All that are listed fit. -/
theorem ext_ok {w : Int} {ws : List Int} : ∀ (f fr : Nat) (E : List Nat), prt w ws E → E.getLastD 0 = fr → fr ≤ ws.length → ∀ F ∈ ext w ws f fr, okEnds w ws (E ++ F)
  | 0, fr, E, hp, he, hn, F, hF => by
    unfold ext at hF
    split at hF
    · simp at hF; subst hF
      rw [List.append_nil]
      exact ⟨hp.1, by omega, hp.2⟩
    · simp at hF
  | f + 1, fr, E, hp, he, hn, F, hF => by
    unfold ext at hF
    split at hF
    · simp at hF; subst hF
      rw [List.append_nil]
      exact ⟨hp.1, by omega, hp.2⟩
    · rw [List.mem_flatMap] at hF
      obtain ⟨d, hd, hF⟩ := hF
      have hd := List.mem_range.1 hd
      split at hF
      · simp at hF
      · rename_i hnn
        rw [List.mem_map] at hF
        obtain ⟨G, hG, rfl⟩ := hF
        have := ext_ok f (fr + 1 + d) (E ++ [fr + 1 + d]) (part_snoc hp (by omega) (by omega) (by rw [he]; omega)) (lastD_snoc _ _) (by omega) G hG
        rwa [List.append_assoc, List.singleton_append] at this

/-- Each line of full lines ends no sooner than that of any others. -/
theorem ok_lines {w : Int} {ws : List Int} {E : List Nat} (h : okEnds w ws E) {k : Nat} (hk : k < E.length) : stN E k < E.getD k 0 ∧ E.getD k 0 ≤ ws.length ∧ 0 ≤ lf w ws (stN E k) (E.getD k 0) := by
  obtain ⟨h1, h2, h3⟩ := h
  have a := stN_lt h1 (k := k) (by simpa using hk)
  rw [toN_up] at a
  refine ⟨a, ?_, ?_⟩
  · have := asc_le h1 ((E.getD k 0 : Nat) : Int) (by rw [← up_getD, List.getD_eq_getElem?_getD]; simp [hk])
    omega
  · unfold over at h3
    rw [List.any_eq_false] at h3
    have := h3 (spanN E k) (List.mem_of_getElem? (spansN_get hk))
    simp [spanN] at this
    exact this
theorem endN_max {w : Int} {ws : List Int} {i : Nat} : ∀ (m j : Nat), j ≤ m → 0 ≤ lf w ws i j → j ≤ endN w ws i m
  | 0, j, h, _ => by omega
  | m + 1, j, h, hn => by
    unfold endN
    split
    · rename_i hneg
      by_cases he : j = m + 1
      · subst he; omega
      · exact endN_max m j (by omega) hn
    · omega
theorem full_get {w : Int} {ws : List Int} : ∀ (f fr v : Nat), v < (fullE w ws f fr).length → (fullE w ws f fr).getD v 0 = endN w ws (if v = 0 then fr else (fullE w ws f fr).getD (v - 1) 0) ws.length
  | 0, fr, v, h => by simp [fullE] at h
  | f + 1, fr, v, h => by
    unfold fullE at h ⊢
    split at h
    · rename_i hlt
      rw [if_pos hlt]
      cases v with
      | zero => rfl
      | succ v =>
        have := full_get f (endN w ws fr ws.length) v (by simpa using h)
        rw [List.getD_cons_succ, this, if_neg (show ¬ (v + 1 = 0) by omega), Nat.add_sub_cancel]
        cases v with
        | zero => rfl
        | succ v => simp
    · simp at h
/-- Full ends reach the last word. -/
theorem full_last {w : Int} {ws : List Int} (hc : chk w ws = 0) : ∀ (f fr : Nat), fr < ws.length → ws.length - fr ≤ f → fullE w ws f fr ≠ [] ∧ (fullE w ws f fr).getD ((fullE w ws f fr).length - 1) 0 = ws.length
  | 0, fr, h, hf => by omega
  | f + 1, fr, h, hf => by
    have he := endN_range hc h ws.length h
    unfold fullE
    rw [if_pos h]
    refine ⟨by simp, ?_⟩
    by_cases hd : endN w ws fr ws.length < ws.length
    · obtain ⟨i1, i2⟩ := full_last hc f _ hd (by omega)
      have hl : 0 < (fullE w ws f (endN w ws fr ws.length)).length := List.length_pos_iff.2 i1
      rw [List.length_cons, Nat.add_sub_cancel]
      obtain ⟨m, hm⟩ : ∃ m, (fullE w ws f (endN w ws fr ws.length)).length = m + 1 := ⟨_, (Nat.succ_pred_eq_of_pos hl).symm⟩
      rw [hm, List.getD_cons_succ]
      rw [hm, Nat.add_sub_cancel] at i2
      exact i2
    · have : endN w ws fr ws.length = ws.length := by omega
      rw [this, fullE_done]; rfl
theorem endN_mono {w : Int} {ws : List Int} (hc : chk w ws = 0) {i i' : Nat} (h : i ≤ i') (hi : i' < ws.length) {j : Nat} (hij : i' ≤ j) (hj : j ≤ ws.length) (hf : 0 ≤ lf w ws i j) : j ≤ endN w ws i' ws.length :=
  endN_max _ _ hj (by have := lf_mono2 hc h hij hj; omega)
/-- Full lines are ahead of all others, line by line. -/
theorem full_ahead {w : Int} {ws : List Int} (hc : chk w ws = 0) {E : List Nat} (hE : okEnds w ws E) : ∀ v, v < E.length → v < (fullE w ws ws.length 0).length → E.getD v 0 ≤ (fullE w ws ws.length 0).getD v 0
  | 0, h1, h2 => by
    obtain ⟨a1, a2, a3⟩ := ok_lines hE h1
    rw [full_get _ _ _ h2]
    simp only [if_true]
    exact endN_max _ _ a2 (by simpa [stN] using a3)
  | v + 1, h1, h2 => by
    have ih := full_ahead hc hE v (by omega) (by omega)
    obtain ⟨a1, a2, a3⟩ := ok_lines hE h1
    rw [full_get _ _ _ h2, if_neg (by omega), Nat.add_sub_cancel]
    have e : stN E (v + 1) = E.getD v 0 := by simp [stN]
    rw [e] at a1 a3
    have hlt : (fullE w ws ws.length 0).getD v 0 < ws.length ∨ (fullE w ws ws.length 0).getD v 0 = ws.length ∨ ws.length < (fullE w ws ws.length 0).getD v 0 := by omega
    rcases hlt with h | h | h
    · by_cases hle : (fullE w ws ws.length 0).getD v 0 ≤ E.getD (v + 1) 0
      · exact endN_mono hc ih h hle a2 a3
      · have := endN_range hc h ws.length h
        omega
    · have hb := full_get (w := w) (ws := ws) ws.length 0 (v + 1) h2
      rw [if_neg (by omega), Nat.add_sub_cancel, h] at hb
      rw [h]
      -- there is no further line
      exfalso
      have hmem : ∀ (f fr v : Nat), v + 1 < (fullE w ws f fr).length → (fullE w ws f fr).getD v 0 < ws.length := by
        intro f
        induction f with
        | zero => intro fr v h; simp [fullE] at h
        | succ f ih2 =>
          intro fr v h
          unfold fullE at h ⊢
          split at h
          · rename_i hl
            rw [if_pos hl]
            cases v with
            | zero =>
              rw [List.getD_cons_zero]
              by_cases hd : endN w ws fr ws.length < ws.length
              · exact hd
              · have := endN_range hc hl ws.length hl
                have he : endN w ws fr ws.length = ws.length := by omega
                rw [he, fullE_done] at h
                simp at h
            | succ v =>
              rw [List.getD_cons_succ]
              exact ih2 _ v (by simpa using h)
          · simp at h
      have := hmem _ _ _ h2
      omega
    · exfalso
      have hv : v < (fullE w ws ws.length 0).length := by omega
      have hb := full_get (w := w) (ws := ws) ws.length 0 v hv
      have : ∀ m i, endN w ws i m ≤ m := by
        intro m
        induction m with
        | zero => intro i; simp [endN]
        | succ m ih3 =>
          intro i
          unfold endN
          split
          · have := ih3 i; omega
          · omega
      have := this ws.length (if v = 0 then 0 else (fullE w ws ws.length 0).getD (v - 1) 0)
      omega
/-- No ends have fewer lines. -/
theorem full_fewest {w : Int} {ws : List Int} (hc : chk w ws = 0) {E : List Nat} (hE : okEnds w ws E) : (fullE w ws ws.length 0).length ≤ E.length := by
  have hn := chk_ok hc
  have hne : E ≠ [] := by
    rintro rfl
    have := hE.2.1
    simp at this
    omega
  have hl : 0 < E.length := List.length_pos_iff.2 hne
  by_cases h : (fullE w ws ws.length 0).length ≤ E.length
  · exact h
  · exfalso
    have h1 := full_ahead hc hE (E.length - 1) (by omega) (by omega)
    rw [getD_last E hne, hE.2.1] at h1
    -- a full line that ends with the last word is the last
    have hmem : ∀ (f fr v : Nat), v + 1 < (fullE w ws f fr).length → (fullE w ws f fr).getD v 0 < ws.length := by
      intro f
      induction f with
      | zero => intro fr v h; simp [fullE] at h
      | succ f ih2 =>
        intro fr v h
        unfold fullE at h ⊢
        split at h
        · rename_i hl
          rw [if_pos hl]
          cases v with
          | zero =>
            rw [List.getD_cons_zero]
            by_cases hd : endN w ws fr ws.length < ws.length
            · exact hd
            · have := endN_range hc hl ws.length hl
              have he : endN w ws fr ws.length = ws.length := by omega
              rw [he, fullE_done] at h
              simp at h
          | succ v =>
            rw [List.getD_cons_succ]
            exact ih2 _ v (by simpa using h)
        · simp at h
    have := hmem ws.length 0 (E.length - 1) (by omega)
    omega
end Line

/- The first best ends fit. -/
set_option linter.unusedVariables false
namespace Line
theorem stepR_fit {w : Int} {ws : List Int} {n : Nat} {R : Nat → Best} {i j : Nat} (hj : j ≤ n) {acc : Best} (ha : acc.2.2 = 0 ∨ 0 ≤ lf w ws i acc.2.1) : (stepR w ws n R i j acc).2.2 = 0 ∨ 0 ≤ lf w ws i (stepR w ws n R i j acc).2.1 := by
  unfold stepR
  split
  · exact ha
  · rename_i hnn
    by_cases hjn : j < n
    · simp only [hjn, if_true]
      split
      · exact .inr (Int.not_lt.1 hnn)
      · split
        · exact .inr (Int.not_lt.1 hnn)
        · exact ha
    · have : j = n := by omega
      subst this
      simp only [hjn, if_false]
      split
      · exact .inr (Int.not_lt.1 hnn)
      · split
        · exact .inr (Int.not_lt.1 hnn)
        · exact ha
theorem scanR_fit {w : Int} {ws : List Int} {n : Nat} {R : Nat → Best} {i : Nat} : ∀ (m : Nat) (acc : Best), i + m ≤ n → (acc.2.2 = 0 ∨ 0 ≤ lf w ws i acc.2.1) → (scanR w ws n R i m acc).2.2 = 0 ∨ 0 ≤ lf w ws i (scanR w ws n R i m acc).2.1
  | 0, acc, _, h => h
  | m + 1, acc, hm, h => scanR_fit m _ (by omega) (stepR_fit (by omega) h)
theorem rst_fit {w : Int} {ws : List Int} : ∀ (k : Nat), k ≤ ws.length → ∀ i, ws.length - k ≤ i → i < ws.length → ((rst w ws ws.length k).getD (i - (ws.length - k)) (0, 0, 0)).2.2 = 0 ∨ 0 ≤ lf w ws i ((rst w ws ws.length k).getD (i - (ws.length - k)) (0, 0, 0)).2.1
  | 0, _ => by intro i h1 h2; omega
  | k + 1, hk => by
    intro i h1 h2
    by_cases hi : i = ws.length - (k + 1)
    · have := scanR_fit (w := w) (ws := ws) (n := ws.length) (R := fun j => (rst w ws ws.length k).getD (j - (ws.length - k)) (0, 0, 0)) (i := i) (k + 1) (0, 0, 0) (by omega) (.inl rfl)
      rw [hi] at this ⊢
      simpa only [rst, Nat.sub_self, List.getD_cons_zero] using this
    · have := rst_fit (w := w) k (by omega) i (by omega) h2
      rw [show i - (ws.length - (k + 1)) = (i - (ws.length - k)) + 1 by omega]
      simpa only [rst, List.getD_cons_succ] using this
theorem firstE_ok {w : Int} {ws : List Int} (hc : chk w ws = 0) : ∀ (f fr : Nat) (E : List Nat), prt w ws E → E.getLastD 0 = fr → fr ≤ ws.length → ws.length - fr ≤ f → okEnds w ws (E ++ firstE (rst w ws ws.length ws.length) ws.length f fr)
  | 0, fr, E, hp, he, hn, hf => by
    rw [firstE, List.append_nil]
    exact ⟨hp.1, by omega, hp.2⟩
  | f + 1, fr, E, hp, he, hn, hf => by
    unfold firstE
    split
    · rename_i hlt
      have h1 := rst_end hc ws.length (Nat.le_refl _) fr (by omega) hlt
      have h2 := rst_fit (w := w) (ws := ws) ws.length (Nat.le_refl _) fr (by omega) hlt
      rw [Nat.sub_self, Nat.sub_zero] at h1 h2
      generalize ((rst w ws ws.length ws.length).getD fr (0, 0, 0)) = b at *
      have h3 : 0 ≤ lf w ws fr b.2.1 := by
        rcases h2 with h2 | h2
        · omega
        · exact h2
      have := firstE_ok hc f b.2.1 (E ++ [b.2.1]) (part_snoc hp (by omega) h1.2.1 (by rw [he]; exact h3)) (lastD_snoc _ _) h1.2.1 (by omega)
      rwa [List.append_assoc, List.singleton_append] at this
    · rw [List.append_nil]
      exact ⟨hp.1, by omega, hp.2⟩
end Line

/- All ends of the first words. -/
set_option linter.unusedVariables false
namespace Line
theorem lastD_one (E : List Nat) (j : Nat) : (E ++ [j]).getLastD 0 = j := by simp
/-- All ends for the first 'n' words from a place on whose lines fit, in ascending order. -/
def extM (w : Int) (ws : List Int) (n : Nat) : Nat → Nat → List (List Nat)
  | 0, fr => if fr = n then [[]] else []
  | f + 1, fr => if fr = n then [[]] else (List.range (n - fr)).flatMap fun d => if lf w ws fr (fr + 1 + d) < 0 then [] else (extM w ws n f (fr + 1 + d)).map (fun G => (fr + 1 + d) :: G)
def extMTo (w : Int) (ws : List Int) (n f fr m : Nat) : List (List Nat) := (List.range m).flatMap fun d => if lf w ws fr (fr + 1 + d) < 0 then [] else (extM w ws n f (fr + 1 + d)).map (fun G => (fr + 1 + d) :: G)
theorem extMTo_succ (w : Int) (ws : List Int) (n f fr m : Nat) : extMTo w ws n f fr (m + 1) = extMTo w ws n f fr m ++ if lf w ws fr (fr + 1 + m) < 0 then [] else (extM w ws n f (fr + 1 + m)).map (fun G => (fr + 1 + m) :: G) := by
  unfold extMTo
  rw [List.range_succ, List.flatMap_append]
  simp
theorem extM_succ {w : Int} {ws : List Int} {n f fr : Nat} (h : fr ≠ n) : extM w ws n (f + 1) fr = extMTo w ws n f fr (n - fr) := by
  rw [extM, if_neg h]; rfl
theorem extM_done {w : Int} {ws : List Int} {n f : Nat} : extM w ws n f n = [[]] := by cases f <;> simp [extM]
theorem extMTo_len {w : Int} {ws : List Int} {n f fr B : Nat} (hB : ∀ j, (extM w ws n f j).length ≤ B) : ∀ m, (extMTo w ws n f fr m).length ≤ m * B
  | 0 => by simp [extMTo]
  | m + 1 => by
    have ih := extMTo_len (fr := fr) hB m
    rw [extMTo_succ, List.length_append, Nat.add_mul, Nat.one_mul]
    split
    · simp; omega
    · have := hB (fr + 1 + m)
      simp; omega
theorem extM_len {w : Int} {ws : List Int} {n : Nat} (hn : n ≤ 10) : ∀ (f fr : Nat), (extM w ws n f fr).length ≤ 10 ^ f
  | 0, fr => by unfold extM; split <;> simp
  | f + 1, fr => by
    have hp : 1 ≤ 10 ^ (f + 1) := Nat.one_le_pow _ _ (by decide)
    by_cases h : fr = n
    · subst h; rw [extM_done]; simpa using hp
    · rw [extM_succ h]
      have := extMTo_len (w := w) (ws := ws) (n := n) (f := f) (fr := fr) (fun j => extM_len hn f j) (n - fr)
      have h2 : (n - fr) * 10 ^ f ≤ 10 * 10 ^ f := Nat.mul_le_mul_right _ (by omega)
      rw [Nat.pow_succ, Nat.mul_comm (10 ^ f) 10]
      omega
end Line

namespace Go.Proofs.Ytlajhbpkogekfaa
open Go.Av Line
set_option linter.unusedVariables false
set_option linter.unusedSimpArgs false
set_option maxRecDepth 4000

theorem slc_reads {H : Heap} {v : AV} {l : List Int} {i j : Nat} (h : Reads H v l) (hij : i < j) (hj : j ≤ l.length) :
    ∃ v', slc 1 v (some (.int .i64 (i : Int))) (some (.int .i64 (j : Int))) none = some v' ∧ Reads H v' ((l.drop i).take (j - i)) := by
  have n1 : ∀ d, natOf (some (.int .i64 (i : Int))) d = some i := fun d => by simp [natOf]
  have n2 : ∀ d, natOf (some (.int .i64 (j : Int))) d = some j := fun d => by simp [natOf]
  cases v <;> simp only [Reads] at h <;> try exact h.elim
  · subst h; simp at hj; omega
  · obtain ⟨rfl, rfl⟩ := h
    simp only [slc, n1, n2, Option.bind_some]
    rw [if_pos ⟨by omega, hj⟩]
    refine ⟨_, rfl, by simp; omega, ?_⟩
    rw [Nat.mul_one, Nat.mul_one, ints_drop, ints_take]
  · rename_i s b off n cp
    obtain ⟨rfl, rfl, cells, hb, hc, ht⟩ := h
    simp only [slc, n1, n2, Option.bind_some]
    rw [if_pos ⟨by trivial, by omega, hj, by omega⟩]
    refine ⟨_, rfl, rfl, by simp; omega, cells, hb, by omega, ?_⟩
    rw [Nat.mul_one, ← ints_take, ← ints_drop, ← ht, List.drop_take, List.take_take, List.drop_drop, Nat.min_eq_left (by omega)]

/-- left, of the law -/
theorem c43 {w : Int} {v : AV} {ws : List Int} {i j : Nat} {H : Heap} {K : AV → Heap → Prop} (hv : Reads H v ws) (hc : chk w ws = 0) (hij : i < j) (hj : j ≤ ws.length) (hk : K (.int .i64 (lf w ws i j)) H) :
    ACalls Try.prog 43 [.agg [.int .i64 w, v], .int .i64 i, .int .i64 j] H K := by
  apply W43_ok
  unfold W43
  obtain ⟨w1, w2, n1, n2, hws⟩ := chk_ok hc
  obtain ⟨v', hs, hr⟩ := slc_reads hv hij hj
  have hll : ((ws.drop i).take (j - i)).length = j - i := by simp; omega
  simp only [letO_some, cellsOf?_agg, cellsOf?_int, cellsOf?_bool, cellsOf?_imm, cellsOf?_ref, cellsOf?_nils, faddr_iptr, faddr_ptr, List.drop_succ_cons, List.drop_zero, List.take_succ_cons, List.take_zero, load1_iptr, loadN_iptr, List.length_cons, List.length_nil, Nat.le_refl, if_true, List.getElem?_cons_zero, List.getElem?_cons_succ, List.getD_cons_zero, List.getD_cons_succ, extrF_tup, binF_add, binF_sub, binF_mul, binF_eql, binF_neq, binF_lss, binF_leq, binF_gtr, binF_geq, true_and, hs, hr.len]
  refine ⟨fun L H' => ∃ (k : Nat), L = [.int .i64 (psum ws (i + k) - psum ws i - 1), .int .i64 k] ∧ i + k ≤ j ∧ H' = H, fun L _ => (j - i - iv L 1).toNat, ⟨0, by simp, by omega, rfl⟩, ?_⟩
  intro L H' hI
  obtain ⟨k, rfl, hk1, rfl⟩ := hI
  simp only [letO_some, cellsOf?_agg, cellsOf?_int, cellsOf?_bool, cellsOf?_imm, cellsOf?_ref, cellsOf?_nils, faddr_iptr, faddr_ptr, List.drop_succ_cons, List.drop_zero, List.take_succ_cons, List.take_zero, load1_iptr, loadN_iptr, List.length_cons, List.length_nil, Nat.le_refl, if_true, List.getElem?_cons_zero, List.getElem?_cons_succ, List.getD_cons_zero, List.getD_cons_succ, extrF_tup, binF_add, binF_sub, binF_mul, binF_eql, binF_neq, binF_lss, binF_leq, binF_gtr, binF_geq, true_and, hll]
  have hb1 := psum_le (ws := ws) (k := i) fun x hx => by have := hws x (List.mem_of_mem_take hx); omega
  have hb2 := psum_le (ws := ws) (k := i + k) fun x hx => by have := hws x (List.mem_of_mem_take hx); omega
  refine condA_t (fun hlt => ?_) (fun hge => ?_)
  · refine hr.get (Heap.le_refl _) (by omega) (by rw [hll]; exact hlt) ?_
    have hk2 : k < j - i := by omega
    have hg : ((ws.drop i).take (j - i)).getD (k : Int).toNat 0 = ws.getD (i + k) 0 := by
      rw [Int.toNat_natCast, List.getD_eq_getElem?_getD, List.getElem?_take_of_lt hk2, List.getElem?_drop, ← List.getD_eq_getElem?_getD]
    rw [hg]
    have hm : ws.getD (i + k) 0 ∈ ws := by rw [List.getD_eq_getElem?_getD]; simp [show i + k < ws.length by omega]
    have hx := hws _ hm
    have hp := psum_succ (show i + k < ws.length by omega)
    simp only [letO_some, cellsOf?_agg, cellsOf?_int, cellsOf?_bool, cellsOf?_imm, cellsOf?_ref, cellsOf?_nils, faddr_iptr, faddr_ptr, List.drop_succ_cons, List.drop_zero, List.take_succ_cons, List.take_zero, load1_iptr, loadN_iptr, List.length_cons, List.length_nil, Nat.le_refl, if_true, List.getElem?_cons_zero, List.getElem?_cons_succ, List.getD_cons_zero, List.getD_cons_succ, extrF_tup, binF_add, binF_sub, binF_mul, binF_eql, binF_neq, binF_lss, binF_leq, binF_gtr, binF_geq, true_and]
    rw [wrap_i64 (n := ws.getD (i + k) 0 + 1) (by omega) (by omega), wrap_i64 (n := psum ws (i + k) - psum ws i - 1 + (ws.getD (i + k) 0 + 1)) (by omega) (by omega), wrap_i64 (n := (k : Int) + 1) (by omega) (by omega)]
    try simp only [true_and, and_true]
    refine ⟨⟨k + 1, ?_, by omega⟩, by simp <;> omega⟩
    have e : psum ws (i + (k + 1)) - psum ws i - 1 = psum ws (i + k) - psum ws i - 1 + (ws.getD (i + k) 0 + 1) := by
      rw [show i + (k + 1) = i + k + 1 by omega, hp]; omega
    rw [e]
    rfl
  · have : i + k = j := by omega
    rw [this] at hb2 ⊢
    rw [wrap_i64 (by omega) (by omega)]
    rw [lf_eq (by omega) hj] at hk
    refine endK_ret ?_
    have e : w - (psum ws j - psum ws i - 1) = w + 1 - (psum ws j - psum ws i) := by omega
    rw [e]; exact hk

theorem conv53 {n : Int} (h : 0 ≤ n ∧ n < 256) : convF Try.prog 5 3 (.int .u8 n) = some (.int .i64 n) := by
  have h1 : Try.prog.underlying 5 = some (.int .u8) := by kernel_rfl
  have h2 : Try.prog.underlying 3 = some (.int .i64) := by kernel_rfl
  simp only [convF, h1, h2]
  rw [wrap_i64 (by omega) (by omega)]
theorem rem_nat {k : IntKind} {t : TypeId} {a b : Nat} (hb : b ≠ 0) : binF Try.prog .rem t (.int k (a : Int)) (.int k (b : Int)) = some (.int k ((a % b : Nat) : Int)) := by
  simp only [binF]
  rw [if_pos ⟨by trivial, by omega⟩, Int.ofNat_tmod]
theorem quo_nat {t : TypeId} {a b : Nat} (hb : b ≠ 0) (ha : a < 1000000000) : binF Try.prog .quo t (.int .i64 (a : Int)) (.int .i64 (b : Int)) = some (.int .i64 ((a / b : Nat) : Int)) := by
  simp only [binF]
  rw [if_pos ⟨by trivial, by omega⟩, ← Int.ofNat_tdiv]
  have := Nat.div_le_self a b
  generalize a / b = q at *
  rw [wrap_i64 (by omega) (by omega)]
theorem b24n {x : AV} (hx : cellsOf? x = some [x]) : buildF Try.prog 24 [(0, x)] = some (.agg [x, .nils]) := by
  rw [buildF_of (show buildPlan Try.prog 24 = some ([.int .i64 0, .nils], [(0, 1), (1, 1)]) by kernel_rfl)]
  simp [fillA, hx, splice]
def u8s (l : List Nat) : List AV := l.map fun (x : Nat) => .int .u8 (x : Int)
@[simp] theorem u8s_length (l : List Nat) : (u8s l).length = l.length := by simp [u8s]

/-- made -/
theorem c34 {W M S most : Nat} {l : List Nat} {H : Heap} {K : AV → Heap → Prop} (hW : W < 256) (hM : M < 256) (hS : S < 256) (hl : l.length = 10) (hlx : ∀ x ∈ l, x < 256) (hm : 1 ≤ most ∧ most ≤ 10)
    (hk : K (.agg [.int .i64 (gw W : Nat), sl (madeL W M S l most)]) H) : ACalls Try.prog 34 [.agg (u8s (W :: M :: S :: l)), .int .i64 most] H K := by
  apply W34_ok
  unfold W34
  have hgw := gw_range W
  have hgm := gmin_range W S
  have hr40 : binF Try.prog .rem 3 (.int .i64 (W : Int)) (.int .i64 40) = some (.int .i64 ((W % 40 : Nat) : Int)) := rem_nat (b := 40) (by decide)
  simp only [letO_some, cellsOf?_agg, cellsOf?_int, cellsOf?_bool, cellsOf?_imm, cellsOf?_ref, cellsOf?_nils, faddr_iptr, faddr_ptr, List.drop_succ_cons, List.drop_zero, List.take_succ_cons, List.take_zero, load1_iptr, loadN_iptr, List.length_cons, List.length_nil, Nat.le_refl, if_true, List.getElem?_cons_zero, List.getElem?_cons_succ, List.getD_cons_zero, List.getD_cons_succ, extrF_tup, binF_add, binF_sub, binF_mul, binF_eql, binF_neq, binF_lss, binF_leq, binF_gtr, binF_geq, true_and, u8s, List.map_cons, conv53 (show (0 : Int) ≤ W ∧ (W : Int) < 256 by omega), hr40]
  intro b4 hb4
  have e1 : (1 : Int) + ((W % 40 : Nat) : Int) = ((gw W : Nat) : Int) := by unfold gw; omega
  rw [e1, wrap_i64 (by omega) (by omega)]
  simp only [b24n cellsOf?_int, letO_some]
  refine alloc_store (cs := [.int .i64 (gw W : Nat), .nils]) rfl rfl rfl rfl fun b5 hb5 => ?_
  have hne : b4 ≠ b5 := Heap.ne_of Heap.put_same hb5
  have hb5' : H b5 = none := by rwa [Heap.put_ne (Ne.symm hne)] at hb5
  generalize hH4 : (H.put b4 [.int .i64 0, .nils]).put b5 [.int .i64 (gw W : Nat), .nils] = H4
  have l50 : load1 (.ptr b5 0) H4 = some (.int .i64 (gw W : Nat)) := load1_at (by subst hH4; exact Heap.put_same) rfl
  have hr3 : binF Try.prog .rem 5 (.int .u8 (S : Int)) (.int .u8 3) = some (.int .u8 ((S % 3 : Nat) : Int)) := rem_nat (b := 3) (by decide)
  have hq2 : binF Try.prog .quo 3 (.int .i64 (gw W : Nat)) (.int .i64 2) = some (.int .i64 ((gw W / 2 : Nat) : Int)) := quo_nat (b := 2) (by decide) (by omega)
  simp only [letO_some, cellsOf?_agg, cellsOf?_int, cellsOf?_bool, cellsOf?_imm, cellsOf?_ref, cellsOf?_nils, faddr_iptr, faddr_ptr, List.drop_succ_cons, List.drop_zero, List.take_succ_cons, List.take_zero, load1_iptr, loadN_iptr, List.length_cons, List.length_nil, Nat.le_refl, if_true, List.getElem?_cons_zero, List.getElem?_cons_succ, List.getD_cons_zero, List.getD_cons_succ, extrF_tup, binF_add, binF_sub, binF_mul, binF_eql, binF_neq, binF_lss, binF_leq, binF_gtr, binF_geq, true_and, Nat.zero_add, l50, hr3, hq2]
  refine ⟨fun L h => L = [.int .i64 (glong W S : Nat)] ∧ h = H4, ?_, ?_⟩
  · refine condA_t (fun hgt => ?_) (fun hle => ?_)
    · have : glong W S = 1 + gw W / 2 := by unfold glong; rw [if_pos (by omega)]
      rw [this, wrap_i64 (by omega) (by omega)]
      exact ⟨by simp, rfl⟩
    · have : glong W S = gw W := by unfold glong; rw [if_neg (by omega)]
      rw [this]
      exact ⟨rfl, rfl⟩
  rintro L h ⟨rfl, rfl⟩
  have hrm : binF Try.prog .rem 3 (.int .i64 (M : Int)) (.int .i64 (most : Int)) = some (.int .i64 ((M % most : Nat) : Int)) := rem_nat (by omega)
  have hmm := Nat.mod_lt M (show most > 0 by omega)
  simp only [letO_some, cellsOf?_agg, cellsOf?_int, cellsOf?_bool, cellsOf?_imm, cellsOf?_ref, cellsOf?_nils, faddr_iptr, faddr_ptr, List.drop_succ_cons, List.drop_zero, List.take_succ_cons, List.take_zero, load1_iptr, loadN_iptr, List.length_cons, List.length_nil, Nat.le_refl, if_true, List.getElem?_cons_zero, List.getElem?_cons_succ, List.getD_cons_zero, List.getD_cons_succ, extrF_tup, binF_add, binF_sub, binF_mul, binF_eql, binF_neq, binF_lss, binF_leq, binF_gtr, binF_geq, true_and, conv53 (show (0 : Int) ≤ M ∧ (M : Int) < 256 by omega), hrm]
  have e2 : (1 : Int) + ((M % most : Nat) : Int) = ((1 + M % most : Nat) : Int) := by omega
  rw [e2, wrap_i64 (by omega) (by omega)]
  generalize hn : 1 + M % most = n at *
  have hsl : slcArr 10 1 (.iptr (l.map fun (x : Nat) => AV.int .u8 (x : Int))) none (some (.int .i64 (n : Int))) none = some (.imm n (n == 10) (u8s (l.take n))) := by
    have e : natOf (some (.int .i64 (n : Int))) 10 = some n := by simp [natOf]
    have e3 : natOf none 0 = some 0 := rfl
    simp only [slcArr, e, e3, Option.bind_some]
    rw [if_pos ⟨by omega, by omega⟩]
    simp [u8s, List.map_take]
  simp only [hsl, letO_some, lenA]
  have hws : ∀ x ∈ madeL W M S l most, 1 ≤ x ∧ x ≤ 40 := fun x hx => by
    have := (chk_ok (chk_made (W := W) (M := M) (S := S) hl hm)).2.2.2.2 x hx
    omega
  let T : AV → List AV := fun X => [.int .i64 (gw W : Nat), X]
  refine ⟨fun L H' => ∃ (i : Nat) (X : AV), L = [.int .i64 i] ∧ i ≤ n ∧ Grow 1 ((H.put b4 [.int .i64 0, .nils]).put b5 (T X)) H' X i (ints (gwords W S (l.take i))), fun L _ => (n - iv L 0).toNat,
    ⟨0, .nils, rfl, by omega, by subst hH4; exact Grow.nils 1 _⟩, ?_⟩
  intro L H' hI
  obtain ⟨i, X, rfl, hi, hg⟩ := hI
  simp only [letO_some, cellsOf?_agg, cellsOf?_int, cellsOf?_bool, cellsOf?_imm, cellsOf?_ref, cellsOf?_nils, faddr_iptr, faddr_ptr, List.drop_succ_cons, List.drop_zero, List.take_succ_cons, List.take_zero, load1_iptr, loadN_iptr, List.length_cons, List.length_nil, Nat.le_refl, if_true, List.getElem?_cons_zero, List.getElem?_cons_succ, List.getD_cons_zero, List.getD_cons_succ, extrF_tup, binF_add, binF_sub, binF_mul, binF_eql, binF_neq, binF_lss, binF_leq, binF_gtr, binF_geq, true_and]
  have hHb : H' b5 = some (T X) := hg.le _ _ Heap.put_same
  refine condA_t (fun hlt => ?_) (fun hge => ?_)
  · have hin : i < n := by omega
    have hil : i < l.length := by omega
    have hx : ((u8s (l.take n)).drop (i * 1))[0]? = some (.int .u8 (l[i] : Nat)) := by
      rw [List.getElem?_drop, Nat.mul_one, Nat.add_zero]
      simp [u8s, hil, hin]
    have hxl : l[i] < 256 := hlx _ (by simp)
    have l1 : load1 (.ptr b5 (0 + 1)) H' = some X := load1_at hHb rfl
    have l0 : load1 (.ptr b5 0) H' = some (.int .i64 (gw W : Nat)) := load1_at hHb rfl
    have hmin : min2F (.int .i64 (glong W S : Nat)) (.int .i64 (gw W : Nat)) = some (.int .i64 (gmin W S : Nat)) := by
      simp only [min2F]
      unfold gmin
      split <;> split <;> first | rfl | omega
    have hrx : binF Try.prog .rem 3 (.int .i64 ((l[i] : Nat) : Int)) (.int .i64 (gmin W S : Nat)) = some (.int .i64 ((l[i] % gmin W S : Nat) : Int)) := rem_nat (by omega)
    simp only [idx_imm hin, letO_some, cellsOf?_agg, cellsOf?_int, cellsOf?_bool, cellsOf?_imm, cellsOf?_ref, cellsOf?_nils, faddr_iptr, faddr_ptr, List.drop_succ_cons, List.drop_zero, List.take_succ_cons, List.take_zero, load1_iptr, loadN_iptr, List.length_cons, List.length_nil, Nat.le_refl, if_true, List.getElem?_cons_zero, List.getElem?_cons_succ, List.getD_cons_zero, List.getD_cons_succ, extrF_tup, binF_add, binF_sub, binF_mul, binF_eql, binF_neq, binF_lss, binF_leq, binF_gtr, binF_geq, true_and, hx, conv53 (show (0 : Int) ≤ (l[i] : Nat) ∧ ((l[i] : Nat) : Int) < 256 by omega), l1, l0, hmin, hrx]
    have hmx := Nat.mod_lt l[i] (show gmin W S > 0 by omega)
    have e3 : (1 : Int) + ((l[i] % gmin W S : Nat) : Int) = ((1 + l[i] % gmin W S : Nat) : Int) := by omega
    rw [e3, wrap_i64 (by omega) (by omega)]
    simp only [l22 cellsOf?_int, letO_some]
    refine appendA_one hg (by omega) fun v' H'' hg' => ?_
    refine storeA_of (cs := [v']) (hg'.le _ _ Heap.put_same) hg'.cells (by simp [hg'.scalar]) rfl (by simp [T]) ?_
    rw [wrap_i64 (by omega) (by omega)]
    refine ⟨⟨i + 1, v', by simp, by omega, ?_⟩, by simp <;> omega⟩
    have e4 : gwords W S (l.take (i + 1)) = gwords W S (l.take i) ++ [((1 + l[i] % gmin W S : Nat) : Int)] := by
      unfold gwords
      rw [List.take_add_one, List.getElem?_eq_getElem hil, List.map_append]
      rfl
    rw [e4]
    have := hg'.put (y := T v') Heap.put_same
    rw [Heap.put_put] at this
    simpa [splice, T] using this
  · have hin : i = n := by omega
    subst hin
    have hL : loadN 2 (.ptr b5 0) H' = some (.agg [.int .i64 (gw W : Nat), X]) := loadN_at hHb
    have hb4H : H' b4 = some [.int .i64 0, .nils] := hg.le _ _ (by rw [Heap.put_ne hne]; exact Heap.put_same)
    simp only [hL, letO_some]
    refine storeA_of (cs := [.int .i64 (gw W : Nat), X]) hb4H rfl (by simp only [List.all_cons, hg.scalar]; rfl) rfl (by simp) ?_
    have e5 : splice [.int .i64 0, .nils] 0 [.int .i64 (gw W : Nat), X] = [.int .i64 (gw W : Nat), X] := rfl
    rw [e5]
    rw [show loadN 2 (.ptr b4 0) (Heap.put H' b4 [.int .i64 (gw W : Nat), X]) = some (.agg [.int .i64 (gw W : Nat), X]) from loadN_at (cells := [.int .i64 (gw W : Nat), X]) Heap.put_same]
    simp only [letO_some]
    have hg1 := hg.put (c := b4) (x := [.int .i64 0, .nils]) (y := [.int .i64 (gw W : Nat), X]) (by rw [Heap.put_ne hne]; exact Heap.put_same)
    obtain ⟨H2, hl2, hg2⟩ := hg1.shrink (H := H) (Heap.le_put (Heap.le_put (Heap.le_put_self hb4) hb5') hb4)
    refine endK_pub (r' := .agg [.int .i64 (gw W : Nat), X]) (Pub.drop hl2) ?_
    refine hg2.endG (f := fun v => .agg [.int .i64 (gw W : Nat), v]) (fun b => ⟨fun e => by subst e; rfl, fun e => by subst e; rfl, fun e => by subst e; have := Grow.frz hg2.1 b; simp only [lift, List.map, this]; rfl⟩) ?_
    have hlen := made_len (W := W) (M := M) (S := S) hl hm
    rw [sl, hlen, hn] at hk
    rw [madeL, hn] at hk
    exact hk
theorem shr_ex {t : TypeId} {k k' : IntKind} {a b : Int} (hb : 0 ≤ b) : ∃ y, binF Try.prog .shr t (.int k a) (.int k' b) = some (.int k y) := by
  simp only [binF]
  rw [if_neg (by omega)]
  exact ⟨_, rfl⟩
theorem and_ex {t : TypeId} {k : IntKind} {a b : Int} : ∃ y, binF Try.prog .and t (.int k a) (.int k b) = some (.int k y) := by
  simp only [binF, if_true]
  exact ⟨_, rfl⟩
theorem slc_pre {H : Heap} {v : AV} {l : List Int} {k : Nat} (h : Reads H v l) (hk : k ≤ l.length) : ∃ v', slc 1 v none (some (.int .i64 (k : Int))) none = some v' ∧ Reads H v' (l.take k) := by
  have n1 : ∀ d, natOf none d = some d := fun d => rfl
  have n2 : ∀ d, natOf (some (.int .i64 (k : Int))) d = some k := fun d => by simp [natOf]
  cases v <;> simp only [Reads] at h <;> try exact h.elim
  · subst h
    have : k = 0 := by simpa using hk
    subst this
    simp only [slc, n1, n2, Option.bind_some]
    exact ⟨_, rfl, rfl⟩
  · obtain ⟨rfl, rfl⟩ := h
    simp only [slc, n1, n2, Option.bind_some]
    rw [if_pos ⟨by omega, hk⟩]
    refine ⟨_, rfl, by simp; omega, ?_⟩
    rw [Nat.mul_one, Nat.zero_mul, List.drop_zero, Nat.sub_zero, ints_take]
  · rename_i s b off n cp
    obtain ⟨rfl, rfl, cells, hb, hc, ht⟩ := h
    simp only [slc, n1, n2, Option.bind_some]
    rw [if_pos ⟨by trivial, by omega, hk, by simp⟩]
    refine ⟨_, rfl, rfl, by simp; omega, cells, hb, by omega, ?_⟩
    rw [Nat.zero_mul, Nat.add_zero, Nat.sub_zero, ← ints_take, ← ht, List.take_take, Nat.min_eq_left hk]

theorem any_succ (F : List Nat) (i : Nat) (g : Nat × Nat → Bool) : (spansN F (i + 1)).any g = ((spansN F i).any g || g (stN F i, F.getD i 0)) := by
  rw [spansN_succ, List.any_append]
  simp [spanN]

@[simp] theorem iv_three {k : IntKind} {n : Int} {x y z : AV} {L : List AV} : iv (x :: y :: z :: .int k n :: L) 3 = n := rfl
theorem wantE_bd {w : Int} {ws : List Int} (hc : chk w ws = 0) (E : List Nat) (m : Nat) : ∀ i, 0 ≤ wantE w ws E m i ∧ wantE w ws E m i ≤ 40000000000 * i
  | 0 => by simp [wantE]
  | i + 1 => by
    have := wantE_bd hc E m i
    have := sqf_bnd hc (stN E i) (E.getD i 0)
    rw [wantE]
    split <;> omega
theorem leftL_get {w : Int} {ws : List Int} {E : List Nat} {n k : Nat} (h : k < n) : (leftL w ws E n).getD k 0 = lf w ws (stN E k) (E.getD k 0) := by
  rw [List.getD_eq_getElem?_getD]
  simp only [leftL, List.getElem?_map]
  rw [List.getElem?_range h]
  rfl
theorem sum_take_succ {ws : List Int} {k : Nat} (h : k < ws.length) : (ws.take (k + 1)).sum = (ws.take k).sum + ws.getD k 0 := by
  rw [List.take_add_one, List.sum_append, List.getD_eq_getElem?_getD, List.getElem?_eq_getElem h]
  simp

end Go.Proofs.Ytlajhbpkogekfaa

namespace Go.Proofs.Ytlajhbpkogekfaa
open Go.Av Line
set_option linter.unusedVariables false
set_option linter.unusedSimpArgs false
set_option maxRecDepth 4000

/-- Equal, for states: nothing rewrites it. -/
def eqv {α : Type} (a b : α) : Prop := a = b
/-- in -/
theorem c77 {a lo hi : Int} {H : Heap} {K : AV → Heap → Prop} (hk : K (.bool (decide (lo ≤ a ∧ a ≤ hi))) H) : ACalls Try.prog 77 [.int .i64 a, .int .i64 lo, .int .i64 hi] H K := by
  apply W77_ok
  unfold W77
  simp only [letO_some, binF_geq, gval_bool]
  by_cases h : lo ≤ a <;> simp [h] <;> exact endK_ret (by simpa [h] using hk)

theorem not_bool {b : Bool} : unF .not (.bool b) = some (.bool !b) := rfl

/-- Check, of the reference -/
theorem c51 {w : Int} {v : AV} {ws : List Int} {H : Heap} {K : AV → Heap → Prop} (hv : Reads H v ws) (hlen : ws.length < 2 ^ 62) (hk : K (.int .i64 (chk w ws)) H) : ACalls Try.prog 51 [.agg [.int .i64 w, v]] H K := by
  apply W51_ok
  unfold W51
  simp only [letO_some, cellsOf?_agg, cellsOf?_int, cellsOf?_bool, cellsOf?_imm, cellsOf?_ref, cellsOf?_nils, faddr_iptr, faddr_ptr, List.drop_succ_cons, List.drop_zero, List.take_succ_cons, List.take_zero, load1_iptr, loadN_iptr, List.length_cons, List.length_nil, Nat.le_refl, if_true, List.getElem?_cons_zero, List.getElem?_cons_succ, List.getD_cons_zero, List.getD_cons_succ, extrF_tup, binF_add, binF_sub, binF_mul, binF_eql, binF_neq, binF_lss, binF_leq, binF_gtr, binF_geq, true_and]
  refine c77 ?_
  simp only [not_bool, letO_some, condA_bool, condG_bool]
  refine ⟨fun h => ?_, fun h => ?_⟩
  · have h : ¬ (1 ≤ w ∧ w ≤ 40) := by intro hh; simp [hh] at h
    rw [chk, if_pos (by omega)] at hk
    exact endK_ret hk
  have hw : 1 ≤ w ∧ w ≤ 40 := by simpa using h
  rw [chk, if_neg (by omega)] at hk
  simp only [letO_some, cellsOf?_agg, cellsOf?_int, cellsOf?_bool, cellsOf?_imm, cellsOf?_ref, cellsOf?_nils, faddr_iptr, faddr_ptr, List.drop_succ_cons, List.drop_zero, List.take_succ_cons, List.take_zero, load1_iptr, loadN_iptr, List.length_cons, List.length_nil, Nat.le_refl, if_true, List.getElem?_cons_zero, List.getElem?_cons_succ, List.getD_cons_zero, List.getD_cons_succ, extrF_tup, binF_add, binF_sub, binF_mul, binF_eql, binF_neq, binF_lss, binF_leq, binF_gtr, binF_geq, true_and, hv.len, condA_bool, condG_bool]
  refine ⟨fun h => ?_, fun h => ?_⟩
  · have h : ws.length = 0 := by simp at h; simp [h]
    rw [if_pos h] at hk
    exact endK_ret hk
  have h0 : ¬ ws.length = 0 := by intro h'; apply h; rw [h']; rfl
  rw [if_neg h0] at hk
  refine ⟨fun h => ?_, fun h => ?_⟩
  · have h : 10 < ws.length := by simp at h; omega
    rw [if_pos h] at hk
    exact endK_ret hk
  have h10 : ¬ 10 < ws.length := by simp at h; omega
  rw [if_neg h10] at hk
  refine ⟨fun L H' => ∃ i : Nat, L = [.int .i64 i] ∧ i ≤ ws.length ∧ (∀ x ∈ ws.take i, 1 ≤ x ∧ x ≤ w) ∧ H' = H, fun L _ => (ws.length - iv L 0).toNat, ⟨0, rfl, by omega, by simp, rfl⟩, ?_⟩
  intro L H' hI
  obtain ⟨i, rfl, hi, hall, rfl⟩ := hI
  simp only [letO_some, cellsOf?_agg, cellsOf?_int, cellsOf?_bool, cellsOf?_imm, cellsOf?_ref, cellsOf?_nils, faddr_iptr, faddr_ptr, List.drop_succ_cons, List.drop_zero, List.take_succ_cons, List.take_zero, load1_iptr, loadN_iptr, List.length_cons, List.length_nil, Nat.le_refl, if_true, List.getElem?_cons_zero, List.getElem?_cons_succ, List.getD_cons_zero, List.getD_cons_succ, extrF_tup, binF_add, binF_sub, binF_mul, binF_eql, binF_neq, binF_lss, binF_leq, binF_gtr, binF_geq, true_and]
  refine condA_t (fun hlt => ?_) (fun hge => ?_)
  · have hil : i < ws.length := by omega
    refine hv.get (Heap.le_refl _) (by omega) hlt ?_
    rw [Int.toNat_natCast]
    have hm : ws.getD i 0 ∈ ws := by rw [List.getD_eq_getElem?_getD]; simp [hil]
    try simp only [letO_some, cellsOf?_agg, cellsOf?_int, cellsOf?_bool, cellsOf?_imm, cellsOf?_ref, cellsOf?_nils, faddr_iptr, faddr_ptr, List.drop_succ_cons, List.drop_zero, List.take_succ_cons, List.take_zero, load1_iptr, loadN_iptr, List.length_cons, List.length_nil, Nat.le_refl, if_true, List.getElem?_cons_zero, List.getElem?_cons_succ, List.getD_cons_zero, List.getD_cons_succ, extrF_tup, binF_add, binF_sub, binF_mul, binF_eql, binF_neq, binF_lss, binF_leq, binF_gtr, binF_geq, true_and]
    refine c77 ?_
    simp only [not_bool, letO_some, condA_bool, condG_bool]
    refine ⟨fun h => ?_, fun h => ?_⟩
    · have h : ¬ (1 ≤ ws.getD i 0 ∧ ws.getD i 0 ≤ w) := by intro hh; rw [show decide (1 ≤ ws.getD i 0 ∧ ws.getD i 0 ≤ w) = true from decide_eq_true hh] at h; simp at h
      rw [if_neg (fun ha => h (ha _ hm))] at hk
      exact endK_ret hk
    · have h : 1 ≤ ws.getD i 0 ∧ ws.getD i 0 ≤ w := by
        by_cases hh : 1 ≤ ws.getD i 0 ∧ ws.getD i 0 ≤ w
        · exact hh
        · exact absurd (by rw [decide_eq_false hh]; rfl) h
      try simp only [letO_some, cellsOf?_agg, cellsOf?_int, cellsOf?_bool, cellsOf?_imm, cellsOf?_ref, cellsOf?_nils, faddr_iptr, faddr_ptr, List.drop_succ_cons, List.drop_zero, List.take_succ_cons, List.take_zero, load1_iptr, loadN_iptr, List.length_cons, List.length_nil, Nat.le_refl, if_true, List.getElem?_cons_zero, List.getElem?_cons_succ, List.getD_cons_zero, List.getD_cons_succ, extrF_tup, binF_add, binF_sub, binF_mul, binF_eql, binF_neq, binF_lss, binF_leq, binF_gtr, binF_geq, true_and]
      rw [wrap_i64 (by omega) (by omega)]
      try simp only [and_true]
      refine ⟨⟨i + 1, by simp, by omega, fun x hx => ?_⟩, by simp <;> omega⟩
      rw [List.take_add_one] at hx
      rcases List.mem_append.1 hx with hx | hx
      · exact hall x hx
      · rw [List.getElem?_eq_getElem hil] at hx
        have : x = ws.getD i 0 := by rw [List.getD_eq_getElem?_getD, List.getElem?_eq_getElem hil]; simpa using hx
        rw [this]; exact h
  · have : i = ws.length := by omega
    subst this
    rw [List.take_length] at hall
    rw [if_pos hall] at hk
    exact endK_ret hk

/-- left, of the reference -/
theorem c79 {w : Int} {v : AV} {ws : List Int} {i j : Nat} {H : Heap} {K : AV → Heap → Prop} (hv : Reads H v ws) (hc : chk w ws = 0) (hij : i ≤ j) (hj : j ≤ ws.length) (hk : K (.int .i64 (lf w ws i j)) H) :
    ACalls Try.prog 79 [.agg [.int .i64 w, v], .int .i64 i, .int .i64 j] H K := by
  apply W79_ok
  unfold W79
  obtain ⟨w1, w2, n1, n2, hws⟩ := chk_ok hc
  simp only [letO_some, cellsOf?_agg, cellsOf?_int, cellsOf?_bool, cellsOf?_imm, cellsOf?_ref, cellsOf?_nils, faddr_iptr, faddr_ptr, List.drop_succ_cons, List.drop_zero, List.take_succ_cons, List.take_zero, load1_iptr, loadN_iptr, List.length_cons, List.length_nil, Nat.le_refl, if_true, List.getElem?_cons_zero, List.getElem?_cons_succ, List.getD_cons_zero, List.getD_cons_succ, extrF_tup, binF_add, binF_sub, binF_mul, binF_eql, binF_neq, binF_lss, binF_leq, binF_gtr, binF_geq, true_and]
  rw [wrap_i64 (n := (j : Int) - i) (by omega) (by omega), wrap_i64 (n := (j : Int) - i - 1) (by omega) (by omega), wrap_i64 (n := w - ((j : Int) - i - 1)) (by omega) (by omega)]
  refine ⟨fun L H' => ∃ k : Nat, L = [.int .i64 (w - ((j : Int) - i - 1) - (psum ws (i + k) - psum ws i - k)), .int .i64 ((i + k : Nat) : Int)] ∧ i + k ≤ j ∧ H' = H, fun L _ => (j - iv L 1).toNat, ⟨0, by simp, by omega, rfl⟩, ?_⟩
  intro L H' hI
  obtain ⟨k, rfl, hk1, rfl⟩ := hI
  simp only [letO_some, cellsOf?_agg, cellsOf?_int, cellsOf?_bool, cellsOf?_imm, cellsOf?_ref, cellsOf?_nils, faddr_iptr, faddr_ptr, List.drop_succ_cons, List.drop_zero, List.take_succ_cons, List.take_zero, load1_iptr, loadN_iptr, List.length_cons, List.length_nil, Nat.le_refl, if_true, List.getElem?_cons_zero, List.getElem?_cons_succ, List.getD_cons_zero, List.getD_cons_succ, extrF_tup, binF_add, binF_sub, binF_mul, binF_eql, binF_neq, binF_lss, binF_leq, binF_gtr, binF_geq, true_and]
  have hb1 := psum_le (ws := ws) (k := i) fun x hx => by have := hws x (List.mem_of_mem_take hx); omega
  have hb2 := psum_le (ws := ws) (k := i + k) fun x hx => by have := hws x (List.mem_of_mem_take hx); omega
  refine condA_t (fun hlt => ?_) (fun hge => ?_)
  · refine hv.get (Heap.le_refl _) (by omega) (by omega) ?_
    rw [Int.toNat_natCast]
    have hm : ws.getD (i + k) 0 ∈ ws := by rw [List.getD_eq_getElem?_getD]; simp [show i + k < ws.length by omega]
    have hx := hws _ hm
    have hp := psum_succ (show i + k < ws.length by omega)
    try simp only [letO_some, cellsOf?_agg, cellsOf?_int, cellsOf?_bool, cellsOf?_imm, cellsOf?_ref, cellsOf?_nils, faddr_iptr, faddr_ptr, List.drop_succ_cons, List.drop_zero, List.take_succ_cons, List.take_zero, load1_iptr, loadN_iptr, List.length_cons, List.length_nil, Nat.le_refl, if_true, List.getElem?_cons_zero, List.getElem?_cons_succ, List.getD_cons_zero, List.getD_cons_succ, extrF_tup, binF_add, binF_sub, binF_mul, binF_eql, binF_neq, binF_lss, binF_leq, binF_gtr, binF_geq, true_and]
    rw [wrap_i64 (n := w - ((j : Int) - i - 1) - (psum ws (i + k) - psum ws i - k) - ws.getD (i + k) 0) (by omega) (by omega), wrap_i64 (n := ((i + k : Nat) : Int) + 1) (by omega) (by omega)]
    try simp only [and_true]
    refine ⟨⟨k + 1, ?_, by omega⟩, by simp <;> omega⟩
    have e : w - ((j : Int) - i - 1) - (psum ws (i + (k + 1)) - psum ws i - ((k + 1 : Nat) : Int)) = w - ((j : Int) - i - 1) - (psum ws (i + k) - psum ws i - k) - ws.getD (i + k) 0 := by
      rw [show i + (k + 1) = i + k + 1 by omega, hp]; omega
    rw [e]
    rfl
  · have hkj : i + k = j := by omega
    rw [hkj]
    rw [lf_eq (by omega) hj] at hk
    refine endK_ret ?_
    have e : w - ((j : Int) - i - 1) - (psum ws j - psum ws i - k) = w + 1 - (psum ws j - psum ws i) := by omega
    rw [e]; exact hk

/-- begin -/
theorem c78 {u : AV} {E : List Nat} {k : Nat} {H : Heap} {K : AV → Heap → Prop} (hu : Reads H u (up E)) (hk1 : k ≤ E.length) (hl : E.length < 2 ^ 60) (hk : K (.int .i64 (stN E k : Nat)) H) : ACalls Try.prog 78 [u, .int .i64 k] H K := by
  apply W78_ok
  unfold W78
  simp only [letO_some, cellsOf?_agg, cellsOf?_int, cellsOf?_bool, cellsOf?_imm, cellsOf?_ref, cellsOf?_nils, faddr_iptr, faddr_ptr, List.drop_succ_cons, List.drop_zero, List.take_succ_cons, List.take_zero, load1_iptr, loadN_iptr, List.length_cons, List.length_nil, Nat.le_refl, if_true, List.getElem?_cons_zero, List.getElem?_cons_succ, List.getD_cons_zero, List.getD_cons_succ, extrF_tup, binF_add, binF_sub, binF_mul, binF_eql, binF_neq, binF_lss, binF_leq, binF_gtr, binF_geq, true_and, condA_bool, condG_bool]
  refine ⟨fun h => ?_, fun h => ?_⟩
  · have h : k = 0 := by simpa using h
    subst h
    exact endK_ret hk
  · have h : ¬ k = 0 := by simpa using h
    rw [wrap_i64 (by omega) (by omega)]
    refine hu.get (Heap.le_refl _) (by omega) (by simp; omega) ?_
    rw [show ((k : Int) - 1).toNat = k - 1 by omega, up_getD]
    try simp only [letO_some]
    rw [stN, if_neg h] at hk
    exact endK_ret hk

def refE (w : Int) (ws ends : List Int) : Int := if chk w ws ≠ 0 then chk w ws else scan ws.length 0 ends
/-- ended, of the reference -/
theorem c82 {w : Int} {v u : AV} {ws ends : List Int} {H : Heap} {K : AV → Heap → Prop} (hv : Reads H v ws) (hu : Reads H u ends) (hlen : ws.length < 2 ^ 60) (hlen2 : ends.length < 2 ^ 60) (hk : K (.int .i64 (refE w ws ends)) H) :
    ACalls Try.prog 82 [.agg [.int .i64 w, v], u] H K := by
  apply W82_ok
  unfold W82
  simp only [letO_some, cellsOf?_agg, cellsOf?_int, cellsOf?_bool, cellsOf?_imm, cellsOf?_ref, cellsOf?_nils, faddr_iptr, faddr_ptr, List.drop_succ_cons, List.drop_zero, List.take_succ_cons, List.take_zero, load1_iptr, loadN_iptr, List.length_cons, List.length_nil, Nat.le_refl, if_true, List.getElem?_cons_zero, List.getElem?_cons_succ, List.getD_cons_zero, List.getD_cons_succ, extrF_tup, binF_add, binF_sub, binF_mul, binF_eql, binF_neq, binF_lss, binF_leq, binF_gtr, binF_geq, true_and]
  refine c51 hv (by omega) ?_
  try simp only [letO_some, cellsOf?_agg, cellsOf?_int, cellsOf?_bool, cellsOf?_imm, cellsOf?_ref, cellsOf?_nils, faddr_iptr, faddr_ptr, List.drop_succ_cons, List.drop_zero, List.take_succ_cons, List.take_zero, load1_iptr, loadN_iptr, List.length_cons, List.length_nil, Nat.le_refl, if_true, List.getElem?_cons_zero, List.getElem?_cons_succ, List.getD_cons_zero, List.getD_cons_succ, extrF_tup, binF_add, binF_sub, binF_mul, binF_eql, binF_neq, binF_lss, binF_leq, binF_gtr, binF_geq, true_and]
  refine ⟨fun L H' => ∃ (i : Nat) (e : Int), eqv L [.int .i64 e, .int .i64 i] ∧ i ≤ ends.length ∧ eqv H' H ∧ (e ≠ 0 → refE w ws ends = e) ∧ (e = 0 → chk w ws = 0 ∧ scan ws.length 0 ends = scan ws.length (if i = 0 then 0 else ends.getD (i - 1) 0) (ends.drop i)), fun L _ => (ends.length - iv L 1).toNat,
    ⟨0, chk w ws, rfl, by omega, rfl, fun h => by rw [refE, if_pos h], fun h => ⟨h, rfl⟩⟩, ?_⟩
  intro L H' hI
  obtain ⟨i, e, rfl, hi, rfl, he1, he2⟩ := hI
  simp only [letO_some, cellsOf?_agg, cellsOf?_int, cellsOf?_bool, cellsOf?_imm, cellsOf?_ref, cellsOf?_nils, faddr_iptr, faddr_ptr, List.drop_succ_cons, List.drop_zero, List.take_succ_cons, List.take_zero, load1_iptr, loadN_iptr, List.length_cons, List.length_nil, Nat.le_refl, if_true, List.getElem?_cons_zero, List.getElem?_cons_succ, List.getD_cons_zero, List.getD_cons_succ, extrF_tup, binF_add, binF_sub, binF_mul, binF_eql, binF_neq, binF_lss, binF_leq, binF_gtr, binF_geq, true_and, hu.len]
  by_cases hil : i < ends.length
  · have e1 : decide ((i : Int) < (ends.length : Int)) = true := by simp; omega
    simp only [e1, gval_bool, if_true, letO_some, binF_eql, pickF_true]
    by_cases h0 : e = 0
    · subst h0
      obtain ⟨hc, hs⟩ := he2 rfl
      have hn := chk_ok hc
      simp only [beq_self_eq_true, condA_tt, condG_tt]
      have hd : ends.drop i = ends.getD i 0 :: ends.drop (i + 1) := by
        rw [List.drop_eq_getElem_cons hil, List.getD_eq_getElem?_getD]; simp [hil]
      rw [hd] at hs
      refine ⟨fun L h => ∃ e' : Int, eqv L [.int .i64 e'] ∧ eqv h H' ∧ (e' ≠ 0 → refE w ws ends = e') ∧ (e' = 0 → scan ws.length 0 ends = scan ws.length (ends.getD i 0) (ends.drop (i + 1))), ?_, ?_⟩
      · refine hu.get (Heap.le_refl _) (by omega) (by omega) ?_
        rw [Int.toNat_natCast]
        simp only [letO_some, cellsOf?_agg, cellsOf?_int, cellsOf?_bool, cellsOf?_imm, cellsOf?_ref, cellsOf?_nils, faddr_iptr, faddr_ptr, List.drop_succ_cons, List.drop_zero, List.take_succ_cons, List.take_zero, load1_iptr, loadN_iptr, List.length_cons, List.length_nil, Nat.le_refl, if_true, List.getElem?_cons_zero, List.getElem?_cons_succ, List.getD_cons_zero, List.getD_cons_succ, extrF_tup, binF_add, binF_sub, binF_mul, binF_eql, binF_neq, binF_lss, binF_leq, binF_gtr, binF_geq, true_and, hv.len]
        refine c77 ?_
        simp only [not_bool, letO_some, condA_bool, condG_bool]
        refine ⟨fun h => ?_, fun h => ?_⟩
        · have h : ¬ (1 ≤ ends.getD i 0 ∧ ends.getD i 0 ≤ ws.length) := by intro hh; rw [show decide (1 ≤ ends.getD i 0 ∧ ends.getD i 0 ≤ ws.length) = true from decide_eq_true hh] at h; simp at h
          rw [scan, if_pos (by omega)] at hs
          refine ⟨2, rfl, rfl, fun _ => by rw [refE, if_neg (by omega), hs], fun h => by omega⟩
        · have h : 1 ≤ ends.getD i 0 ∧ ends.getD i 0 ≤ ws.length := by
            by_cases hh : 1 ≤ ends.getD i 0 ∧ ends.getD i 0 ≤ ws.length
            · exact hh
            · exact absurd (by rw [decide_eq_false hh]; rfl) h
          by_cases hi0 : i = 0
          · subst hi0
            rw [scan, if_neg (by omega), if_pos rfl, if_neg (by omega)] at hs
            have e2 : decide ((0 : Int) < ((0 : Nat) : Int)) = false := by simp
            simp only [e2, gval_bool, Bool.false_eq_true, if_false, letO_some, pickF_false, condA_ff, condG_ff]
            exact ⟨0, rfl, rfl, fun h => absurd rfl h, fun _ => hs⟩
          · have e2 : decide ((0 : Int) < (i : Int)) = true := by simp; omega
            rw [scan, if_neg (by omega), if_neg hi0] at hs
            simp only [e2, gval_bool, if_true, letO_some, binF_sub]
            rw [wrap_i64 (by omega) (by omega)]
            refine hu.get (Heap.le_refl _) (by omega) (by omega) ?_
            rw [Int.toNat_natCast]
            refine hu.get (Heap.le_refl _) (by omega) (by omega) ?_
            rw [show ((i : Int) - 1).toNat = i - 1 by omega]
            simp only [letO_some, cellsOf?_agg, cellsOf?_int, cellsOf?_bool, cellsOf?_imm, cellsOf?_ref, cellsOf?_nils, faddr_iptr, faddr_ptr, List.drop_succ_cons, List.drop_zero, List.take_succ_cons, List.take_zero, load1_iptr, loadN_iptr, List.length_cons, List.length_nil, Nat.le_refl, if_true, List.getElem?_cons_zero, List.getElem?_cons_succ, List.getD_cons_zero, List.getD_cons_succ, extrF_tup, binF_add, binF_sub, binF_mul, binF_eql, binF_neq, binF_lss, binF_leq, binF_gtr, binF_geq, true_and, pickF_true]
            refine condA_t (fun hle => ?_) (fun hgt => ?_)
            · rw [if_pos hle] at hs
              exact ⟨7, rfl, rfl, fun _ => by rw [refE, if_neg (by omega), hs], fun h => by omega⟩
            · rw [if_neg hgt] at hs
              exact ⟨0, rfl, rfl, fun h => absurd rfl h, fun _ => hs⟩
      · rintro L h ⟨e', rfl, rfl, h1, h2⟩
        simp only [letO_some, cellsOf?_agg, cellsOf?_int, cellsOf?_bool, cellsOf?_imm, cellsOf?_ref, cellsOf?_nils, faddr_iptr, faddr_ptr, List.drop_succ_cons, List.drop_zero, List.take_succ_cons, List.take_zero, load1_iptr, loadN_iptr, List.length_cons, List.length_nil, Nat.le_refl, if_true, List.getElem?_cons_zero, List.getElem?_cons_succ, List.getD_cons_zero, List.getD_cons_succ, extrF_tup, binF_add, binF_sub, binF_mul, binF_eql, binF_neq, binF_lss, binF_leq, binF_gtr, binF_geq, true_and]
        rw [wrap_i64 (by omega) (by omega)]
        refine ⟨⟨i + 1, e', rfl, by omega, rfl, h1, fun h => ⟨hc, ?_⟩⟩, by simp <;> omega⟩
        rw [if_neg (by omega), Nat.add_sub_cancel]
        exact h2 h
    · have e3 : (e == 0) = false := by simpa using h0
      simp only [e3, condA_ff, condG_ff]
      refine ⟨fun L h => eqv L [.int .i64 e] ∧ eqv h H', ?_, ?_⟩
      · simp only [gval_bool, Bool.false_eq_true, if_false, letO_some, pickF_false, condA_ff, condG_ff]
        exact ⟨rfl, rfl⟩
      rintro L h ⟨rfl, rfl⟩
      simp only [letO_some, cellsOf?_agg, cellsOf?_int, cellsOf?_bool, cellsOf?_imm, cellsOf?_ref, cellsOf?_nils, faddr_iptr, faddr_ptr, List.drop_succ_cons, List.drop_zero, List.take_succ_cons, List.take_zero, load1_iptr, loadN_iptr, List.length_cons, List.length_nil, Nat.le_refl, if_true, List.getElem?_cons_zero, List.getElem?_cons_succ, List.getD_cons_zero, List.getD_cons_succ, extrF_tup, binF_add, binF_sub, binF_mul, binF_eql, binF_neq, binF_lss, binF_leq, binF_gtr, binF_geq, true_and]
      rw [he1 h0] at hk
      exact endK_ret hk
  · have e1 : decide ((i : Int) < (ends.length : Int)) = false := by simp; omega
    have hie : i = ends.length := by omega
    simp only [e1, gval_bool, Bool.false_eq_true, if_false, letO_some, pickF_false, condA_ff, condG_ff]
    refine ⟨fun L h => eqv L [.int .i64 (refE w ws ends)] ∧ eqv h H', ?_, ?_⟩
    · by_cases h0 : e = 0
      · subst h0
        obtain ⟨hc, hs⟩ := he2 rfl
        have hn := chk_ok hc
        have hr : refE w ws ends = scan ws.length 0 ends := by rw [refE, if_neg (by omega)]
        rw [hie, List.drop_length, scan] at hs
        simp only [beq_self_eq_true, gval_bool, if_true, letO_some, binF_eql, hu.len]
        by_cases hl0 : ends.length = 0
        · have e4 : ((ends.length : Int) == 0) = true := by rw [hl0]; rfl
          rw [if_pos hl0, if_pos (by omega)] at hs
          simp only [e4, gval_bool, Bool.true_eq_false, if_false, letO_some, pickF_true, condA_tt, condG_tt]
          rw [hr, hs]
          exact ⟨rfl, rfl⟩
        · have e4 : ((ends.length : Int) == 0) = false := by simpa using hl0
          rw [if_neg hl0] at hs
          simp only [e4, gval_bool, if_true, letO_some, binF_sub, hu.len]
          rw [wrap_i64 (by omega) (by omega)]
          refine hu.get (Heap.le_refl _) (by omega) (by omega) ?_
          rw [show ((ends.length : Int) - 1).toNat = ends.length - 1 by omega]
          simp only [letO_some, cellsOf?_agg, cellsOf?_int, cellsOf?_bool, cellsOf?_imm, cellsOf?_ref, cellsOf?_nils, faddr_iptr, faddr_ptr, List.drop_succ_cons, List.drop_zero, List.take_succ_cons, List.take_zero, load1_iptr, loadN_iptr, List.length_cons, List.length_nil, Nat.le_refl, if_true, List.getElem?_cons_zero, List.getElem?_cons_succ, List.getD_cons_zero, List.getD_cons_succ, extrF_tup, binF_add, binF_sub, binF_mul, binF_eql, binF_neq, binF_lss, binF_leq, binF_gtr, binF_geq, true_and, hv.len, pickF_true, pickF_false, condA_bool, condG_bool]
          refine ⟨fun h => ?_, fun h => ?_⟩
          · rw [if_pos (by simpa using h)] at hs
            rw [hr, hs]
            exact ⟨rfl, rfl⟩
          · rw [if_neg (by simpa using h)] at hs
            rw [hr, hs]
            exact ⟨rfl, rfl⟩
      · have e3 : (e == 0) = false := by simpa using h0
        simp only [e3, gval_bool, Bool.false_eq_true, if_false, letO_some, pickF_false, condA_ff, condG_ff]
        rw [he1 h0]
        exact ⟨rfl, rfl⟩
    rintro L h ⟨rfl, rfl⟩
    simp only [letO_some, cellsOf?_agg, cellsOf?_int, cellsOf?_bool, cellsOf?_imm, cellsOf?_ref, cellsOf?_nils, faddr_iptr, faddr_ptr, List.drop_succ_cons, List.drop_zero, List.take_succ_cons, List.take_zero, load1_iptr, loadN_iptr, List.length_cons, List.length_nil, Nat.le_refl, if_true, List.getElem?_cons_zero, List.getElem?_cons_succ, List.getD_cons_zero, List.getD_cons_succ, extrF_tup, binF_add, binF_sub, binF_mul, binF_eql, binF_neq, binF_lss, binF_leq, binF_gtr, binF_geq, true_and]
    exact endK_ret hk
end Go.Proofs.Ytlajhbpkogekfaa

namespace Go.Proofs.Ytlajhbpkogekfaa
open Go.Av Line
set_option linter.unusedVariables false
set_option linter.unusedSimpArgs false
set_option maxRecDepth 4000

theorem ref_ok {w : Int} {ws ends : List Int} (h : refE w ws ends = 0) : chk w ws = 0 ∧ scan ws.length 0 ends = 0 := by
  unfold refE at h
  by_cases h1 : chk w ws = 0
  · rw [if_neg (by omega)] at h; exact ⟨h1, h⟩
  · rw [if_pos h1] at h; exact absurd h h1
/-- What is known of ends in order. -/
theorem ord_facts {w : Int} {ws ends : List Int} (hc : chk w ws = 0) (hs : scan ws.length 0 ends = 0) :
    up (toN ends) = ends ∧ asc ws.length 0 (up (toN ends)) ∧ ends.length ≤ 10 ∧ 1 ≤ ends.length ∧ (∀ e ∈ toN ends, e ≤ ws.length) ∧ ∀ k, k < ends.length → stN (toN ends) k < (toN ends).getD k 0 ∧ (toN ends).getD k 0 ≤ ws.length ∧ stN (toN ends) k ≤ ws.length := by
  have hn := chk_ok hc
  have hup : up (toN ends) = ends := up_toN fun e he => (scan_range hs e he).1
  have ha : asc ws.length 0 (up (toN ends)) := by rw [hup]; exact asc_of_scan hs
  have hl := scan_len hs
  have hE : ∀ e ∈ toN ends, e ≤ ws.length := by
    intro e he
    obtain ⟨x, hx, rfl⟩ := List.mem_map.1 he
    have := scan_range hs x hx
    omega
  refine ⟨hup, ha, by omega, ?_, hE, fun k hk => ?_⟩
  · cases ends with
    | nil => simp [scan] at hs; omega
    | cons a l => simp
  · have h1 := stN_lt ha (k := k) (by rw [hup]; exact hk)
    rw [toN_up] at h1
    have h2 := stN_le hE k
    exact ⟨h1, h2.2, h2.1⟩

/-- fits, of the reference -/
theorem c83 {w : Int} {v u : AV} {ws ends : List Int} {H : Heap} {K : AV → Heap → Prop} (hv : Reads H v ws) (hu : Reads H u ends) (hc : chk w ws = 0) (hs : scan ws.length 0 ends = 0) (hk : K (.bool (!over w ws (toN ends))) H) :
    ACalls Try.prog 83 [.agg [.int .i64 w, v], u] H K := by
  apply W83_ok
  unfold W83
  obtain ⟨hup, ha, hl1, hl2, hE, hf⟩ := ord_facts hc hs
  have hEl := toN_len ends
  simp only [letO_some, cellsOf?_agg, cellsOf?_int, cellsOf?_bool, cellsOf?_imm, cellsOf?_ref, cellsOf?_nils, faddr_iptr, faddr_ptr, List.drop_succ_cons, List.drop_zero, List.take_succ_cons, List.take_zero, load1_iptr, loadN_iptr, List.length_cons, List.length_nil, Nat.le_refl, if_true, List.getElem?_cons_zero, List.getElem?_cons_succ, List.getD_cons_zero, List.getD_cons_succ, extrF_tup, binF_add, binF_sub, binF_mul, binF_eql, binF_neq, binF_lss, binF_leq, binF_gtr, binF_geq, true_and]
  refine ⟨fun L H' => ∃ i : Nat, eqv L [.int .i64 i] ∧ i ≤ ends.length ∧ eqv H' H ∧ (spansN (toN ends) i).any (fun p => decide (lf w ws p.1 p.2 < 0)) = false, fun L _ => (ends.length - iv L 0).toNat, ⟨0, rfl, by omega, rfl, rfl⟩, ?_⟩
  intro L H' hI
  obtain ⟨i, rfl, hi, rfl, hany⟩ := hI
  simp only [letO_some, cellsOf?_agg, cellsOf?_int, cellsOf?_bool, cellsOf?_imm, cellsOf?_ref, cellsOf?_nils, faddr_iptr, faddr_ptr, List.drop_succ_cons, List.drop_zero, List.take_succ_cons, List.take_zero, load1_iptr, loadN_iptr, List.length_cons, List.length_nil, Nat.le_refl, if_true, List.getElem?_cons_zero, List.getElem?_cons_succ, List.getD_cons_zero, List.getD_cons_succ, extrF_tup, binF_add, binF_sub, binF_mul, binF_eql, binF_neq, binF_lss, binF_leq, binF_gtr, binF_geq, true_and, hu.len]
  refine condA_t (fun hlt => ?_) (fun hge => ?_)
  · have hil : i < ends.length := by omega
    obtain ⟨f1, f2, f3⟩ := hf i hil
    refine ⟨_, c78 (E := toN ends) (k := i) (by rw [hup]; exact hu) (by omega) (by omega) ⟨rfl, rfl⟩, ?_⟩
    refine hu.get (Heap.le_refl _) (by omega) (by omega) ?_
    have hEi : ends.getD (i : Int).toNat 0 = ((toN ends).getD i 0 : Nat) := by
      rw [Int.toNat_natCast, ← up_getD, hup]
    rw [hEi]
    refine c79 hv hc (Nat.le_of_lt f1) f2 ?_
    simp only [letO_some, cellsOf?_agg, cellsOf?_int, cellsOf?_bool, cellsOf?_imm, cellsOf?_ref, cellsOf?_nils, faddr_iptr, faddr_ptr, List.drop_succ_cons, List.drop_zero, List.take_succ_cons, List.take_zero, load1_iptr, loadN_iptr, List.length_cons, List.length_nil, Nat.le_refl, if_true, List.getElem?_cons_zero, List.getElem?_cons_succ, List.getD_cons_zero, List.getD_cons_succ, extrF_tup, binF_add, binF_sub, binF_mul, binF_eql, binF_neq, binF_lss, binF_leq, binF_gtr, binF_geq, true_and]
    refine condA_t (fun hneg => ?_) (fun hnn => ?_)
    · have : over w ws (toN ends) = true := by
        unfold over
        rw [List.any_eq_true]
        exact ⟨spanN (toN ends) i, List.mem_of_getElem? (spansN_get (by omega)), by simpa [spanN] using hneg⟩
      rw [this] at hk
      exact endK_ret hk
    · rw [wrap_i64 (by omega) (by omega)]
      refine ⟨⟨i + 1, rfl, by omega, rfl, ?_⟩, by simp <;> omega⟩
      rw [any_succ, hany]; simpa using hnn
  · have : i = ends.length := by omega
    subst this
    have : over w ws (toN ends) = false := by unfold over; rw [hEl]; exact hany
    rw [this] at hk
    exact endK_ret hk

theorem ended_ref {w : Int} {ws ends : List Int} : endedE w ws ends = if refE w ws ends ≠ 0 then refE w ws ends else if over w ws (toN ends) then 15 else 0 := by
  unfold endedE refE
  by_cases h1 : chk w ws = 0 <;> simp [h1]

/-- Fits, of the reference -/
theorem c52 {w : Int} {v u : AV} {ws ends : List Int} {H : Heap} {K : AV → Heap → Prop} (hv : Reads H v ws) (hu : Reads H u ends) (hlen : ws.length < 2 ^ 60) (hlen2 : ends.length < 2 ^ 60) (hk : K (.int .i64 (endedE w ws ends)) H) :
    ACalls Try.prog 52 [.agg [.int .i64 w, v], u] H K := by
  apply W52_ok
  unfold W52
  simp only [letO_some, cellsOf?_agg, cellsOf?_int, cellsOf?_bool, cellsOf?_imm, cellsOf?_ref, cellsOf?_nils, faddr_iptr, faddr_ptr, List.drop_succ_cons, List.drop_zero, List.take_succ_cons, List.take_zero, load1_iptr, loadN_iptr, List.length_cons, List.length_nil, Nat.le_refl, if_true, List.getElem?_cons_zero, List.getElem?_cons_succ, List.getD_cons_zero, List.getD_cons_succ, extrF_tup, binF_add, binF_sub, binF_mul, binF_eql, binF_neq, binF_lss, binF_leq, binF_gtr, binF_geq, true_and]
  refine c82 hv hu hlen hlen2 ?_
  rw [ended_ref] at hk
  refine ⟨fun L h => eqv L [.int .i64 (if refE w ws ends ≠ 0 then refE w ws ends else if over w ws (toN ends) then 15 else 0)] ∧ eqv h H, ?_, ?_⟩
  · by_cases h : refE w ws ends = 0
    · obtain ⟨hc, hs⟩ := ref_ok h
      have e : (refE w ws ends == 0) = true := by rw [h]; rfl
      simp only [binF_eql, letO_some, e, gval_bool, if_true, condG_tt]
      refine exJ ?_
      refine c83 hv hu hc hs ?_
      rw [if_neg (by omega), h]
      simp only [not_bool, Bool.not_not, gval_bool, if_true, letO_some, pickF_true, condA_bool]
      refine ⟨fun h2 => ?_, fun h2 => ?_⟩
      · rw [if_pos h2]; exact ⟨rfl, rfl⟩
      · rw [if_neg h2]; exact ⟨rfl, rfl⟩
    · have e : (refE w ws ends == 0) = false := by simpa using h
      simp only [binF_eql, letO_some, e, gval_bool, Bool.false_eq_true, if_false, condG_ff]
      refine exU ?_
      simp only [gval_bool, Bool.false_eq_true, if_false, letO_some, pickF_false, condA_ff]
      rw [if_pos h]
      exact ⟨rfl, rfl⟩
  rintro L h ⟨rfl, rfl⟩
  simp only [letO_some, cellsOf?_agg, cellsOf?_int, cellsOf?_bool, cellsOf?_imm, cellsOf?_ref, cellsOf?_nils, faddr_iptr, faddr_ptr, List.drop_succ_cons, List.drop_zero, List.take_succ_cons, List.take_zero, load1_iptr, loadN_iptr, List.length_cons, List.length_nil, Nat.le_refl, if_true, List.getElem?_cons_zero, List.getElem?_cons_succ, List.getD_cons_zero, List.getD_cons_succ, extrF_tup, binF_add, binF_sub, binF_mul, binF_eql, binF_neq, binF_lss, binF_leq, binF_gtr, binF_geq, true_and]
  exact endK_ret hk

/-- Left, of the reference -/
theorem c47 {w : Int} {v u : AV} {ws ends : List Int} {H : Heap} {K : AV → Heap → Prop} (hv : Reads H v ws) (hu : Reads H u ends) (hlen : ws.length < 2 ^ 60) (hlen2 : ends.length < 2 ^ 60)
    (hk : K (.tup [sl (leftO w ws ends), .int .i64 (endedE w ws ends)]) H) : ACalls Try.prog 47 [.agg [.int .i64 w, v], u] H K := by
  apply W47_ok
  unfold W47
  simp only [letO_some, cellsOf?_agg, cellsOf?_int, cellsOf?_bool, cellsOf?_imm, cellsOf?_ref, cellsOf?_nils, faddr_iptr, faddr_ptr, List.drop_succ_cons, List.drop_zero, List.take_succ_cons, List.take_zero, load1_iptr, loadN_iptr, List.length_cons, List.length_nil, Nat.le_refl, if_true, List.getElem?_cons_zero, List.getElem?_cons_succ, List.getD_cons_zero, List.getD_cons_succ, extrF_tup, binF_add, binF_sub, binF_mul, binF_eql, binF_neq, binF_lss, binF_leq, binF_gtr, binF_geq, true_and]
  refine c52 hv hu hlen hlen2 ?_
  simp only [letO_some, cellsOf?_agg, cellsOf?_int, cellsOf?_bool, cellsOf?_imm, cellsOf?_ref, cellsOf?_nils, faddr_iptr, faddr_ptr, List.drop_succ_cons, List.drop_zero, List.take_succ_cons, List.take_zero, load1_iptr, loadN_iptr, List.length_cons, List.length_nil, Nat.le_refl, if_true, List.getElem?_cons_zero, List.getElem?_cons_succ, List.getD_cons_zero, List.getD_cons_succ, extrF_tup, binF_add, binF_sub, binF_mul, binF_eql, binF_neq, binF_lss, binF_leq, binF_gtr, binF_geq, true_and, condA_bool]
  refine ⟨fun h => ?_, fun h => ?_⟩
  · have h : ¬ endedE w ws ends = 0 := by simpa using h
    rw [leftO, if_neg h] at hk
    exact endK_nil (Heap.le_refl _) hk
  have h : endedE w ws ends = 0 := by simpa using h
  rw [leftO, if_pos h, h] at hk
  obtain ⟨hc, hs, hov⟩ := ended_ok h
  obtain ⟨hup, ha, hl1, hl2, hE, hf⟩ := ord_facts hc hs
  have hEl := toN_len ends
  refine ⟨fun L H' => ∃ (i : Nat) (X : AV), eqv L [X, .int .i64 i] ∧ i ≤ ends.length ∧ Grow 1 H H' X i (ints (leftL w ws (toN ends) i)), fun L _ => (ends.length - iv L 1).toNat, ⟨0, .nils, rfl, by omega, Grow.nils 1 H⟩, ?_⟩
  intro L H' hI
  obtain ⟨i, X, rfl, hi, hg⟩ := hI
  have hv' := hv.le hg.le
  have hu' := hu.le hg.le
  simp only [letO_some, cellsOf?_agg, cellsOf?_int, cellsOf?_bool, cellsOf?_imm, cellsOf?_ref, cellsOf?_nils, faddr_iptr, faddr_ptr, List.drop_succ_cons, List.drop_zero, List.take_succ_cons, List.take_zero, load1_iptr, loadN_iptr, List.length_cons, List.length_nil, Nat.le_refl, if_true, List.getElem?_cons_zero, List.getElem?_cons_succ, List.getD_cons_zero, List.getD_cons_succ, extrF_tup, binF_add, binF_sub, binF_mul, binF_eql, binF_neq, binF_lss, binF_leq, binF_gtr, binF_geq, true_and, hu.len]
  refine condA_t (fun hlt => ?_) (fun hge => ?_)
  · have hil : i < ends.length := by omega
    obtain ⟨f1, f2, f3⟩ := hf i hil
    refine ⟨_, c78 (E := toN ends) (k := i) (by rw [hup]; exact hu') (by omega) (by omega) ⟨rfl, rfl⟩, ?_⟩
    refine hu'.get (Heap.le_refl _) (by omega) (by omega) ?_
    have hEi : ends.getD (i : Int).toNat 0 = ((toN ends).getD i 0 : Nat) := by
      rw [Int.toNat_natCast, ← up_getD, hup]
    rw [hEi]
    refine ⟨_, c79 hv' hc (Nat.le_of_lt f1) f2 ⟨rfl, rfl⟩, ?_⟩
    simp only [l22 cellsOf?_int, letO_some]
    refine appendA_one hg (by omega) fun v' H7 hg7 => ?_
    rw [wrap_i64 (by omega) (by omega)]
    refine ⟨⟨i + 1, v', rfl, by omega, ?_⟩, by simp <;> omega⟩
    rw [leftL_succ]; exact hg7
  · have : i = ends.length := by omega
    subst this
    refine hg.end2 ?_
    simpa [sl] using hk

/-- squares, of the reference -/
theorem c66 {w : Int} {v u : AV} {ws ends : List Int} {m : Nat} {H : Heap} {K : AV → Heap → Prop} (hv : Reads H v ws) (hu : Reads H u ends) (hc : chk w ws = 0) (hup : up (toN ends) = ends) (hm : m ≤ ends.length) (hl : ends.length ≤ 10)
    (hf : ∀ k, k < ends.length → stN (toN ends) k < (toN ends).getD k 0 ∧ (toN ends).getD k 0 ≤ ws.length ∧ stN (toN ends) k ≤ ws.length)
    (hk : K (.int .i64 (wantE w ws (toN ends) m m)) H) : ACalls Try.prog 66 [.agg [.int .i64 w, v], u, .int .i64 m] H K := by
  apply W66_ok
  unfold W66
  have hEl := toN_len ends
  simp only [letO_some, cellsOf?_agg, cellsOf?_int, cellsOf?_bool, cellsOf?_imm, cellsOf?_ref, cellsOf?_nils, faddr_iptr, faddr_ptr, List.drop_succ_cons, List.drop_zero, List.take_succ_cons, List.take_zero, load1_iptr, loadN_iptr, List.length_cons, List.length_nil, Nat.le_refl, if_true, List.getElem?_cons_zero, List.getElem?_cons_succ, List.getD_cons_zero, List.getD_cons_succ, extrF_tup, binF_add, binF_sub, binF_mul, binF_eql, binF_neq, binF_lss, binF_leq, binF_gtr, binF_geq, true_and]
  refine ⟨fun L H' => ∃ i : Nat, eqv L [.int .i64 (wantE w ws (toN ends) m i), .int .i64 i] ∧ i ≤ m ∧ eqv H' H, fun L _ => (m - iv L 1).toNat, ⟨0, rfl, by omega, rfl⟩, ?_⟩
  intro L H' hI
  obtain ⟨i, rfl, hi, rfl⟩ := hI
  simp only [letO_some, cellsOf?_agg, cellsOf?_int, cellsOf?_bool, cellsOf?_imm, cellsOf?_ref, cellsOf?_nils, faddr_iptr, faddr_ptr, List.drop_succ_cons, List.drop_zero, List.take_succ_cons, List.take_zero, load1_iptr, loadN_iptr, List.length_cons, List.length_nil, Nat.le_refl, if_true, List.getElem?_cons_zero, List.getElem?_cons_succ, List.getD_cons_zero, List.getD_cons_succ, extrF_tup, binF_add, binF_sub, binF_mul, binF_eql, binF_neq, binF_lss, binF_leq, binF_gtr, binF_geq, true_and]
  refine condA_t (fun hlt => ?_) (fun hge => ?_)
  · have hil : i < m := by omega
    obtain ⟨f1, f2, f3⟩ := hf i (by omega)
    refine ⟨_, c78 (E := toN ends) (k := i) (by rw [hup]; exact hu) (by omega) (by omega) ⟨rfl, rfl⟩, ?_⟩
    refine hu.get (Heap.le_refl _) (by omega) (by omega) ?_
    have hEi : ends.getD (i : Int).toNat 0 = ((toN ends).getD i 0 : Nat) := by
      rw [Int.toNat_natCast, ← up_getD, hup]
    rw [hEi]
    refine c79 hv hc (Nat.le_of_lt f1) f2 ?_
    have hwt := wantE_bd hc (toN ends) m i
    have hsq := sqf_bnd hc (stN (toN ends) i) ((toN ends).getD i 0)
    have hsqf : lf w ws (stN (toN ends) i) ((toN ends).getD i 0) * lf w ws (stN (toN ends) i) ((toN ends).getD i 0) = sqf w ws (stN (toN ends) i) ((toN ends).getD i 0) := rfl
    simp only [letO_some, cellsOf?_agg, cellsOf?_int, cellsOf?_bool, cellsOf?_imm, cellsOf?_ref, cellsOf?_nils, faddr_iptr, faddr_ptr, List.drop_succ_cons, List.drop_zero, List.take_succ_cons, List.take_zero, load1_iptr, loadN_iptr, List.length_cons, List.length_nil, Nat.le_refl, if_true, List.getElem?_cons_zero, List.getElem?_cons_succ, List.getD_cons_zero, List.getD_cons_succ, extrF_tup, binF_add, binF_sub, binF_mul, binF_eql, binF_neq, binF_lss, binF_leq, binF_gtr, binF_geq, true_and]
    rw [hsqf, wrap_i64 (n := sqf w ws (stN (toN ends) i) ((toN ends).getD i 0)) (by omega) (by omega), wrap_i64 (n := wantE w ws (toN ends) m i + sqf w ws (stN (toN ends) i) ((toN ends).getD i 0)) (by omega) (by omega), wrap_i64 (n := (i : Int) + 1) (by omega) (by omega)]
    refine ⟨⟨i + 1, ?_, by omega, rfl⟩, by simp <;> omega⟩
    rw [wantE, if_pos hil]
    rfl
  · have : i = m := by omega
    subst this
    exact endK_ret hk

/-- Cost, of the reference -/
theorem c48 {w : Int} {v u : AV} {ws ends : List Int} {H : Heap} {K : AV → Heap → Prop} (hv : Reads H v ws) (hu : Reads H u ends) (hlen : ws.length < 2 ^ 60) (hlen2 : ends.length < 2 ^ 60)
    (hk : K (.tup [.int .i64 (costO w ws ends), .int .i64 (endedE w ws ends)]) H) : ACalls Try.prog 48 [.agg [.int .i64 w, v], u] H K := by
  apply W48_ok
  unfold W48
  simp only [letO_some, cellsOf?_agg, cellsOf?_int, cellsOf?_bool, cellsOf?_imm, cellsOf?_ref, cellsOf?_nils, faddr_iptr, faddr_ptr, List.drop_succ_cons, List.drop_zero, List.take_succ_cons, List.take_zero, load1_iptr, loadN_iptr, List.length_cons, List.length_nil, Nat.le_refl, if_true, List.getElem?_cons_zero, List.getElem?_cons_succ, List.getD_cons_zero, List.getD_cons_succ, extrF_tup, binF_add, binF_sub, binF_mul, binF_eql, binF_neq, binF_lss, binF_leq, binF_gtr, binF_geq, true_and]
  refine c52 hv hu hlen hlen2 ?_
  simp only [letO_some, cellsOf?_agg, cellsOf?_int, cellsOf?_bool, cellsOf?_imm, cellsOf?_ref, cellsOf?_nils, faddr_iptr, faddr_ptr, List.drop_succ_cons, List.drop_zero, List.take_succ_cons, List.take_zero, load1_iptr, loadN_iptr, List.length_cons, List.length_nil, Nat.le_refl, if_true, List.getElem?_cons_zero, List.getElem?_cons_succ, List.getD_cons_zero, List.getD_cons_succ, extrF_tup, binF_add, binF_sub, binF_mul, binF_eql, binF_neq, binF_lss, binF_leq, binF_gtr, binF_geq, true_and, condA_bool, hu.len]
  refine ⟨fun h => ?_, fun h => ?_⟩
  · have h : ¬ endedE w ws ends = 0 := by simpa using h
    rw [costO, if_neg h] at hk
    exact endK_ret hk
  have h : endedE w ws ends = 0 := by simpa using h
  rw [costO, if_pos h, h] at hk
  obtain ⟨hc, hs, hov⟩ := ended_ok h
  obtain ⟨hup, ha, hl1, hl2, hE, hf⟩ := ord_facts hc hs
  have hEl := toN_len ends
  rw [wrap_i64 (by omega) (by omega), show ((ends.length : Int) - 1) = ((ends.length - 1 : Nat) : Int) by omega]
  refine c66 hv hu hc hup (by omega) hl1 hf ?_
  try simp only [letO_some, cellsOf?_agg, cellsOf?_int, cellsOf?_bool, cellsOf?_imm, cellsOf?_ref, cellsOf?_nils, faddr_iptr, faddr_ptr, List.drop_succ_cons, List.drop_zero, List.take_succ_cons, List.take_zero, load1_iptr, loadN_iptr, List.length_cons, List.length_nil, Nat.le_refl, if_true, List.getElem?_cons_zero, List.getElem?_cons_succ, List.getD_cons_zero, List.getD_cons_succ, extrF_tup, binF_add, binF_sub, binF_mul, binF_eql, binF_neq, binF_lss, binF_leq, binF_gtr, binF_geq, true_and]
  have hne : toN ends ≠ [] := by intro h0; rw [h0] at hEl; simp at hEl; omega
  have e : costE w ws ends = wantE w ws (toN ends) (ends.length - 1) (ends.length - 1) := by
    unfold costE
    have := costE_eq (w := w) (ws := ws) ha hne ends.length (by omega)
    rw [hEl] at this
    rw [this]
    obtain ⟨m, hm⟩ : ∃ m, ends.length = m + 1 := ⟨ends.length - 1, by omega⟩
    rw [hm, Nat.add_sub_cancel, wantE, if_neg (by omega), Int.add_zero]
  rw [e] at hk
  exact endK_ret hk

/-- Full, of the reference -/
theorem c49 {w : Int} {v : AV} {ws : List Int} {H : Heap} {K : AV → Heap → Prop} (hv : Reads H v ws) (hlen : ws.length < 2 ^ 60) (hk : K (.tup [sl (fullO w ws), .int .i64 (chk w ws)]) H) : ACalls Try.prog 49 [.agg [.int .i64 w, v]] H K := by
  apply W49_ok
  unfold W49
  simp only [letO_some, cellsOf?_agg, cellsOf?_int, cellsOf?_bool, cellsOf?_imm, cellsOf?_ref, cellsOf?_nils, faddr_iptr, faddr_ptr, List.drop_succ_cons, List.drop_zero, List.take_succ_cons, List.take_zero, load1_iptr, loadN_iptr, List.length_cons, List.length_nil, Nat.le_refl, if_true, List.getElem?_cons_zero, List.getElem?_cons_succ, List.getD_cons_zero, List.getD_cons_succ, extrF_tup, binF_add, binF_sub, binF_mul, binF_eql, binF_neq, binF_lss, binF_leq, binF_gtr, binF_geq, true_and]
  refine c51 hv (by omega) ?_
  simp only [letO_some, cellsOf?_agg, cellsOf?_int, cellsOf?_bool, cellsOf?_imm, cellsOf?_ref, cellsOf?_nils, faddr_iptr, faddr_ptr, List.drop_succ_cons, List.drop_zero, List.take_succ_cons, List.take_zero, load1_iptr, loadN_iptr, List.length_cons, List.length_nil, Nat.le_refl, if_true, List.getElem?_cons_zero, List.getElem?_cons_succ, List.getD_cons_zero, List.getD_cons_succ, extrF_tup, binF_add, binF_sub, binF_mul, binF_eql, binF_neq, binF_lss, binF_leq, binF_gtr, binF_geq, true_and, condA_bool]
  refine ⟨fun h => ?_, fun h => ?_⟩
  · have h : ¬ chk w ws = 0 := by simpa using h
    rw [fullO, if_neg h] at hk
    exact endK_nil (Heap.le_refl _) hk
  have h : chk w ws = 0 := by simpa using h
  rw [fullO, if_pos h, h] at hk
  obtain ⟨w1, w2, n1, n2, hws⟩ := chk_ok h
  refine ⟨fun L H' => ∃ (fr en f : Nat) (l : List Nat) (X : AV), eqv L [X, .int .i64 fr, .int .i64 en] ∧ ((fr < en ∧ en ≤ ws.length ∧ 0 ≤ lf w ws fr en) ∨ (fr = ws.length ∧ en = ws.length + 1)) ∧ Grow 1 H H' X l.length (ints (up l)) ∧ l.length ≤ fr ∧ ws.length - fr ≤ f ∧ l ++ fullE w ws f fr = fullE w ws ws.length 0, fun L _ => (ws.length + 1 - iv L 2).toNat,
    ⟨0, 1, ws.length, [], .nils, rfl, .inl ⟨by omega, by omega, lf_one h (by omega)⟩, Grow.nils 1 H, by simp, by omega, rfl⟩, ?_⟩
  intro L H' hI
  obtain ⟨fr, en, f, l, X, rfl, hcase, hg, hl, hf, hE⟩ := hI
  have hv' := hv.le hg.le
  simp only [letO_some, cellsOf?_agg, cellsOf?_int, cellsOf?_bool, cellsOf?_imm, cellsOf?_ref, cellsOf?_nils, faddr_iptr, faddr_ptr, List.drop_succ_cons, List.drop_zero, List.take_succ_cons, List.take_zero, load1_iptr, loadN_iptr, List.length_cons, List.length_nil, Nat.le_refl, if_true, List.getElem?_cons_zero, List.getElem?_cons_succ, List.getD_cons_zero, List.getD_cons_succ, extrF_tup, binF_add, binF_sub, binF_mul, binF_eql, binF_neq, binF_lss, binF_leq, binF_gtr, binF_geq, true_and, hv.len]
  refine condA_t (fun hle => ?_) (fun hgt => ?_)
  · obtain ⟨h1, h2, h3⟩ : fr < en ∧ en ≤ ws.length ∧ 0 ≤ lf w ws fr en := by
      rcases hcase with h | ⟨_, h⟩
      · exact h
      · omega
    obtain ⟨f, rfl⟩ : ∃ f', f = f' + 1 := ⟨f - 1, by omega⟩
    have step : ∀ (hgr : en = ws.length ∨ lf w ws fr (en + 1) < 0), appendA 1 8 X (.imm 1 true [.int .i64 en]) (fun t36 H12 => eqv [t36, .int .i64 en] [t36, .int .i64 en] ∧ (∃ (fr' f' : Nat) (l' : List Nat) (X' : AV), eqv [t36, .int .i64 en] [X', .int .i64 fr'] ∧ ((fr' < en + 1 ∧ en + 1 ≤ ws.length ∧ 0 ≤ lf w ws fr' (en + 1)) ∨ (fr' = ws.length ∧ en + 1 = ws.length + 1)) ∧ Grow 1 H H12 X' l'.length (ints (up l')) ∧ l'.length ≤ fr' ∧ ws.length - fr' ≤ f' ∧ l' ++ fullE w ws f' fr' = fullE w ws ws.length 0)) H' := by
      intro hgr
      refine appendA_one hg (by omega) fun v' H7 hg7 => ⟨rfl, en, f, l ++ [en], v', rfl, ?_, ?_, by simp; omega, by omega, ?_⟩
      · by_cases he : en = ws.length
        · exact .inr ⟨he, by omega⟩
        · exact .inl ⟨by omega, by omega, lf_one h (by omega)⟩
      · rw [up_snoc]; simpa using hg7
      · rw [← hE, fullE, if_pos (by omega), endN_greedy h h1 h3 h2 hgr]
        simp
    refine ⟨fun L h => ∃ (fr' f' : Nat) (l' : List Nat) (X' : AV), eqv L [X', .int .i64 fr'] ∧ ((fr' < en + 1 ∧ en + 1 ≤ ws.length ∧ 0 ≤ lf w ws fr' (en + 1)) ∨ (fr' = ws.length ∧ en + 1 = ws.length + 1)) ∧ Grow 1 H h X' l'.length (ints (up l')) ∧ l'.length ≤ fr' ∧ ws.length - fr' ≤ f' ∧ l' ++ fullE w ws f' fr' = fullE w ws ws.length 0, ?_, ?_⟩
    · by_cases he : en = ws.length
      · have e1 : ((en : Int) == (ws.length : Int)) = true := by rw [he]; exact beq_self_eq_true _
        simp only [e1, gval_bool, Bool.true_eq_false, if_false, letO_some, condG_tt']
        refine exU ?_
        simp only [gval_bool, Bool.true_eq_false, if_false, letO_some, pickF_true, condA_tt, l22 cellsOf?_int]
        have := step (.inl he)
        exact appendA_mono (fun t h hh => hh.2) this
      · have e1 : ((en : Int) == (ws.length : Int)) = false := by simp; omega
        simp only [e1, gval_bool, if_true, letO_some, binF_add, condG_ff']
        rw [wrap_i64 (by omega) (by omega), show ((en : Int) + 1) = ((en + 1 : Nat) : Int) by omega]
        refine exJ ?_
        refine c79 hv' h (by omega) (by omega) ?_
        simp only [gval_bool, if_true, letO_some, binF_lss, pickF_false]
        refine condA_t (fun hneg => ?_) (fun hnn => ?_)
        · simp only [l22 cellsOf?_int, letO_some]
          have := step (.inr hneg)
          exact appendA_mono (fun t h hh => hh.2) this
        · exact ⟨fr, f + 1, l, X, rfl, .inl ⟨by omega, by omega, by omega⟩, hg, hl, hf, hE⟩
    · rintro L h ⟨fr', f', l', X', rfl, hc', hg', hl', hf', hE'⟩
      simp only [letO_some, cellsOf?_agg, cellsOf?_int, cellsOf?_bool, cellsOf?_imm, cellsOf?_ref, cellsOf?_nils, faddr_iptr, faddr_ptr, List.drop_succ_cons, List.drop_zero, List.take_succ_cons, List.take_zero, load1_iptr, loadN_iptr, List.length_cons, List.length_nil, Nat.le_refl, if_true, List.getElem?_cons_zero, List.getElem?_cons_succ, List.getD_cons_zero, List.getD_cons_succ, extrF_tup, binF_add, binF_sub, binF_mul, binF_eql, binF_neq, binF_lss, binF_leq, binF_gtr, binF_geq, true_and]
      rw [wrap_i64 (by omega) (by omega)]
      refine ⟨⟨fr', en + 1, f', l', X', rfl, hc', hg', hl', hf', hE'⟩, by simp <;> omega⟩
  · have hfr : fr = ws.length := by
      rcases hcase with ⟨_, h, _⟩ | ⟨h, _⟩ <;> omega
    subst hfr
    rw [fullE_done, List.append_nil] at hE
    rw [← hE, sl, up_length] at hk
    exact hg.end2 hk
end Go.Proofs.Ytlajhbpkogekfaa

namespace Go.Proofs.Ytlajhbpkogekfaa
open Go.Av Line
set_option linter.unusedVariables false
set_option linter.unusedSimpArgs false
set_option maxRecDepth 4000

def eqs {α : Type} (a b : α) : Prop := a = b
/-- Two lists that grow may be told in either order. -/
theorem grow_swap {H H1 H' : Heap} {A B : AV} {n m : Nat} {ca cb : List AV} (h1 : Grow 1 H H1 A n ca) (h2 : Grow 1 H1 H' B m cb) : ∃ H2, Grow 1 H H2 B m cb ∧ Grow 1 H2 H' A n ca := by
  rcases h2 with ⟨l2, ⟨rfl, rfl, rfl⟩ | ⟨rfl, rfl⟩ | ⟨b2, hb2, rfl, rfl⟩⟩
  · exact ⟨H, ⟨l2, .inl ⟨rfl, rfl, rfl⟩⟩, h1⟩
  · exact ⟨H, ⟨l2, .inr (.inl ⟨rfl, rfl⟩)⟩, h1⟩
  · rcases h1 with ⟨l1, ⟨rfl, rfl, rfl⟩ | ⟨rfl, rfl⟩ | ⟨b1, hb1, rfl, rfl⟩⟩
    · exact ⟨_, Grow.ref hb2 l2, l1, .inl ⟨rfl, rfl, rfl⟩⟩
    · exact ⟨_, Grow.ref hb2 l2, l1, .inr (.inl ⟨rfl, rfl⟩)⟩
    · have hne : b1 ≠ b2 := Heap.ne_of Heap.put_same hb2
      have hb2' : H b2 = none := by rwa [Heap.put_ne (Ne.symm hne)] at hb2
      refine ⟨H.put b2 cb, Grow.ref hb2' l2, l1, .inr (.inr ⟨b1, by rw [Heap.put_ne hne]; exact hb1, rfl, Heap.put_comm hne⟩)⟩

theorem pls_succ (w : Int) (ws : List Int) (k : Nat) : pls w ws (k + 1) = pls w ws k ++ [(pls w ws (k + 1)).getD (k + 1) (0, 0)] := by
  have : (pls w ws (k + 1)).getD (k + 1) (0, 0) = scanB w ws (pls w ws k) (k + 1) (k + 1) (0, 0) := by
    rw [pls, List.getD_eq_getElem?_getD, List.getElem?_append_right (by simp)]
    simp
  rw [this, pls]
def fst_ (l : List (Int × Nat)) : List Int := l.map fun p => p.1
def snd_ (l : List (Int × Nat)) : List Int := l.map fun p => (p.2 : Int)
theorem fst_get {l : List (Int × Nat)} {i : Nat} : (fst_ l).getD i 0 = (l.getD i (0, 0)).1 := by
  simp only [fst_, List.getD_eq_getElem?_getD, List.getElem?_map]
  cases l[i]? <;> rfl

/-- prices, of the law -/
theorem c54 {w : Int} {v : AV} {ws : List Int} {H : Heap} {K : AV → Heap → Prop} (hv : Reads H v ws) (hc : chk w ws = 0) (hk : K (.tup [sl (pricesL w ws), sl (startsL w ws)]) H) : ACalls Try.prog 54 [.agg [.int .i64 w, v]] H K := by
  apply W54_ok
  unfold W54
  obtain ⟨w1, w2, n1, n2, hws⟩ := chk_ok hc
  simp only [letO_some, cellsOf?_agg, cellsOf?_int, cellsOf?_bool, cellsOf?_imm, cellsOf?_ref, cellsOf?_nils, faddr_iptr, faddr_ptr, List.drop_succ_cons, List.drop_zero, List.take_succ_cons, List.take_zero, load1_iptr, loadN_iptr, List.length_cons, List.length_nil, Nat.le_refl, if_true, List.getElem?_cons_zero, List.getElem?_cons_succ, List.getD_cons_zero, List.getD_cons_succ, extrF_tup, binF_add, binF_sub, binF_mul, binF_eql, binF_neq, binF_lss, binF_leq, binF_gtr, binF_geq, true_and, l22 cellsOf?_int]
  refine c46 ?_
  refine ⟨fun L H' => ∃ (k : Nat) (A B : AV) (H1 : Heap), eqs L [A, B, .int .i64 ((k + 1 : Nat) : Int)] ∧ k ≤ ws.length ∧ Grow 1 H H1 A (k + 1) (ints (fst_ (pls w ws k))) ∧ Grow 1 H1 H' B k (ints (snd_ ((pls w ws k).drop 1))) ∧ (0 < k → isOwn A ∧ isOwn B), fun L _ => (ws.length + 1 - iv L 2).toNat,
    ⟨0, .imm 1 true [.int .i64 0], .nils, H, rfl, by omega, Grow.imm rfl, Grow.nils 1 H, fun h => absurd h (by omega)⟩, ?_⟩
  intro L H' hI
  obtain ⟨k, A, B, H1, rfl, hkn, hgA, hgB, hown⟩ := hI
  have hle : H.le H' := Heap.le_trans hgA.le hgB.le
  have hv' := hv.le hle
  have hrA : Reads H' A (fst_ (pls w ws k)) := hgA.reads.le hgB.le
  simp only [letO_some, cellsOf?_agg, cellsOf?_int, cellsOf?_bool, cellsOf?_imm, cellsOf?_ref, cellsOf?_nils, faddr_iptr, faddr_ptr, List.drop_succ_cons, List.drop_zero, List.take_succ_cons, List.take_zero, load1_iptr, loadN_iptr, List.length_cons, List.length_nil, Nat.le_refl, if_true, List.getElem?_cons_zero, List.getElem?_cons_succ, List.getD_cons_zero, List.getD_cons_succ, extrF_tup, binF_add, binF_sub, binF_mul, binF_eql, binF_neq, binF_lss, binF_leq, binF_gtr, binF_geq, true_and, hv.len]
  refine condA_t (fun hlt => ?_) (fun hge => ?_)
  · have hk1 : k < ws.length := by omega
    have hPb := pls_bd (w := w) (ws := ws) hc k
    let inv : Nat → Int → Nat → Prop := fun i least start => (least = -1 ∧ start = 0 ∧ ∀ i', i' < i → lf w ws i' (k + 1) < 0) ∨
      (start < i ∧ 0 ≤ lf w ws start (k + 1) ∧ least = costL w ws (pls w ws k) (k + 1) start ∧ ∀ i', i' < i → 0 ≤ lf w ws i' (k + 1) → least ≤ costL w ws (pls w ws k) (k + 1) i' ∧ (i' < start → least < costL w ws (pls w ws k) (k + 1) i'))
    have hcb : ∀ i, 0 ≤ costL w ws (pls w ws k) (k + 1) i ∧ costL w ws (pls w ws k) (k + 1) i ≤ 40000000000 * (k + 1) := by
      intro i
      have := hPb i
      have := sqf_bnd hc i (k + 1)
      unfold costL; omega
    refine ⟨fun L H'' => ∃ (i : Nat) (least : Int) (start : Nat), eqs L [.int .i64 least, .int .i64 start, .int .i64 i] ∧ i ≤ k + 1 ∧ eqs H'' H' ∧ inv i least start, fun L _ => (k + 1 - iv L 2).toNat,
      ⟨0, -1, 0, rfl, by omega, rfl, .inl ⟨rfl, rfl, fun i h => absurd h (by omega)⟩⟩, ?_⟩
    intro L H'' hJ
    obtain ⟨i, least, start, rfl, hi, rfl, hinv⟩ := hJ
    simp only [letO_some, cellsOf?_agg, cellsOf?_int, cellsOf?_bool, cellsOf?_imm, cellsOf?_ref, cellsOf?_nils, faddr_iptr, faddr_ptr, List.drop_succ_cons, List.drop_zero, List.take_succ_cons, List.take_zero, load1_iptr, loadN_iptr, List.length_cons, List.length_nil, Nat.le_refl, if_true, List.getElem?_cons_zero, List.getElem?_cons_succ, List.getD_cons_zero, List.getD_cons_succ, extrF_tup, binF_add, binF_sub, binF_mul, binF_eql, binF_neq, binF_lss, binF_leq, binF_gtr, binF_geq, true_and]
    refine condA_t (fun hlt2 => ?_) (fun hge2 => ?_)
    · have hik : i < k + 1 := by omega
      refine ⟨fun L h => ∃ (least' : Int) (start' : Nat), eqs L [.int .i64 least', .int .i64 start'] ∧ eqs h H'' ∧ inv (i + 1) least' start', ?_, ?_⟩
      · refine c43 hv' hc hik (by omega) ?_
        simp only [letO_some, cellsOf?_agg, cellsOf?_int, cellsOf?_bool, cellsOf?_imm, cellsOf?_ref, cellsOf?_nils, faddr_iptr, faddr_ptr, List.drop_succ_cons, List.drop_zero, List.take_succ_cons, List.take_zero, load1_iptr, loadN_iptr, List.length_cons, List.length_nil, Nat.le_refl, if_true, List.getElem?_cons_zero, List.getElem?_cons_succ, List.getD_cons_zero, List.getD_cons_succ, extrF_tup, binF_add, binF_sub, binF_mul, binF_eql, binF_neq, binF_lss, binF_leq, binF_gtr, binF_geq, true_and]
        refine condA_t (fun hneg => ?_) (fun hnn => ?_)
        · refine ⟨least, start, rfl, rfl, ?_⟩
          rcases hinv with ⟨h1, h2, h3⟩ | ⟨h1, h2, h3, h4⟩
          · refine .inl ⟨h1, h2, fun i' hi' => ?_⟩
            by_cases he : i' = i
            · subst he; exact hneg
            · exact h3 i' (by omega)
          · refine .inr ⟨by omega, h2, h3, fun i' hi' hf => ?_⟩
            by_cases he : i' = i
            · subst he; omega
            · exact h4 i' (by omega) hf
        · refine hrA.get (Heap.le_refl _) (by omega) (by simp [fst_]; omega) ?_
          rw [Int.toNat_natCast, fst_get]
          have hsq := sqf_bnd hc i (k + 1)
          have hPi := hPb i
          have hci : ((pls w ws k).getD i (0, 0)).1 + sqf w ws i (k + 1) = costL w ws (pls w ws k) (k + 1) i := rfl
          have hsqf : lf w ws i (k + 1) * lf w ws i (k + 1) = sqf w ws i (k + 1) := rfl
          simp only [letO_some, cellsOf?_agg, cellsOf?_int, cellsOf?_bool, cellsOf?_imm, cellsOf?_ref, cellsOf?_nils, faddr_iptr, faddr_ptr, List.drop_succ_cons, List.drop_zero, List.take_succ_cons, List.take_zero, load1_iptr, loadN_iptr, List.length_cons, List.length_nil, Nat.le_refl, if_true, List.getElem?_cons_zero, List.getElem?_cons_succ, List.getD_cons_zero, List.getD_cons_succ, extrF_tup, binF_add, binF_sub, binF_mul, binF_eql, binF_neq, binF_lss, binF_leq, binF_gtr, binF_geq, true_and]
          rw [hsqf, wrap_i64 (n := sqf w ws i (k + 1)) (by omega) (by omega), wrap_i64 (n := ((pls w ws k).getD i (0, 0)).1 + sqf w ws i (k + 1)) (by omega) (by omega), hci]
          rcases hinv with ⟨rfl, h2, h3⟩ | ⟨h1, h2, h3, h4⟩
          · have e : decide ((-1 : Int) < 0) = true := rfl
            simp only [e, gval_bool, Bool.true_eq_false, if_false, letO_some, pickF_true, condA_tt]
            refine ⟨_, i, rfl, rfl, .inr ⟨by omega, by omega, rfl, fun i' hi' hf => ?_⟩⟩
            by_cases he : i' = i
            · subst he; exact ⟨Int.le_refl _, fun h => absurd h (Nat.lt_irrefl _)⟩
            · have := h3 i' (by omega); omega
          · have hcs := hcb start
            have e : decide (least < 0) = false := by simp; omega
            simp only [e, gval_bool, if_true, letO_some, binF_lss, pickF_false]
            refine condA_t (fun hless => ?_) (fun hnl => ?_)
            · refine ⟨_, i, rfl, rfl, .inr ⟨by omega, by omega, rfl, fun i' hi' hf => ?_⟩⟩
              by_cases he : i' = i
              · subst he; exact ⟨Int.le_refl _, fun h => absurd h (Nat.lt_irrefl _)⟩
              · have := h4 i' (by omega) hf
                exact ⟨by omega, fun _ => by omega⟩
            · refine ⟨least, start, rfl, rfl, .inr ⟨by omega, h2, h3, fun i' hi' hf => ?_⟩⟩
              by_cases he : i' = i
              · subst he; exact ⟨by omega, fun h => by omega⟩
              · exact h4 i' (by omega) hf
      · rintro L h ⟨least', start', rfl, rfl, hinv'⟩
        simp only [letO_some, cellsOf?_agg, cellsOf?_int, cellsOf?_bool, cellsOf?_imm, cellsOf?_ref, cellsOf?_nils, faddr_iptr, faddr_ptr, List.drop_succ_cons, List.drop_zero, List.take_succ_cons, List.take_zero, load1_iptr, loadN_iptr, List.length_cons, List.length_nil, Nat.le_refl, if_true, List.getElem?_cons_zero, List.getElem?_cons_succ, List.getD_cons_zero, List.getD_cons_succ, extrF_tup, binF_add, binF_sub, binF_mul, binF_eql, binF_neq, binF_lss, binF_leq, binF_gtr, binF_geq, true_and]
        rw [wrap_i64 (by omega) (by omega)]
        exact ⟨⟨i + 1, least', start', rfl, by omega, rfl, hinv'⟩, by simp <;> omega⟩
    · have hik : i = k + 1 := by omega
      subst hik
      have hone := lf_one hc hk1
      have hb : (least, start) = (pls w ws (k + 1)).getD (k + 1) (0, 0) := by
        refine bst_unique (w := w) (ws := ws) (P := pls w ws k) (j := k + 1) ?_ (pls_bst hc hk1)
        rcases hinv with ⟨_, _, h3⟩ | ⟨h1, h2, h3, h4⟩
        · have := h3 k (by omega); omega
        · exact ⟨h1, h2, h3, h4⟩
      have hps := pls_succ w ws k
      rw [← hb] at hps
      simp only [l22 cellsOf?_int, letO_some]
      obtain ⟨H2, g1, g2⟩ := grow_swap hgA hgB
      refine appendA_oneR g2 (by omega) fun A' H17 gA' hoA => ?_
      obtain ⟨H3, g3, g4⟩ := grow_swap g1 gA'
      refine appendA_oneR g4 (by omega) fun B' H19 gB' hoB => ?_
      rw [wrap_i64 (by omega) (by omega)]
      refine ⟨⟨k + 1, A', B', H3, rfl, by omega, ?_, ?_, fun _ => ⟨hoA, hoB⟩⟩, by simp <;> omega⟩
      · have : fst_ (pls w ws (k + 1)) = fst_ (pls w ws k) ++ [least] := by rw [hps]; simp [fst_]
        rw [this]; exact g3
      · have : snd_ ((pls w ws (k + 1)).drop 1) = snd_ ((pls w ws k).drop 1) ++ [(start : Int)] := by
          rw [hps, List.drop_append_of_le_length (by simp)]; simp [snd_]
        rw [this]; exact gB'
  · have hkn' : k = ws.length := by omega
    subst hkn'
    obtain ⟨hoA, hoB⟩ := hown (by omega)
    obtain ⟨b1, hb1, rfl, rfl⟩ := hgA.own hoA
    obtain ⟨b2, hb2, rfl, rfl⟩ := hgB.own hoB
    have hne : b1 ≠ b2 := Heap.ne_of Heap.put_same hb2
    have hla : (fst_ (pls w ws ws.length)).length = ws.length + 1 := by simp [fst_]
    have hlb : (snd_ ((pls w ws ws.length).drop 1)).length = ws.length := by simp [snd_]
    have hs : slc 1 (.ref 1 b1 0 (ws.length + 1) none) none (some (.int .i64 (ws.length : Int))) none = some (.ref 1 b1 0 ws.length none) := by
      have e : natOf (some (.int .i64 (ws.length : Int))) (ws.length + 1) = some ws.length := by simp [natOf]
      have e2 : natOf none 0 = some 0 := rfl
      simp only [slc, e, e2, Option.bind_some]
      rw [if_pos ⟨by trivial, by omega, by omega, by simp⟩]
      simp
    simp only [hs, letO_some]
    refine endK_freeze (b := b2) (cells := ints (snd_ ((pls w ws ws.length).drop 1))) Heap.put_same ?_
    have e1 : lift (lift (frz1 b2 (ints (snd_ ((pls w ws ws.length).drop 1))))) (.tup [.ref 1 b1 0 ws.length none, .ref 1 b2 0 ws.length none]) = .tup [.ref 1 b1 0 ws.length none, sl (startsL w ws)] := by
      have f1 : frz1 b2 (ints (snd_ ((pls w ws ws.length).drop 1))) (.ref 1 b1 0 ws.length none) = .ref 1 b1 0 ws.length none := by simp [frz1, hne]
      have f2 : frz1 b2 (ints (snd_ ((pls w ws ws.length).drop 1))) (.ref 1 b2 0 ws.length none) = sl (startsL w ws) := by
        have : startsL w ws = snd_ ((pls w ws ws.length).drop 1) := rfl
        rw [this, sl, hlb]
        have h3 : (ints (snd_ ((pls w ws ws.length).drop 1))).length = ws.length := by rw [ints_length, hlb]
        simp only [frz1, Nat.mul_one, Nat.zero_add, h3, Nat.le_refl, and_self, if_true, List.drop_zero]
        rw [List.take_of_length_le (Nat.le_of_eq h3)]
      simp only [lift, List.map, f1, f2]
    rw [e1]
    refine endK_freeze (b := b1) (cells := ints (fst_ (pls w ws ws.length))) (by rw [Heap.put_del hb2]; exact Heap.put_same) ?_
    have e2 : lift (lift (frz1 b1 (ints (fst_ (pls w ws ws.length))))) (.tup [.ref 1 b1 0 ws.length none, sl (startsL w ws)]) = .tup [sl (pricesL w ws), sl (startsL w ws)] := by
      have f1 : frz1 b1 (ints (fst_ (pls w ws ws.length))) (.ref 1 b1 0 ws.length none) = sl (pricesL w ws) := by
        have : pricesL w ws = (fst_ (pls w ws ws.length)).take ws.length := by simp [pricesL, fst_, List.map_take]
        rw [this, sl, List.length_take, hla, Nat.min_eq_left (by omega)]
        have h3 : (ints (fst_ (pls w ws ws.length))).length = ws.length + 1 := by rw [ints_length, hla]
        simp only [frz1, Nat.mul_one, Nat.zero_add, h3, List.drop_zero]
        rw [if_pos ⟨by trivial, by omega⟩, ints_take]
      have f2 : frz1 b1 (ints (fst_ (pls w ws ws.length))) (sl (startsL w ws)) = sl (startsL w ws) := rfl
      simp only [lift, List.map, f1]
      rfl
    rw [e2, Heap.put_del hb2, Heap.put_del hb1]
    exact endK_ret hk

/-- cmp.Less, cmp.isNaN -/
theorem c94 {a : Int} {H : Heap} {K : AV → Heap → Prop} (hk : K (.bool false) H) : ACalls Try.prog 94 [.int .i64 a] H K := by
  apply W94_ok
  unfold W94
  simp only [letO_some, cellsOf?_agg, cellsOf?_int, cellsOf?_bool, cellsOf?_imm, cellsOf?_ref, cellsOf?_nils, faddr_iptr, faddr_ptr, List.drop_succ_cons, List.drop_zero, List.take_succ_cons, List.take_zero, load1_iptr, loadN_iptr, List.length_cons, List.length_nil, Nat.le_refl, if_true, List.getElem?_cons_zero, List.getElem?_cons_succ, List.getD_cons_zero, List.getD_cons_succ, extrF_tup, binF_add, binF_sub, binF_mul, binF_eql, binF_neq, binF_lss, binF_leq, binF_gtr, binF_geq, true_and, bne_self_eq_false]
  exact endK_ret hk
theorem c86 {a b : Int} {H : Heap} {K : AV → Heap → Prop} (hk : K (.bool (decide (a < b))) H) : ACalls Try.prog 86 [.int .i64 a, .int .i64 b] H K := by
  apply W86_ok
  unfold W86
  try simp only [letO_some, cellsOf?_agg, cellsOf?_int, cellsOf?_bool, cellsOf?_imm, cellsOf?_ref, cellsOf?_nils, faddr_iptr, faddr_ptr, List.drop_succ_cons, List.drop_zero, List.take_succ_cons, List.take_zero, load1_iptr, loadN_iptr, List.length_cons, List.length_nil, Nat.le_refl, if_true, List.getElem?_cons_zero, List.getElem?_cons_succ, List.getD_cons_zero, List.getD_cons_succ, extrF_tup, binF_add, binF_sub, binF_mul, binF_eql, binF_neq, binF_lss, binF_leq, binF_gtr, binF_geq, true_and]
  refine c94 ?_
  simp only [letO_some, cellsOf?_agg, cellsOf?_int, cellsOf?_bool, cellsOf?_imm, cellsOf?_ref, cellsOf?_nils, faddr_iptr, faddr_ptr, List.drop_succ_cons, List.drop_zero, List.take_succ_cons, List.take_zero, load1_iptr, loadN_iptr, List.length_cons, List.length_nil, Nat.le_refl, if_true, List.getElem?_cons_zero, List.getElem?_cons_succ, List.getD_cons_zero, List.getD_cons_succ, extrF_tup, binF_add, binF_sub, binF_mul, binF_eql, binF_neq, binF_lss, binF_leq, binF_gtr, binF_geq, true_and, gval_bool, Int.reduceBNe, Int.reduceBEq, pickF_true, pickF_false, reduceIte, Bool.true_eq_false, Bool.false_eq_true, if_false, condA_tt, condA_ff, condG_tt, condG_ff, condG_tt', condG_ff', condG_undef, gval_undef]
  refine exU ?_
  try simp only [letO_some, cellsOf?_agg, cellsOf?_int, cellsOf?_bool, cellsOf?_imm, cellsOf?_ref, cellsOf?_nils, faddr_iptr, faddr_ptr, List.drop_succ_cons, List.drop_zero, List.take_succ_cons, List.take_zero, load1_iptr, loadN_iptr, List.length_cons, List.length_nil, Nat.le_refl, if_true, List.getElem?_cons_zero, List.getElem?_cons_succ, List.getD_cons_zero, List.getD_cons_succ, extrF_tup, binF_add, binF_sub, binF_mul, binF_eql, binF_neq, binF_lss, binF_leq, binF_gtr, binF_geq, true_and, gval_bool, Int.reduceBNe, Int.reduceBEq, pickF_true, pickF_false, reduceIte, Bool.true_eq_false, Bool.false_eq_true, if_false, condA_tt, condA_ff, condG_tt, condG_ff, condG_tt', condG_ff', condG_undef, gval_undef]
  exact endK_ret hk
/-- slices.IsSorted -/
theorem c61 {v : AV} {l : List Int} {H : Heap} {K : AV → Heap → Prop} (hv : Reads H v l) (hl : l.length < 1000) (hs : ∀ k, k + 1 < l.length → l.getD k 0 ≤ l.getD (k + 1) 0) (hk : K (.bool true) H) : ACalls Try.prog 61 [v] H K := by
  apply W61_ok
  unfold W61
  simp only [letO_some, cellsOf?_agg, cellsOf?_int, cellsOf?_bool, cellsOf?_imm, cellsOf?_ref, cellsOf?_nils, faddr_iptr, faddr_ptr, List.drop_succ_cons, List.drop_zero, List.take_succ_cons, List.take_zero, load1_iptr, loadN_iptr, List.length_cons, List.length_nil, Nat.le_refl, if_true, List.getElem?_cons_zero, List.getElem?_cons_succ, List.getD_cons_zero, List.getD_cons_succ, extrF_tup, binF_add, binF_sub, binF_mul, binF_eql, binF_neq, binF_lss, binF_leq, binF_gtr, binF_geq, true_and, hv.len]
  rw [wrap_i64 (by omega) (by omega)]
  refine ⟨fun L H' => ∃ i : Nat, eqs L [.int .i64 ((i : Int) - 1)] ∧ i ≤ l.length ∧ eqs H' H, fun L _ => (iv L 0).toNat, ⟨l.length, rfl, by omega, rfl⟩, ?_⟩
  intro L H' hI
  obtain ⟨i, rfl, hi, rfl⟩ := hI
  simp only [letO_some, cellsOf?_agg, cellsOf?_int, cellsOf?_bool, cellsOf?_imm, cellsOf?_ref, cellsOf?_nils, faddr_iptr, faddr_ptr, List.drop_succ_cons, List.drop_zero, List.take_succ_cons, List.take_zero, load1_iptr, loadN_iptr, List.length_cons, List.length_nil, Nat.le_refl, if_true, List.getElem?_cons_zero, List.getElem?_cons_succ, List.getD_cons_zero, List.getD_cons_succ, extrF_tup, binF_add, binF_sub, binF_mul, binF_eql, binF_neq, binF_lss, binF_leq, binF_gtr, binF_geq, true_and]
  refine condA_t (fun hlt => ?_) (fun hge => ?_)
  · obtain ⟨i, rfl⟩ : ∃ i', i = i' + 2 := ⟨i - 2, by omega⟩
    rw [wrap_i64 (by omega) (by omega)]
    have h1 := hs i (by omega)
    refine hv.get (Heap.le_refl _) (by omega) (by omega) ?_
    rw [show (((i + 2 : Nat) : Int) - 1).toNat = i + 1 by omega]
    refine hv.get (Heap.le_refl _) (by omega) (by omega) ?_
    rw [show (((i + 2 : Nat) : Int) - 1 - 1).toNat = i by omega]
    refine c86 ?_
    have e : decide (l.getD (i + 1) 0 < l.getD i 0) = false := by simp only [decide_eq_false_iff_not]; omega
    rw [e]
    simp only [condA_ff]
    exact ⟨⟨i + 1, by unfold eqs; congr 2; omega, by omega, rfl⟩, by simp <;> omega⟩
  · exact endK_ret hk
end Go.Proofs.Ytlajhbpkogekfaa

namespace Go.Proofs.Ytlajhbpkogekfaa
open Go.Av Line
set_option linter.unusedVariables false
set_option linter.unusedSimpArgs false
set_option maxRecDepth 4000

theorem l88 {x : AV} (hx : cellsOf? x = some [x]) : literalF Try.prog 88 1 [(0, x)] = some [x] := by
  rw [literalF_of (show literalPlan Try.prog 88 = some ([.nils], 1) by kernel_rfl) (by decide) (by simp)]
  simp [fillA, hx, splice, rowOf]
theorem alloc_grow {sz : Nat} {H0 H : Heap} {v : AV} {n b : Nat} {cells cs : List AV} (h : Grow sz H0 H v n cells) (hb : H b = none) : Grow sz (H0.put b cs) (H.put b cs) v n cells := by
  refine ⟨h.1, ?_⟩
  rcases h.2 with ⟨e, e2, rfl⟩ | ⟨e, rfl⟩ | ⟨b3, hb3, e, rfl⟩
  · exact .inl ⟨e, e2, rfl⟩
  · exact .inr (.inl ⟨e, rfl⟩)
  · have hne : b3 ≠ b := Heap.ne_of (Heap.put_same) hb
    exact .inr (.inr ⟨b3, by rw [Heap.put_ne hne]; exact hb3, e, Heap.put_comm hne⟩)
theorem conv_grow {H H1 H' : Heap} {X : AV} {n : Nat} {xs : List AV} (h : Grow 1 H1 H' X n xs) (hle : H.le H1) : conv H H' 2 X = .imm n false (xs.map (conv H H' 1)) := by
  have hn : n = xs.length := by have := h.1; omega
  rcases h.2 with ⟨rfl, h0, rfl⟩ | ⟨rfl, rfl⟩ | ⟨b, hb, rfl, rfl⟩
  · have : xs = [] := List.eq_nil_of_length_eq_zero (by omega)
    subst this
    simp [conv, h0]
  · rfl
  · exact conv_out (fresh_of hle hb) Heap.put_same 1 hn

/-- What 'all' gives. -/
def allV (w : Int) (ws : List Int) (n f fr : Nat) (E : List Nat) (x : AV) : AV :=
  if fr = n then .imm 1 false [x] else .imm (extM w ws n f fr).length false ((extM w ws n f fr).map fun G => sl (up (E ++ G)))

/-- all -/
theorem c88 {w : Int} {ws : List Int} {n : Nat} (hc : chk w ws = 0) (hn : n ≤ ws.length) : ∀ (f fr : Nat) (E : List Nat) (v x : AV) (H : Heap) (K : AV → Heap → Prop), Reads H v ws → Reads H x (up E) → E.getLastD 0 = fr → fr ≤ n → n - fr ≤ f → f ≤ 10 → E.length ≤ fr →
    K (allV w ws n f fr E x) H → ACalls Try.prog 88 [.agg [.int .i64 w, v], .int .i64 n, x] H K := by
  obtain ⟨w1, w2, n1, n2, hws⟩ := chk_ok hc
  intro f
  induction f with
  | zero =>
    intro fr E v x H K hv hx he hfn hf hf10 hel hk
    apply W88_ok
    unfold W88
    have hxl := hx.len
    rw [up_length] at hxl
    have hst : stN E E.length = fr := by have := stN_append (E := E) (r := []); rwa [List.append_nil, he] at this
    simp only [letO_some, cellsOf?_agg, cellsOf?_int, cellsOf?_bool, cellsOf?_imm, cellsOf?_ref, cellsOf?_nils, faddr_iptr, faddr_ptr, List.drop_succ_cons, List.drop_zero, List.take_succ_cons, List.take_zero, load1_iptr, loadN_iptr, List.length_cons, List.length_nil, Nat.le_refl, if_true, List.getElem?_cons_zero, List.getElem?_cons_succ, List.getD_cons_zero, List.getD_cons_succ, extrF_tup, binF_add, binF_sub, binF_mul, binF_eql, binF_neq, binF_lss, binF_leq, binF_gtr, binF_geq, true_and, hxl]
    refine c78 (E := E) hx (Nat.le_refl _) (by omega) ?_
    have hfr : fr = n := by omega
    have e1 : ((fr : Int) == (n : Int)) = true := by rw [hfr]; exact beq_self_eq_true _
    rw [hst]
    simp only [letO_some, cellsOf?_agg, cellsOf?_int, cellsOf?_bool, cellsOf?_imm, cellsOf?_ref, cellsOf?_nils, faddr_iptr, faddr_ptr, List.drop_succ_cons, List.drop_zero, List.take_succ_cons, List.take_zero, load1_iptr, loadN_iptr, List.length_cons, List.length_nil, Nat.le_refl, if_true, List.getElem?_cons_zero, List.getElem?_cons_succ, List.getD_cons_zero, List.getD_cons_succ, extrF_tup, binF_add, binF_sub, binF_mul, binF_eql, binF_neq, binF_lss, binF_leq, binF_gtr, binF_geq, true_and, e1, condA_tt, l88 hx.cells]
    rw [allV, if_pos hfr] at hk
    exact endK_weak (endK_ret hk)
  | succ f ih =>
    intro fr E v x H K hv hx he hfn hf hf10 hel hk
    apply W88_ok
    unfold W88
    have hxl := hx.len
    rw [up_length] at hxl
    have hst : stN E E.length = fr := by have := stN_append (E := E) (r := []); rwa [List.append_nil, he] at this
    simp only [letO_some, cellsOf?_agg, cellsOf?_int, cellsOf?_bool, cellsOf?_imm, cellsOf?_ref, cellsOf?_nils, faddr_iptr, faddr_ptr, List.drop_succ_cons, List.drop_zero, List.take_succ_cons, List.take_zero, load1_iptr, loadN_iptr, List.length_cons, List.length_nil, Nat.le_refl, if_true, List.getElem?_cons_zero, List.getElem?_cons_succ, List.getD_cons_zero, List.getD_cons_succ, extrF_tup, binF_add, binF_sub, binF_mul, binF_eql, binF_neq, binF_lss, binF_leq, binF_gtr, binF_geq, true_and, hxl]
    refine c78 (E := E) hx (Nat.le_refl _) (by omega) ?_
    rw [hst]
    by_cases hfr : fr = n
    · have e1 : ((fr : Int) == (n : Int)) = true := by rw [hfr]; exact beq_self_eq_true _
      simp only [letO_some, cellsOf?_agg, cellsOf?_int, cellsOf?_bool, cellsOf?_imm, cellsOf?_ref, cellsOf?_nils, faddr_iptr, faddr_ptr, List.drop_succ_cons, List.drop_zero, List.take_succ_cons, List.take_zero, load1_iptr, loadN_iptr, List.length_cons, List.length_nil, Nat.le_refl, if_true, List.getElem?_cons_zero, List.getElem?_cons_succ, List.getD_cons_zero, List.getD_cons_succ, extrF_tup, binF_add, binF_sub, binF_mul, binF_eql, binF_neq, binF_lss, binF_leq, binF_gtr, binF_geq, true_and, e1, condA_tt, l88 hx.cells]
      rw [allV, if_pos hfr] at hk
      exact endK_weak (endK_ret hk)
    have e1 : ((fr : Int) == (n : Int)) = false := by simp; omega
    simp only [letO_some, cellsOf?_agg, cellsOf?_int, cellsOf?_bool, cellsOf?_imm, cellsOf?_ref, cellsOf?_nils, faddr_iptr, faddr_ptr, List.drop_succ_cons, List.drop_zero, List.take_succ_cons, List.take_zero, load1_iptr, loadN_iptr, List.length_cons, List.length_nil, Nat.le_refl, if_true, List.getElem?_cons_zero, List.getElem?_cons_succ, List.getD_cons_zero, List.getD_cons_succ, extrF_tup, binF_add, binF_sub, binF_mul, binF_eql, binF_neq, binF_lss, binF_leq, binF_gtr, binF_geq, true_and, e1, condA_ff]
    rw [wrap_i64 (by omega) (by omega)]
    rw [allV, if_neg hfr, extM_succ hfr] at hk
    have hB : ∀ j, (extM w ws n f j).length ≤ 10 ^ f := fun j => extM_len (by omega) f j
    have hp10 : 10 ^ f ≤ 10 ^ 9 := Nat.pow_le_pow_right (by decide) (by omega)
    refine ⟨fun L H' => ∃ (m : Nat) (X : AV) (xs : List AV) (H1 : Heap), eqv L [X, .int .i64 ((fr + 1 + m : Nat) : Int)] ∧ fr + m ≤ n ∧ H.le H1 ∧ Grow 1 H1 H' X xs.length xs ∧ ∀ H2, H1.le H2 → xs.map (conv H H2 1) = (extMTo w ws n f fr m).map fun G => sl (up (E ++ G)), fun L _ => (n + 1 - iv L 1).toNat,
      ⟨0, .nils, [], H, by unfold eqv; congr 2, by omega, Heap.le_refl _, Grow.nils 1 H, fun _ _ => by simp [extMTo]⟩, ?_⟩
    intro L H' hI
    obtain ⟨m, X, xs, H1, rfl, hm, hle1, hg, hxs⟩ := hI
    have hleH : H.le H' := Heap.le_trans hle1 hg.le
    have hxslen : xs.length = (extMTo w ws n f fr m).length := by
      have := congrArg List.length (hxs H1 (Heap.le_refl _)); simpa using this
    have hxb := extMTo_len (w := w) (ws := ws) (n := n) (f := f) (fr := fr) hB m
    have hxb2 : m * 10 ^ f ≤ 10 * 10 ^ f := Nat.mul_le_mul_right _ (by omega)
    simp only [letO_some, cellsOf?_agg, cellsOf?_int, cellsOf?_bool, cellsOf?_imm, cellsOf?_ref, cellsOf?_nils, faddr_iptr, faddr_ptr, List.drop_succ_cons, List.drop_zero, List.take_succ_cons, List.take_zero, load1_iptr, loadN_iptr, List.length_cons, List.length_nil, Nat.le_refl, if_true, List.getElem?_cons_zero, List.getElem?_cons_succ, List.getD_cons_zero, List.getD_cons_succ, extrF_tup, binF_add, binF_sub, binF_mul, binF_eql, binF_neq, binF_lss, binF_leq, binF_gtr, binF_geq, true_and]
    refine condA_t (fun hle => ?_) (fun hgt => ?_)
    · generalize hj : fr + 1 + m = j at *
      have hjn : j ≤ n := by omega
      refine ⟨fun L H'' => ∃ (X : AV) (xs : List AV) (H1 : Heap), eqv L [X] ∧ H.le H1 ∧ Grow 1 H1 H'' X xs.length xs ∧ ∀ H2, H1.le H2 → xs.map (conv H H2 1) = (extMTo w ws n f fr (m + 1)).map fun G => sl (up (E ++ G)), ?_, ?_⟩
      · refine c79 (hv.le hleH) hc (show fr ≤ j by omega) (by omega) ?_
        simp only [letO_some, cellsOf?_agg, cellsOf?_int, cellsOf?_bool, cellsOf?_imm, cellsOf?_ref, cellsOf?_nils, faddr_iptr, faddr_ptr, List.drop_succ_cons, List.drop_zero, List.take_succ_cons, List.take_zero, load1_iptr, loadN_iptr, List.length_cons, List.length_nil, Nat.le_refl, if_true, List.getElem?_cons_zero, List.getElem?_cons_succ, List.getD_cons_zero, List.getD_cons_succ, extrF_tup, binF_add, binF_sub, binF_mul, binF_eql, binF_neq, binF_lss, binF_leq, binF_gtr, binF_geq, true_and]
        refine condA_t (fun hnn => ?_) (fun hneg => ?_)
        · simp only [l22n, l22 cellsOf?_int, letO_some]
          refine ⟨rfl, ?_⟩
          refine appendA_grow (Grow.imm (H := H') (sz := 1) (n := 0) (cells := []) rfl) (reads_src (hx.le hleH)) (by simp [ints, isScalar]) (by simp) (by simp; omega) (by simp; omega) fun t36 H12 g36 => ?_
          rw [List.nil_append, Nat.zero_add, up_length] at g36
          refine appendA_oneR g36 (by omega) fun t39 H13 g39 o39 => ?_
          have hup : up E ++ [(j : Int)] = up (E ++ [j]) := by simp [up]
          rw [hup] at g39
          have hr39 := g39.reads
          obtain ⟨b13, hb13, rfl, rfl⟩ := g39.own o39
          have hle13 : H'.le (H'.put b13 (ints (up (E ++ [j])))) := Heap.le_put_self hb13
          refine ⟨_, ih j (E ++ [j]) v _ _ _ (hv.le (Heap.le_trans hleH hle13)) hr39 (lastD_one E j) hjn (by omega) (by omega) (by simp; omega) ⟨rfl, rfl⟩, ?_⟩
          have hb1 := fresh_of hg.le hb13
          have hbH := fresh_of hle1 hb1
          have hgX := alloc_grow (cs := ints (up (E ++ [j]))) hg hb13
          have hx2 := extMTo_succ w ws n f fr m
          rw [hj, if_neg (by omega)] at hx2
          have hle1' : H.le (H1.put b13 (ints (up (E ++ [j])))) := Heap.le_trans hle1 (Heap.le_put_self hb1)
          by_cases hjn2 : j = n
          · have hallv : allV w ws n f j (E ++ [j]) (.ref 1 b13 0 (E.length + 1) none) = .imm 1 false [.ref 1 b13 0 (E.length + 1) none] := by rw [allV, if_pos hjn2]
            rw [hallv]
            refine appendA_grow hgX (m := 1) (new := [.ref 1 b13 0 (E.length + 1) none]) (by simp [srcOf]) rfl rfl (by omega) (by omega) fun v' H14 g14 => ?_
            refine ⟨v', xs ++ [.ref 1 b13 0 (E.length + 1) none], _, rfl, hle1', by simpa using g14, fun H2 hle2 => ?_⟩
            rw [List.map_append, hxs H2 (Heap.le_trans (Heap.le_put_self hb1) hle2), hx2, hjn2, extM_done, List.map_append]
            have := conv_own (l := up (E ++ [j])) hbH (hle2 _ _ Heap.put_same) 0 (n := E.length + 1) (by simp)
            rw [hjn2] at this
            simp only [List.map_cons, List.map_nil]
            rw [← hjn2] at this ⊢
            rw [this]
          · have hallv : allV w ws n f j (E ++ [j]) (.ref 1 b13 0 (E.length + 1) none) = .imm (extM w ws n f j).length false ((extM w ws n f j).map fun G => sl (up (E ++ [j] ++ G))) := by rw [allV, if_neg hjn2]
            rw [hallv]
            have hBj := hB j
            refine appendA_grow hgX (m := (extM w ws n f j).length) (new := (extM w ws n f j).map fun G => sl (up (E ++ [j] ++ G))) (by simp [srcOf]) (by simp [isScalar, sl]) (by simp) (by omega) (by omega) fun v' H14 g14 => ?_
            refine ⟨v', xs ++ (extM w ws n f j).map fun G => sl (up (E ++ [j] ++ G)), _, rfl, hle1', by simpa using g14, fun H2 hle2 => ?_⟩
            rw [List.map_append, hxs H2 (Heap.le_trans (Heap.le_put_self hb1) hle2), hx2, List.map_append, List.map_map, List.map_map]
            congr 1
            refine List.map_congr_left fun G _ => ?_
            simp only [Function.comp, conv_sl]
            rw [List.append_assoc, List.singleton_append]
        · have hx2 := extMTo_succ w ws n f fr m
          rw [hj, if_pos (by omega), List.append_nil] at hx2
          refine ⟨X, xs, H1, rfl, hle1, hg, ?_⟩
          rw [hx2]; exact hxs
      · rintro L H'' ⟨X', xs', H1', rfl, h1, h2, h3⟩
        simp only [letO_some, cellsOf?_agg, cellsOf?_int, cellsOf?_bool, cellsOf?_imm, cellsOf?_ref, cellsOf?_nils, faddr_iptr, faddr_ptr, List.drop_succ_cons, List.drop_zero, List.take_succ_cons, List.take_zero, load1_iptr, loadN_iptr, List.length_cons, List.length_nil, Nat.le_refl, if_true, List.getElem?_cons_zero, List.getElem?_cons_succ, List.getD_cons_zero, List.getD_cons_succ, extrF_tup, binF_add, binF_sub, binF_mul, binF_eql, binF_neq, binF_lss, binF_leq, binF_gtr, binF_geq, true_and]
        rw [wrap_i64 (by omega) (by omega)]
        exact ⟨⟨m + 1, X', xs', H1', by unfold eqv; congr 3; omega, by omega, h1, h2, h3⟩, by simp <;> omega⟩
    · have hm' : m = n - fr := by omega
      subst hm'
      refine endK_all hleH 2 ?_
      rw [conv_grow hg hle1, hxs H' hg.le, hxslen]
      exact hk
end Go.Proofs.Ytlajhbpkogekfaa

/- Lines as lists of words. -/
set_option linter.unusedVariables false
namespace Go.Proofs.Ytlajhbpkogekfaa
open Go.Av Line

/-- The words from a place to another one. -/
def rng (a b : Nat) : List Int := (List.range (b - a)).map fun i => ((a + i : Nat) : Int)
@[simp] theorem rng_length (a b : Nat) : (rng a b).length = b - a := by simp [rng]
theorem rng_snoc {a b : Nat} (h : a ≤ b) : rng a (b + 1) = rng a b ++ [(b : Int)] := by
  unfold rng
  rw [show b + 1 - a = (b - a) + 1 by omega, List.range_succ, List.map_append]
  simp; omega
theorem rng_nil (a : Nat) : rng a a = [] := by simp [rng]
theorem rng_cons {a b : Nat} (h : a < b) : rng a b = (a : Int) :: rng (a + 1) b := by
  unfold rng
  rw [show b - a = (b - (a + 1)) + 1 by omega, List.range_succ_eq_map, List.map_cons, List.map_map]
  congr 1
  refine List.map_congr_left fun i _ => ?_
  simp only [Function.comp]
  omega
theorem rng_take {a b c : Nat} (h : b ≤ c) : (rng a c).take (b - a) = rng a b := by
  unfold rng
  rw [← List.map_take, List.take_range, Nat.min_eq_left (by omega)]
theorem rng_get {a b k : Nat} (h : k < b - a) : (rng a b).getD k 0 = ((a + k : Nat) : Int) := by
  rw [List.getD_eq_getElem?_getD]
  simp only [rng, List.getElem?_map]
  rw [List.getElem?_range h]; rfl
theorem reads_cells {H : Heap} {v : AV} {l : List Int} (h : Reads H v l) : cellsOf? v = some [v] ∧ isScalar v = true := by
  cases v <;> simp only [Reads] at h <;> first | exact h.elim | exact ⟨rfl, rfl⟩

/-- Rows that are read as the lines of ends. -/
def Rws (H : Heap) (rows : List AV) (E : List Nat) : Prop := rows.length = E.length ∧ ∀ k, k < E.length → ∃ r, rows[k]? = some r ∧ Reads H r (rng (stN E k) (E.getD k 0))
theorem Rws.le {H H' : Heap} {rows : List AV} {E : List Nat} (hl : H.le H') (h : Rws H rows E) : Rws H' rows E :=
  ⟨h.1, fun k hk => by obtain ⟨r, h1, h2⟩ := h.2 k hk; exact ⟨r, h1, h2.le hl⟩⟩
theorem stN_set {E : List Nat} {v k : Nat} {e : Nat} (hv : v < E.length) : stN (E.set v e) k = if k = v + 1 then e else stN E k := by
  unfold stN
  by_cases h0 : k = 0
  · subst h0; simp
  · rw [if_neg h0, if_neg h0, List.getD_eq_getElem?_getD, List.getElem?_set]
    by_cases h1 : k = v + 1
    · rw [if_pos h1, if_pos (by omega), if_pos (by omega)]; rfl
    · rw [if_neg h1, if_neg (by omega), List.getD_eq_getElem?_getD]
theorem getD_set {E : List Nat} {v k : Nat} {e : Nat} (hv : v < E.length) : (E.set v e).getD k 0 = if k = v then e else E.getD k 0 := by
  rw [List.getD_eq_getElem?_getD, List.getElem?_set]
  by_cases h1 : k = v
  · rw [if_pos h1, if_pos h1.symm, if_pos hv]; rfl
  · rw [if_neg h1, if_neg (Ne.symm h1), List.getD_eq_getElem?_getD]
theorem stN_snoc {E : List Nat} {k n : Nat} (hk : k ≤ E.length) : stN (E ++ [n]) k = stN E k := by
  unfold stN
  by_cases h0 : k = 0
  · rw [if_pos h0, if_pos h0]
  · rw [if_neg h0, if_neg h0, getD_append_lt (by omega)]
theorem getD_snoc {E : List Nat} {n : Nat} : (E ++ [n]).getD E.length 0 = n := by
  rw [List.getD_eq_getElem?_getD, List.getElem?_append_right (Nat.le_refl _)]; simp
/-- A line that is empty, behind. -/
theorem Rws.snoc {H : Heap} {rows : List AV} {E : List Nat} {n : Nat} {r : AV} (h : Rws H rows E) (hr : Reads H r (rng (stN E E.length) n)) : Rws H (rows ++ [r]) (E ++ [n]) := by
  refine ⟨by simp [h.1], fun k hk => ?_⟩
  simp only [List.length_append, List.length_singleton] at hk
  by_cases he : k = E.length
  · subst he
    refine ⟨r, by rw [← h.1, List.getElem?_append_right (Nat.le_refl _)]; simp, ?_⟩
    rw [stN_snoc (Nat.le_refl _), getD_snoc]; exact hr
  · obtain ⟨q, h1, h2⟩ := h.2 k (by omega)
    refine ⟨q, by rw [List.getElem?_append_left (by rw [h.1]; omega)]; exact h1, ?_⟩
    rw [stN_snoc (by omega), getD_append_lt (by omega)]; exact h2
/-- The last word of a line goes to the next one. -/
theorem Rws.shift {H : Heap} {rows : List AV} {E : List Nat} {v e : Nat} {r r' : AV} (h : Rws H rows E) (hv : v + 1 < E.length) (he : E.getD v 0 = e + 1)
    (h1 : Reads H r (rng (stN E v) e)) (h2 : Reads H r' (rng e (E.getD (v + 1) 0))) : Rws H ((rows.set (v + 1) r').set v r) (E.set v e) := by
  refine ⟨by simp [h.1], fun k hk => ?_⟩
  simp only [List.length_set] at hk
  rw [stN_set (by omega), getD_set (by omega)]
  by_cases hk1 : k = v
  · subst hk1
    refine ⟨r, by rw [List.getElem?_set_self (by rw [List.length_set, h.1]; omega)], ?_⟩
    rw [if_neg (by omega), if_pos rfl]; exact h1
  · by_cases hk2 : k = v + 1
    · subst hk2
      refine ⟨r', by rw [List.getElem?_set_ne (by omega), List.getElem?_set_self (by rw [h.1]; omega)], ?_⟩
      rw [if_pos rfl, if_neg (by omega)]; exact h2
    · obtain ⟨q, q1, q2⟩ := h.2 k hk
      refine ⟨q, by rw [List.getElem?_set_ne (Ne.symm hk1), List.getElem?_set_ne (Ne.symm hk2)]; exact q1, ?_⟩
      rw [if_neg hk2, if_neg hk1]; exact q2
/-- Ends in order: each line has a word. -/
def inOrd (n : Nat) (E : List Nat) : Prop := (∀ k, k < E.length → stN E k < E.getD k 0) ∧ (∀ k, E.getD k 0 ≤ n)
theorem inOrd.lt {n : Nat} {E : List Nat} (h : inOrd n E) : ∀ k, k < E.length → k < E.getD k 0
  | 0, hk => by have := h.1 0 hk; omega
  | k + 1, hk => by
    have h1 := h.1 (k + 1) hk
    have h2 := h.lt k (by omega)
    have : stN E (k + 1) = E.getD k 0 := by simp [stN]
    omega
theorem inOrd.len {n : Nat} {E : List Nat} (h : inOrd n E) : E.length ≤ n := by
  by_cases h0 : E.length = 0
  · omega
  · have h1 := h.lt (E.length - 1) (by omega)
    have h2 := h.2 (E.length - 1)
    omega
theorem inOrd.mono {n : Nat} {E : List Nat} (h : inOrd n E) : ∀ j k, j < k → k ≤ E.length → E.getD j 0 ≤ stN E k := by
  intro j k
  induction k with
  | zero => intro h; omega
  | succ k ih =>
    intro h1 h2
    have e : stN E (k + 1) = E.getD k 0 := by simp [stN]
    rw [e]
    by_cases he : j = k
    · subst he; exact Nat.le_refl _
    · have := ih (by omega) (by omega)
      have := h.1 k (by omega)
      omega
theorem lineOf_eq {n : Nat} {E : List Nat} (h : inOrd n E) {word k : Nat} (hk : k < E.length) (h1 : stN E k ≤ word) (h2 : word < E.getD k 0) : lineOf E word = k := by
  unfold lineOf
  have : (spansN E E.length).findIdx? (fun p => decide (word < p.2)) = some k := by
    rw [List.findIdx?_eq_some_iff_getElem]
    refine ⟨by simpa using hk, ?_, fun j hj => ?_⟩
    · have := spansN_get (E := E) hk
      rw [List.getElem?_eq_getElem (by simpa using hk)] at this
      rw [Option.some.inj this]
      simpa [spanN] using h2
    · have := spansN_get (E := E) (show j < E.length by omega)
      rw [List.getElem?_eq_getElem (by simp; omega)] at this
      rw [Option.some.inj this]
      have hm := h.mono j k hj (by omega)
      intro hh
      have hh2 : word < E.getD j 0 := of_decide_eq_true hh
      omega
  rw [this]; rfl
end Go.Proofs.Ytlajhbpkogekfaa

namespace Go.Proofs.Ytlajhbpkogekfaa
open Go.Av Line
set_option linter.unusedVariables false
set_option linter.unusedSimpArgs false
set_option maxRecDepth 4000

/-- The first rows. -/
def RwK (H : Heap) (rows : List AV) (E : List Nat) (k : Nat) : Prop := rows.length = k ∧ ∀ j, j < k → ∃ r, rows[j]? = some r ∧ Reads H r (rng (stN E j) (E.getD j 0))
theorem RwK.snoc {H H' : Heap} {rows : List AV} {E : List Nat} {k : Nat} {r : AV} (hl : H.le H') (h : RwK H rows E k) (hr : Reads H' r (rng (stN E k) (E.getD k 0))) : RwK H' (rows ++ [r]) E (k + 1) := by
  refine ⟨by simp [h.1], fun j hj => ?_⟩
  by_cases he : j = k
  · subst he
    exact ⟨r, by rw [← h.1, List.getElem?_append_right (Nat.le_refl _)]; simp, hr⟩
  · obtain ⟨q, h1, h2⟩ := h.2 j (by omega)
    exact ⟨q, by rw [List.getElem?_append_left (by rw [h.1]; omega)]; exact h1, h2.le hl⟩
def rowLen (r : AV) : Nat := match lenA r with
  | some (.int _ n) => n.toNat
  | _ => 0
theorem rowLen_reads {H : Heap} {r : AV} {l : List Int} (h : Reads H r l) : rowLen r = l.length := by
  simp [rowLen, h.len]
theorem row_at {X : AV} {b m v : Nat} {rows : List AV} {r : AV} {H : Heap} (hX : X = .ref 1 b 0 m none) (hb : H b = some rows) (hv : v < m) (hr : rows[v]? = some r) : idx 1 X (.int .i64 (v : Int)) = some (.ptr b v) ∧ load1 (.ptr b v) H = some r := by
  subst hX
  refine ⟨?_, load1_at hb hr⟩
  rw [idx_ref hv]; simp
theorem splice_set {rows : List AV} {v : Nat} {r : AV} (hv : v < rows.length) : splice rows v [r] = rows.set v r := by
  have := rows_set (f := fun x : AV => [x]) (sz := 1) (fun _ => rfl) (l := rows) (i := v) (y := r) hv
  have fl : ∀ l : List AV, l.flatMap (fun x => [x]) = l := fun l => by
    induction l with
    | nil => rfl
    | cons a l ih => simp [List.flatMap_cons]
  rw [fl, fl, Nat.mul_one] at this
  exact this
/-- What growO says of the errors. -/
theorem growO_err {w : Int} {ws ends : List Int} {word b e1 e2 e3 : Int} (h1 : e1 = if endedE w ws ends ≠ 0 then endedE w ws ends else if 0 ≤ word ∧ word ≤ (ws.length : Int) - 1 then 0 else 2)
    (h2 : e2 = if e1 ≠ 0 then e1 else if 1 ≤ b ∧ b ≤ 40 then 0 else 1) (h3 : e3 = if e2 ≠ 0 then e2 else if w < ws.getD word.toNat 0 + b then 12 else 0) :
    growO w ws ends word b = if e3 ≠ 0 then (([] : List Int), (0 : Int), e3) else (up (growE w ws ends word.toNat b).1, ((growE w ws ends word.toNat b).2 : Int), (0 : Int)) := by
  unfold growO
  by_cases a1 : endedE w ws ends ≠ 0
  · rw [if_pos a1] at h1
    rw [if_pos a1]
    rw [if_pos (by omega)] at h2
    rw [if_pos (by omega)] at h3
    rw [if_pos (by omega), h3, h2, h1]
  · rw [if_neg a1] at h1
    rw [if_neg a1]
    by_cases a2 : 0 ≤ word ∧ word ≤ (ws.length : Int) - 1
    · rw [if_pos a2] at h1
      rw [if_neg (by omega)]
      rw [if_neg (by omega)] at h2
      by_cases a3 : 1 ≤ b ∧ b ≤ 40
      · rw [if_pos a3] at h2
        rw [if_neg (by omega)]
        rw [if_neg (by omega)] at h3
        by_cases a4 : w < ws.getD word.toNat 0 + b
        · rw [if_pos a4] at h3
          rw [if_pos a4, if_pos (by omega), h3]
        · rw [if_neg a4] at h3
          rw [if_neg a4, if_neg (by omega)]
      · rw [if_neg a3] at h2
        rw [if_pos (by omega)]
        rw [if_pos (by omega)] at h3
        rw [if_pos (by omega), h3, h2]
    · rw [if_neg a2] at h1
      rw [if_pos (by omega)]
      rw [if_pos (by omega)] at h2
      rw [if_pos (by omega)] at h3
      rw [if_pos (by omega), h3, h2, h1]

/-- Grow, of the reference -/
theorem c33 {w word by_ : Int} {v u : AV} {ws ends : List Int} {H : Heap} {K : AV → Heap → Prop} (hv : Reads H v ws) (hu : Reads H u ends) (hlen : ws.length < 2 ^ 60) (hlen2 : ends.length < 2 ^ 60) (hwr : -9223372036854775808 ≤ word ∧ word ≤ 9223372036854775807)
    (hk : K (.tup [sl (growO w ws ends word by_).1, .int .i64 (growO w ws ends word by_).2.1, .int .i64 (growO w ws ends word by_).2.2]) H) :
    ACalls Try.prog 33 [.agg [.int .i64 w, v], u, .int .i64 word, .int .i64 by_] H K := by
  apply W33_ok
  unfold W33
  simp only [letO_some, cellsOf?_agg, cellsOf?_int, cellsOf?_bool, cellsOf?_imm, cellsOf?_ref, cellsOf?_nils, faddr_iptr, faddr_ptr, List.drop_succ_cons, List.drop_zero, List.take_succ_cons, List.take_zero, load1_iptr, loadN_iptr, List.length_cons, List.length_nil, Nat.le_refl, if_true, List.getElem?_cons_zero, List.getElem?_cons_succ, List.getD_cons_zero, List.getD_cons_succ, extrF_tup, binF_add, binF_sub, binF_mul, binF_eql, binF_neq, binF_lss, binF_leq, binF_gtr, binF_geq, true_and]
  intro bt hbt
  have hleT := Heap.le_put_self (cs := [.int .i64 w, v]) hbt
  have hT : (H.put bt [.int .i64 w, v]) bt = some [.int .i64 w, v] := Heap.put_same
  generalize hH2 : H.put bt [.int .i64 w, v] = H2 at *
  have hL : loadN 2 (.ptr bt 0) H2 = some (.agg [.int .i64 w, v]) := loadN_at (cells := [.int .i64 w, v]) hT
  have lw0 : load1 (.ptr bt (0 + 0)) H2 = some (.int .i64 w) := load1_at hT rfl
  have lw1 : load1 (.ptr bt (0 + 1)) H2 = some v := load1_at hT rfl
  have hv2 := hv.le hleT
  have hu2 := hu.le hleT
  simp only [hL, letO_some]
  refine c52 hv2 hu2 hlen hlen2 ?_
  simp only [letO_some, cellsOf?_agg, cellsOf?_int, cellsOf?_bool, cellsOf?_imm, cellsOf?_ref, cellsOf?_nils, faddr_iptr, faddr_ptr, List.drop_succ_cons, List.drop_zero, List.take_succ_cons, List.take_zero, load1_iptr, loadN_iptr, List.length_cons, List.length_nil, Nat.le_refl, if_true, List.getElem?_cons_zero, List.getElem?_cons_succ, List.getD_cons_zero, List.getD_cons_succ, extrF_tup, binF_add, binF_sub, binF_mul, binF_eql, binF_neq, binF_lss, binF_leq, binF_gtr, binF_geq, true_and]
  generalize he : endedE w ws ends = e
  obtain ⟨e1, he1⟩ : ∃ e1 : Int, e1 = if e ≠ 0 then e else if 0 ≤ word ∧ word ≤ (ws.length : Int) - 1 then 0 else 2 := ⟨_, rfl⟩
  obtain ⟨e2, he2⟩ : ∃ e2 : Int, e2 = if e1 ≠ 0 then e1 else if 1 ≤ by_ ∧ by_ ≤ 40 then 0 else 1 := ⟨_, rfl⟩
  obtain ⟨e3, he3⟩ : ∃ e3 : Int, e3 = if e2 ≠ 0 then e2 else if w < ws.getD word.toNat 0 + by_ then 12 else 0 := ⟨_, rfl⟩
  have hgo := growO_err (by rw [he]; exact he1) he2 he3
  refine ⟨fun L h => eqs L [.int .i64 e1] ∧ eqs h H2, ?_, ?_⟩
  · by_cases h0 : e = 0
    · have e' : (e == 0) = true := by simpa using h0
      rw [if_neg (by omega)] at he1
      simp only [e', gval_bool, if_true, letO_some, lw1, hv.len, binF_sub, condG_tt]
      refine exJ ?_
      rw [wrap_i64 (by omega) (by omega)]
      refine c77 ?_
      by_cases hin : 0 ≤ word ∧ word ≤ (ws.length : Int) - 1
      · rw [decide_eq_true hin]
        rw [if_pos hin] at he1
        simp only [not_bool, Bool.not_true, gval_bool, Int.reduceBNe, Int.reduceBEq, pickF_true, pickF_false, reduceIte, Bool.true_eq_false, Bool.false_eq_true, if_false, condA_tt, condA_ff, condG_tt, condG_ff, condG_tt', condG_ff', condG_undef, gval_undef, letO_some]
        exact ⟨by rw [he1, h0]; rfl, rfl⟩
      · rw [decide_eq_false hin]
        rw [if_neg hin] at he1
        simp only [not_bool, Bool.not_false, gval_bool, Int.reduceBNe, Int.reduceBEq, pickF_true, pickF_false, reduceIte, Bool.true_eq_false, Bool.false_eq_true, if_false, condA_tt, condA_ff, condG_tt, condG_ff, condG_tt', condG_ff', condG_undef, gval_undef, letO_some]
        exact ⟨by rw [he1]; rfl, rfl⟩
    · have e' : (e == 0) = false := by simpa using h0
      rw [if_pos h0] at he1
      simp only [e', gval_bool, Bool.false_eq_true, if_false, letO_some, condG_ff]
      refine exU ?_
      simp only [gval_bool, Bool.false_eq_true, if_false, letO_some, pickF_false, condA_ff]
      exact ⟨by rw [he1]; rfl, rfl⟩
  rintro L h ⟨rfl, rfl⟩
  simp only [letO_some, cellsOf?_agg, cellsOf?_int, cellsOf?_bool, cellsOf?_imm, cellsOf?_ref, cellsOf?_nils, faddr_iptr, faddr_ptr, List.drop_succ_cons, List.drop_zero, List.take_succ_cons, List.take_zero, load1_iptr, loadN_iptr, List.length_cons, List.length_nil, Nat.le_refl, if_true, List.getElem?_cons_zero, List.getElem?_cons_succ, List.getD_cons_zero, List.getD_cons_succ, extrF_tup, binF_add, binF_sub, binF_mul, binF_eql, binF_neq, binF_lss, binF_leq, binF_gtr, binF_geq, true_and]
  refine ⟨fun L h' => eqs L [.int .i64 e2] ∧ eqs h' h, ?_, ?_⟩
  · by_cases h0 : e1 = 0
    · have e' : (e1 == 0) = true := by simpa using h0
      rw [if_neg (by omega)] at he2
      simp only [e', gval_bool, if_true, letO_some, condG_tt]
      refine exJ ?_
      refine c77 ?_
      by_cases hin : 1 ≤ by_ ∧ by_ ≤ 40
      · rw [decide_eq_true hin]
        rw [if_pos hin] at he2
        simp only [not_bool, Bool.not_true, gval_bool, Int.reduceBNe, Int.reduceBEq, pickF_true, pickF_false, reduceIte, Bool.true_eq_false, Bool.false_eq_true, if_false, condA_tt, condA_ff, condG_tt, condG_ff, condG_tt', condG_ff', condG_undef, gval_undef, letO_some]
        exact ⟨by rw [he2, h0]; rfl, rfl⟩
      · rw [decide_eq_false hin]
        rw [if_neg hin] at he2
        simp only [not_bool, Bool.not_false, gval_bool, Int.reduceBNe, Int.reduceBEq, pickF_true, pickF_false, reduceIte, Bool.true_eq_false, Bool.false_eq_true, if_false, condA_tt, condA_ff, condG_tt, condG_ff, condG_tt', condG_ff', condG_undef, gval_undef, letO_some]
        exact ⟨by rw [he2]; rfl, rfl⟩
    · have e' : (e1 == 0) = false := by simpa using h0
      rw [if_pos h0] at he2
      simp only [e', gval_bool, Bool.false_eq_true, if_false, letO_some, condG_ff]
      refine exU ?_
      simp only [gval_bool, Bool.false_eq_true, if_false, letO_some, pickF_false, condA_ff]
      exact ⟨by rw [he2]; rfl, rfl⟩
  rintro L h' ⟨rfl, rfl⟩
  simp only [letO_some, cellsOf?_agg, cellsOf?_int, cellsOf?_bool, cellsOf?_imm, cellsOf?_ref, cellsOf?_nils, faddr_iptr, faddr_ptr, List.drop_succ_cons, List.drop_zero, List.take_succ_cons, List.take_zero, load1_iptr, loadN_iptr, List.length_cons, List.length_nil, Nat.le_refl, if_true, List.getElem?_cons_zero, List.getElem?_cons_succ, List.getD_cons_zero, List.getD_cons_succ, extrF_tup, binF_add, binF_sub, binF_mul, binF_eql, binF_neq, binF_lss, binF_leq, binF_gtr, binF_geq, true_and]
  have facts : e2 = 0 → e = 0 ∧ (0 ≤ word ∧ word ≤ (ws.length : Int) - 1) ∧ (1 ≤ by_ ∧ by_ ≤ 40) := by
    intro h0
    have a : e1 = 0 ∧ (1 ≤ by_ ∧ by_ ≤ 40) := by
      split at he2
      · omega
      · split at he2
        · exact ⟨by omega, by assumption⟩
        · omega
    split at he1
    · omega
    · split at he1
      · exact ⟨by omega, by assumption, a.2⟩
      · omega
  refine ⟨fun L h => eqs L [.int .i64 e3] ∧ eqs h h', ?_, ?_⟩
  · by_cases h0 : e2 = 0
    · have e' : (e2 == 0) = true := by simpa using h0
      rw [if_neg (by omega)] at he3
      obtain ⟨f1, f2, f3⟩ := facts h0
      obtain ⟨hc, _, _⟩ := ended_ok (by rw [he, f1] : endedE w ws ends = 0)
      obtain ⟨w1, w2, n1, n2, hws⟩ := chk_ok hc
      have hwx : 1 ≤ ws.getD word.toNat 0 ∧ ws.getD word.toNat 0 ≤ w := by
        have : ws.getD word.toNat 0 ∈ ws := by rw [List.getD_eq_getElem?_getD]; simp [show word.toNat < ws.length by omega]
        exact hws _ this
      simp only [e', gval_bool, if_true, letO_some, lw1]
      refine hv2.get (Heap.le_refl _) f2.1 (by omega) ?_
      simp only [gval_bool, if_true, letO_some, binF_add, lw0, binF_gtr, pickF_true]
      rw [wrap_i64 (by omega) (by omega)]
      refine condA_t (fun hgt => ?_) (fun hle => ?_)
      · rw [if_pos hgt] at he3
        exact ⟨by rw [he3]; rfl, rfl⟩
      · rw [if_neg hle] at he3
        exact ⟨by rw [he3, h0]; rfl, rfl⟩
    · have e' : (e2 == 0) = false := by simpa using h0
      rw [if_pos h0] at he3
      simp only [e', gval_bool, Bool.false_eq_true, if_false, letO_some, pickF_false, condA_ff]
      exact ⟨by rw [he3]; rfl, rfl⟩
  rintro L h ⟨rfl, rfl⟩
  simp only [letO_some, cellsOf?_agg, cellsOf?_int, cellsOf?_bool, cellsOf?_imm, cellsOf?_ref, cellsOf?_nils, faddr_iptr, faddr_ptr, List.drop_succ_cons, List.drop_zero, List.take_succ_cons, List.take_zero, load1_iptr, loadN_iptr, List.length_cons, List.length_nil, Nat.le_refl, if_true, List.getElem?_cons_zero, List.getElem?_cons_succ, List.getD_cons_zero, List.getD_cons_succ, extrF_tup, binF_add, binF_sub, binF_mul, binF_eql, binF_neq, binF_lss, binF_leq, binF_gtr, binF_geq, true_and, condA_bool]
  refine ⟨fun hne => ?_, fun hne => ?_⟩
  · have hne : e3 ≠ 0 := by simpa using hne
    rw [hgo, if_pos hne] at hk
    exact endK_nil3 hleT hk
  have h3 : e3 = 0 := by simpa using hne
  rw [hgo, if_neg (by omega)] at hk
  have h2z : e2 = 0 := by
    split at he3
    · omega
    · omega
  have hfit : ¬ w < ws.getD word.toNat 0 + by_ := by
    rw [if_neg (by omega)] at he3
    intro hh
    rw [if_pos hh] at he3
    omega
  obtain ⟨f1, f2, f3⟩ := facts h2z
  have hend : endedE w ws ends = 0 := by rw [he, f1]
  obtain ⟨hc, hsc, hov⟩ := ended_ok hend
  obtain ⟨w1, w2, n1, n2, hws⟩ := chk_ok hc
  obtain ⟨wd, rfl⟩ : ∃ n : Nat, word = n := ⟨word.toNat, by omega⟩
  rw [Int.toNat_natCast] at hfit hk
  have hwd : wd < ws.length := by omega
  have hwx : 1 ≤ ws.getD wd 0 ∧ ws.getD wd 0 ≤ w := by
    have : ws.getD wd 0 ∈ ws := by rw [List.getD_eq_getElem?_getD]; simp [hwd]
    exact hws _ this
  -- the text with the longer word
  simp only [l22n, letO_some, cellsOf?_agg, cellsOf?_int, cellsOf?_bool, cellsOf?_imm, cellsOf?_ref, cellsOf?_nils, faddr_iptr, faddr_ptr, List.drop_succ_cons, List.drop_zero, List.take_succ_cons, List.take_zero, load1_iptr, loadN_iptr, List.length_cons, List.length_nil, Nat.le_refl, if_true, List.getElem?_cons_zero, List.getElem?_cons_succ, List.getD_cons_zero, List.getD_cons_succ, extrF_tup, binF_add, binF_sub, binF_mul, binF_eql, binF_neq, binF_lss, binF_leq, binF_gtr, binF_geq, true_and, lw1]
  refine appendA_growR (Grow.imm (sz := 1) (n := 0) (cells := []) rfl) (reads_src hv2) (by simp [ints, isScalar]) (by simp) n1 (by omega) (by omega) fun v' H20 hg20 hr20 => ?_
  rw [Nat.zero_add, List.nil_append] at hg20
  obtain ⟨bw, hbw, rfl, rfl⟩ := hg20.own hr20
  have hne1 : bt ≠ bw := Heap.ne_of hT hbw
  refine storeA_of (cs := [.ref 1 bw 0 ws.length none]) (by rw [Heap.put_ne hne1]; exact hT) rfl rfl rfl (by simp) ?_
  have hsp1 : splice [AV.int .i64 w, v] (0 + 1) [.ref 1 bw 0 ws.length none] = [.int .i64 w, .ref 1 bw 0 ws.length none] := rfl
  rw [hsp1]
  have lx1 : load1 (.ptr bt (0 + 1)) ((h.put bw (ints ws)).put bt [.int .i64 w, .ref 1 bw 0 ws.length none]) = some (.ref 1 bw 0 ws.length none) := load1_at Heap.put_same rfl
  have hbwx : ((h.put bw (ints ws)).put bt [.int .i64 w, .ref 1 bw 0 ws.length none]) bw = some (ints ws) := by rw [Heap.put_ne (Ne.symm hne1)]; exact Heap.put_same
  have hwsx : ws[wd]? = some (ws.getD wd 0) := by rw [List.getD_eq_getElem?_getD, List.getElem?_eq_getElem hwd]; rfl
  have lx2 : load1 (.ptr bw (0 + wd * 1)) ((h.put bw (ints ws)).put bt [.int .i64 w, .ref 1 bw 0 ws.length none]) = some (.int .i64 (ws.getD wd 0)) := load1_at hbwx (by rw [Nat.zero_add, Nat.mul_one, ints_getElem?, hwsx]; rfl)
  simp only [lx1, idx_ref hwd, lx2, letO_some, cellsOf?_agg, cellsOf?_int, cellsOf?_bool, cellsOf?_imm, cellsOf?_ref, cellsOf?_nils, faddr_iptr, faddr_ptr, List.drop_succ_cons, List.drop_zero, List.take_succ_cons, List.take_zero, load1_iptr, loadN_iptr, List.length_cons, List.length_nil, Nat.le_refl, if_true, List.getElem?_cons_zero, List.getElem?_cons_succ, List.getD_cons_zero, List.getD_cons_succ, extrF_tup, binF_add, binF_sub, binF_mul, binF_eql, binF_neq, binF_lss, binF_leq, binF_gtr, binF_geq, true_and]
  rw [wrap_i64 (n := ws.getD wd 0 + by_) (by omega) (by omega)]
  refine storeA_of (cs := [.int .i64 (ws.getD wd 0 + by_)]) hbwx rfl rfl rfl (by simp; omega) ?_
  have hsp2 : splice (ints ws) (0 + wd * 1) [.int .i64 (ws.getD wd 0 + by_)] = ints (wide ws wd by_) := by
    have := rows_set (f := fun x : Int => [AV.int .i64 x]) (sz := 1) (fun _ => rfl) (l := ws) (i := wd) (y := ws.getD wd 0 + by_) hwd
    rw [← ints_flat, ← ints_flat] at this
    rw [Nat.zero_add]; exact this
  rw [hsp2, Heap.put_comm hne1, Heap.put_put]
  have hT2 : ((h.put bw (ints (wide ws wd by_))).put bt [.int .i64 w, .ref 1 bw 0 ws.length none]) bt = some [.int .i64 w, .ref 1 bw 0 ws.length none] := Heap.put_same
  have hW2 : ((h.put bw (ints (wide ws wd by_))).put bt [.int .i64 w, .ref 1 bw 0 ws.length none]) bw = some (ints (wide ws wd by_)) := by rw [Heap.put_ne (Ne.symm hne1)]; exact Heap.put_same
  have hbwH : H bw = none := by
    cases hx : H bw with
    | none => rfl
    | some c => rw [hleT _ _ hx] at hbw; cases hbw
  have hle22 : H.le ((h.put bw (ints (wide ws wd by_))).put bt [.int .i64 w, .ref 1 bw 0 ws.length none]) := by
    rw [← hH2]
    exact Heap.le_put (Heap.le_put (Heap.le_put_self hbt) hbwH) hbt
  generalize ((h.put bw (ints (wide ws wd by_))).put bt [.int .i64 w, .ref 1 bw 0 ws.length none]) = HB at *
  have hwl' : (wide ws wd by_).length = ws.length := by simp [wide]
  have hc' : chk w (wide ws wd by_) = 0 := chk_set hc ⟨by omega, by omega⟩
  have hRw : Reads HB (.ref 1 bw 0 ws.length none) (wide ws wd by_) := ⟨rfl, by omega, _, hW2, by simp; omega, by rw [List.drop_zero, ← hwl', ← ints_length, List.take_length]⟩
  have hLt : ∀ {H5 : Heap}, HB.le H5 → loadN 2 (.ptr bt 0) H5 = some (.agg [.int .i64 w, .ref 1 bw 0 ws.length none]) := fun hl => loadN_at (cells := [.int .i64 w, .ref 1 bw 0 ws.length none]) (hl _ _ hT2)
  have huB := hu.le hle22
  -- the ends
  have hup := ended_up hend
  have hElen : (toN ends).length = ends.length := toN_len ends
  have hsorted := scan_sorted (Int.le_refl 0) hsc
  have hEle := ended_le hend
  have hsh := ended_short hend
  have hne2 : ends ≠ [] := by rintro rfl; simp at hsh
  have hlast : (toN ends).getD ((toN ends).length - 1) 0 = ws.length := by
    have h1 := up_getD (toN ends) (ends.length - 1)
    rw [hup, scan_last hsc hne2] at h1
    rw [hElen]; omega
  have hfirst : 0 < (toN ends).getD 0 0 := by
    have h1 := up_getD (toN ends) 0
    have h2 := scan_first (Int.le_refl 0) hsc hne2
    rw [hup] at h1
    omega
  have hord : inOrd ws.length (toN ends) := by
    refine ⟨fun k hk => ?_, fun k => (stN_le hEle k).2⟩
    unfold stN
    split
    · rename_i e0; rw [e0]; exact hfirst
    · have := hsorted (k - 1) (by omega)
      rwa [show k - 1 + 1 = k by omega] at this
  have hgE : gr w (wide ws wd by_) ws.length (toN ends) (lineOf (toN ends) wd) (stN (toN ends) (lineOf (toN ends) wd)) = growE w ws ends wd by_ := rfl
  have hlo := (lineOf_spec hend hwd).2
  have hE0 : 0 < (toN ends).length := by rw [hElen]; exact List.length_pos_iff.2 hne2
  have huE : Reads HB u (up (toN ends)) := by rw [hup]; exact huB
  have hul : ends.length = (toN ends).length := hElen.symm
  rw [hul] at hlo hsh
  have hgen : ∀ k, ends.getD k 0 = ((toN ends).getD k 0 : Nat) := fun k => by rw [← up_getD, hup]
  generalize toN ends = E at *
  generalize growE w ws ends wd by_ = R at *
  generalize wide ws wd by_ = ws' at *
  refine ⟨fun L H' => ∃ (k : Nat) (X : AV) (rows : List AV) (H1 : Heap), eqs L [.int .i64 (if wd < stN E k then (lineOf E wd : Nat) else 0 : Nat), X, .int .i64 k] ∧ k ≤ E.length ∧ HB.le H1 ∧ Grow 1 H1 H' X k rows ∧ RwK H1 rows E k ∧ (0 < k → isOwn X), fun L _ => (E.length - iv L 2).toNat,
    ⟨0, .nils, [], HB, rfl, by omega, Heap.le_refl _, Grow.nils 1 HB, ⟨rfl, fun j hj => absurd hj (by omega)⟩, fun h => absurd h (by omega)⟩, ?_⟩
  intro L H' hI
  obtain ⟨k, X, rows, H1, rfl, hkE, hle1, hg, hrw, hown⟩ := hI
  have hleB := Heap.le_trans hle1 hg.le
  simp only [letO_some, cellsOf?_agg, cellsOf?_int, cellsOf?_bool, cellsOf?_imm, cellsOf?_ref, cellsOf?_nils, faddr_iptr, faddr_ptr, List.drop_succ_cons, List.drop_zero, List.take_succ_cons, List.take_zero, load1_iptr, loadN_iptr, List.length_cons, List.length_nil, Nat.le_refl, if_true, List.getElem?_cons_zero, List.getElem?_cons_succ, List.getD_cons_zero, List.getD_cons_succ, extrF_tup, binF_add, binF_sub, binF_mul, binF_eql, binF_neq, binF_lss, binF_leq, binF_gtr, binF_geq, true_and, (huE.le hleB).len, up_length]
  refine condA_t (fun hlt => ?_) (fun hge => ?_)
  · have hkl : k < E.length := by omega
    have hEk := hord.2 k
    have hstk := hord.1 k hkl
    refine c78 (E := E) (huE.le hleB) (by omega) (by omega) ?_
    try simp only [letO_some, cellsOf?_agg, cellsOf?_int, cellsOf?_bool, cellsOf?_imm, cellsOf?_ref, cellsOf?_nils, faddr_iptr, faddr_ptr, List.drop_succ_cons, List.drop_zero, List.take_succ_cons, List.take_zero, load1_iptr, loadN_iptr, List.length_cons, List.length_nil, Nat.le_refl, if_true, List.getElem?_cons_zero, List.getElem?_cons_succ, List.getD_cons_zero, List.getD_cons_succ, extrF_tup, binF_add, binF_sub, binF_mul, binF_eql, binF_neq, binF_lss, binF_leq, binF_gtr, binF_geq, true_and]
    refine ⟨fun L h => ∃ (i : Nat) (Y : AV), eqs L [Y, .int .i64 (if wd < i then (lineOf E wd : Nat) else 0 : Nat), .int .i64 i] ∧ stN E k ≤ i ∧ i ≤ E.getD k 0 ∧ Grow 1 H' h Y (i - stN E k) (ints (rng (stN E k) i)), fun L _ => (E.getD k 0 - iv L 2).toNat,
      ⟨stN E k, .nils, rfl, Nat.le_refl _, by omega, by rw [Nat.sub_self, rng_nil]; exact Grow.nils 1 H'⟩, ?_⟩
    intro L h2 hJ
    obtain ⟨i, Y, rfl, hi1, hi2, hgY⟩ := hJ
    simp only [letO_some, cellsOf?_agg, cellsOf?_int, cellsOf?_bool, cellsOf?_imm, cellsOf?_ref, cellsOf?_nils, faddr_iptr, faddr_ptr, List.drop_succ_cons, List.drop_zero, List.take_succ_cons, List.take_zero, load1_iptr, loadN_iptr, List.length_cons, List.length_nil, Nat.le_refl, if_true, List.getElem?_cons_zero, List.getElem?_cons_succ, List.getD_cons_zero, List.getD_cons_succ, extrF_tup, binF_add, binF_sub, binF_mul, binF_eql, binF_neq, binF_lss, binF_leq, binF_gtr, binF_geq, true_and]
    refine (huE.le (Heap.le_trans hleB hgY.le)).get (Heap.le_refl _) (by omega) (by simp; omega) ?_
    rw [Int.toNat_natCast, up_getD]
    simp only [letO_some, cellsOf?_agg, cellsOf?_int, cellsOf?_bool, cellsOf?_imm, cellsOf?_ref, cellsOf?_nils, faddr_iptr, faddr_ptr, List.drop_succ_cons, List.drop_zero, List.take_succ_cons, List.take_zero, load1_iptr, loadN_iptr, List.length_cons, List.length_nil, Nat.le_refl, if_true, List.getElem?_cons_zero, List.getElem?_cons_succ, List.getD_cons_zero, List.getD_cons_succ, extrF_tup, binF_add, binF_sub, binF_mul, binF_eql, binF_neq, binF_lss, binF_leq, binF_gtr, binF_geq, true_and]
    refine condA_t (fun hlt2 => ?_) (fun hge2 => ?_)
    · have hil : i < E.getD k 0 := by omega
      refine ⟨fun L h3 => ∃ Y', eqs L [Y', .int .i64 (if wd < i + 1 then (lineOf E wd : Nat) else 0 : Nat)] ∧ Grow 1 H' h3 Y' (i + 1 - stN E k) (ints (rng (stN E k) (i + 1))), ?_, ?_⟩
      · simp only [l22 cellsOf?_int, letO_some]
        refine appendA_one hgY (by omega) fun Y' H34 hgY' => ?_
        rw [← rng_snoc hi1, show i - stN E k + 1 = i + 1 - stN E k by omega] at hgY'
        simp only [condA_bool]
        refine ⟨fun he => ?_, fun he => ?_⟩
        · have he : i = wd := by simp at he; omega
          have := lineOf_eq hord hkl (word := wd) (by omega) (by omega)
          rw [if_pos (by omega), this]
          exact ⟨Y', rfl, hgY'⟩
        · have he : i ≠ wd := by intro hh; apply he; simp [hh]
          refine ⟨Y', ?_, hgY'⟩
          by_cases hw : wd < i
          · rw [if_pos hw, if_pos (by omega)]; rfl
          · rw [if_neg hw, if_neg (by omega)]; rfl
      · rintro L h3 ⟨Y', rfl, hgY'⟩
        simp only [letO_some, cellsOf?_agg, cellsOf?_int, cellsOf?_bool, cellsOf?_imm, cellsOf?_ref, cellsOf?_nils, faddr_iptr, faddr_ptr, List.drop_succ_cons, List.drop_zero, List.take_succ_cons, List.take_zero, load1_iptr, loadN_iptr, List.length_cons, List.length_nil, Nat.le_refl, if_true, List.getElem?_cons_zero, List.getElem?_cons_succ, List.getD_cons_zero, List.getD_cons_succ, extrF_tup, binF_add, binF_sub, binF_mul, binF_eql, binF_neq, binF_lss, binF_leq, binF_gtr, binF_geq, true_and]
        rw [wrap_i64 (by omega) (by omega)]
        exact ⟨⟨i + 1, Y', rfl, by omega, by omega, hgY'⟩, by simp [-List.getD_eq_getElem?_getD] <;> omega⟩
    · have hie : i = E.getD k 0 := by omega
      subst hie
      simp only [l88 hgY.cells, letO_some]
      obtain ⟨H3, hg3, hg4⟩ := grow_swap hg hgY
      refine appendA_growR hg4 (m := 1) (new := [Y]) (by simp [srcOf]) (by simp [hgY.scalar]) rfl (by omega) (by omega) (by omega) fun v' H7 hg7 hr7 => ?_
      rw [wrap_i64 (by omega) (by omega)]
      refine ⟨⟨k + 1, v', rows ++ [Y], H3, ?_, by omega, Heap.le_trans hle1 hg3.le, hg7, hrw.snoc hg3.le hg3.reads, fun _ => hr7⟩, by simp <;> omega⟩
      rw [show stN E (k + 1) = E.getD k 0 by simp [stN]]
      rfl
  -- lines run over
  have hkE2 : k = E.length := by omega
  subst hkE2
  have hstE : stN E E.length = ws.length := by
    unfold stN; rw [if_neg (by omega), hlast]
  rw [hstE, if_pos hwd]
  have hXo := hown hE0
  have hRw0 : Rws H1 rows E := hrw
  refine ⟨fun L H' => ∃ (E' : List Nat) (ln f : Nat) (X : AV) (rows : List AV) (H1 : Heap), eqs L [X, .int .i64 ln] ∧ HB.le H1 ∧ Grow 1 H1 H' X E'.length rows ∧ isOwn X ∧ Rws H1 rows E' ∧ ln < E'.length ∧ inOrd ws.length E' ∧ E'.getD (E'.length - 1) 0 = ws.length ∧ ws.length - stN E' ln ≤ f ∧ gr w ws' f E' ln (stN E' ln) = R, fun L _ => (ws.length + 1 - iv L 1).toNat,
    ⟨E, lineOf E wd, ws.length, X, rows, H1, rfl, hle1, hg, hXo, hRw0, hlo, hord, hlast, by omega, hgE⟩, ?_⟩
  clear hg hrw hXo hRw0 hown hleB hle1 hge hgE hlo hlast hord hE0 huE hsorted hfirst hsh hEle
  clear hstE
  intro L H' hI
  obtain ⟨E', ln, f, X, rows, H1, rfl, hle1, hg, hown, hrw, hln, hord, hlast, hf, hgr⟩ := hI
  clear hkE hup hElen hgen hul
  obtain ⟨b, hbn, hX, hH'⟩ := hg.own hown
  have hbr : H' b = some rows := by rw [hH']; exact Heap.put_same
  obtain ⟨r, hr1, hr2⟩ := hrw.2 ln hln
  have hleB := Heap.le_trans hle1 hg.le
  have hst1 := hord.1 ln hln
  have hE1 := hord.2 ln
  have hElen := hord.len
  have hrL : (rng (stN E' ln) (E'.getD ln 0)).length = E'.getD ln 0 - stN E' ln := rng_length _ _
  obtain ⟨q1, q2⟩ := row_at hX hbr hln hr1
  have hr3 := hr2.le hg.le
  obtain ⟨f, rfl⟩ : ∃ f', f = f' + 1 := ⟨f - 1, by omega⟩
  simp only [letO_some, cellsOf?_agg, cellsOf?_int, cellsOf?_bool, cellsOf?_imm, cellsOf?_ref, cellsOf?_nils, faddr_iptr, faddr_ptr, List.drop_succ_cons, List.drop_zero, List.take_succ_cons, List.take_zero, load1_iptr, loadN_iptr, List.length_cons, List.length_nil, Nat.le_refl, if_true, List.getElem?_cons_zero, List.getElem?_cons_succ, List.getD_cons_zero, List.getD_cons_succ, extrF_tup, binF_add, binF_sub, binF_mul, binF_eql, binF_neq, binF_lss, binF_leq, binF_gtr, binF_geq, true_and, hLt hleB, q1, q2, hr3.len, hrL]
  refine hr3.get (Heap.le_refl _) (by omega) (by rw [hrL]; omega) ?_
  rw [wrap_i64 (n := ((E'.getD ln 0 - stN E' ln : Nat) : Int) - 1) (by omega) (by omega)]
  refine hr3.get (Heap.le_refl _) (by omega) (by rw [hrL]; omega) ?_
  rw [show (((E'.getD ln 0 - stN E' ln : Nat) : Int) - 1).toNat = E'.getD ln 0 - stN E' ln - 1 by omega, Int.toNat_zero, rng_get (by omega), rng_get (by omega)]
  simp only [letO_some, cellsOf?_agg, cellsOf?_int, cellsOf?_bool, cellsOf?_imm, cellsOf?_ref, cellsOf?_nils, faddr_iptr, faddr_ptr, List.drop_succ_cons, List.drop_zero, List.take_succ_cons, List.take_zero, load1_iptr, loadN_iptr, List.length_cons, List.length_nil, Nat.le_refl, if_true, List.getElem?_cons_zero, List.getElem?_cons_succ, List.getD_cons_zero, List.getD_cons_succ, extrF_tup, binF_add, binF_sub, binF_mul, binF_eql, binF_neq, binF_lss, binF_leq, binF_gtr, binF_geq, true_and]
  rw [wrap_i64 (by omega) (by omega), show ((stN E' ln + (E'.getD ln 0 - stN E' ln - 1) : Nat) : Int) + 1 = ((E'.getD ln 0 : Nat) : Int) by omega, Nat.add_zero]
  refine c79 (hRw.le hleB) hc' (by omega) (by omega) ?_
  simp only [letO_some, cellsOf?_agg, cellsOf?_int, cellsOf?_bool, cellsOf?_imm, cellsOf?_ref, cellsOf?_nils, faddr_iptr, faddr_ptr, List.drop_succ_cons, List.drop_zero, List.take_succ_cons, List.take_zero, load1_iptr, loadN_iptr, List.length_cons, List.length_nil, Nat.le_refl, if_true, List.getElem?_cons_zero, List.getElem?_cons_succ, List.getD_cons_zero, List.getD_cons_succ, extrF_tup, binF_add, binF_sub, binF_mul, binF_eql, binF_neq, binF_lss, binF_leq, binF_gtr, binF_geq, true_and]
  refine condA_t (fun hneg => ?_) (fun hnn => ?_)
  · -- the line is too long
    let E1 : List Nat := if ln + 1 = E'.length then E' ++ [ws.length] else E'
    have hE1d : E1 = if ln + 1 = E'.length then E' ++ [ws.length] else E' := rfl
    generalize E1 = E1 at *
    have hlt1 : ln + 1 < E1.length := by
      rw [hE1d]; split
      · simp; omega
      · omega
    have hstE1 : stN E1 ln = stN E' ln := by
      rw [hE1d]; split
      · exact stN_snoc (by omega)
      · rfl
    have hgE1 : E1.getD ln 0 = E'.getD ln 0 := by
      rw [hE1d]; split
      · exact getD_append_lt hln
      · rfl
    have hE1n : ∀ k, E1.getD k 0 ≤ ws.length := by
      intro k
      rw [hE1d]; split
      · rw [List.getD_eq_getElem?_getD, List.getElem?_append]
        split
        · rw [← List.getD_eq_getElem?_getD]; exact hord.2 k
        · cases hk0 : k - E'.length with
          | zero => simp
          | succ m => simp
      · exact hord.2 k
    have hE1o : ∀ k, k < E1.length → k ≠ ln + 1 → stN E1 k < E1.getD k 0 := by
      intro k hk hkn
      by_cases hl : ln + 1 = E'.length
      · rw [if_pos hl] at hE1d
        rw [hE1d] at hk ⊢
        simp at hk
        rw [stN_snoc (by omega), getD_append_lt (by omega)]
        exact hord.1 k (by omega)
      · rw [if_neg hl] at hE1d
        rw [hE1d] at hk ⊢
        exact hord.1 k hk
    have hE1l : E1.getD (E1.length - 1) 0 = ws.length := by
      by_cases hl : ln + 1 = E'.length
      · rw [if_pos hl] at hE1d
        rw [hE1d, List.length_append, List.length_singleton, Nat.add_sub_cancel, getD_snoc]
      · rw [if_neg hl] at hE1d
        rw [hE1d]; exact hlast
    have hE1b : E'.getD ln 0 ≤ E1.getD (ln + 1) 0 := by
      by_cases hl : ln + 1 = E'.length
      · rw [if_pos hl] at hE1d
        rw [hE1d, hl, getD_snoc]; exact hE1
      · rw [if_neg hl] at hE1d
        rw [hE1d]
        have := hord.1 (ln + 1) (by omega)
        rw [show stN E' (ln + 1) = E'.getD ln 0 by simp [stN]] at this
        omega
    refine ⟨fun L h => ∃ (X : AV) (rows : List AV) (H1 : Heap), eqs L [X] ∧ HB.le H1 ∧ Grow 1 H1 h X E1.length rows ∧ isOwn X ∧ Rws H1 rows E1, ?_, ?_⟩
    · simp only [hg.len, letO_some, binF_eql, condA_bool]
      rw [wrap_i64 (by omega) (by omega)]
      refine ⟨fun hl => ?_, fun hl => ?_⟩
      · have hl : ln + 1 = E'.length := by simp at hl; omega
        rw [if_pos hl] at hE1d
        simp only [l88 (show cellsOf? .nils = some [.nils] from rfl), letO_some]
        refine appendA_growR hg (m := 1) (new := [.nils]) (by simp [srcOf]) rfl rfl (by omega) (by omega) (by omega) fun v' H7 hg7 hr7 => ?_
        refine ⟨v', rows ++ [.nils], H1, rfl, hle1, by rw [hE1d]; simpa using hg7, hr7, ?_⟩
        rw [hE1d]
        refine hrw.snoc ?_
        have : stN E' E'.length = ws.length := by unfold stN; rw [if_neg (by omega), hlast]
        rw [this, rng_nil]; rfl
      · have hl : ¬ ln + 1 = E'.length := by simp at hl; omega
        rw [if_neg hl] at hE1d
        exact ⟨X, rows, H1, rfl, hle1, by rw [hE1d]; exact hg, hown, by rw [hE1d]; exact hrw⟩
    clear hg hown hrw hbr hr1 hr2 hr3 q1 q2 hX hH' hbn hle1 hleB
    rintro L h ⟨X, rows, H1, rfl, hle1, hg, hown, hrw⟩
    simp only [letO_some, cellsOf?_agg, cellsOf?_int, cellsOf?_bool, cellsOf?_imm, cellsOf?_ref, cellsOf?_nils, faddr_iptr, faddr_ptr, List.drop_succ_cons, List.drop_zero, List.take_succ_cons, List.take_zero, load1_iptr, loadN_iptr, List.length_cons, List.length_nil, Nat.le_refl, if_true, List.getElem?_cons_zero, List.getElem?_cons_succ, List.getD_cons_zero, List.getD_cons_succ, extrF_tup, binF_add, binF_sub, binF_mul, binF_eql, binF_neq, binF_lss, binF_leq, binF_gtr, binF_geq, true_and]
    obtain ⟨b, hbn, hX, hH'⟩ := hg.own hown
    refine ⟨fun L h => eqs L [] ∧ ∃ (e : Nat) (rows : List AV) (H1 : Heap), HB.le H1 ∧ H1 b = none ∧ eqs h (H1.put b rows) ∧ Rws H1 rows (E1.set ln e) ∧ stN E' ln < e ∧ e ≤ E'.getD ln 0 ∧ ∀ m, e < m → m ≤ E'.getD ln 0 → lf w ws' (stN E' ln) m < 0, fun _ h => match h b with
        | some cells => rowLen (cells.getD ln .any)
        | none => 0,
      ⟨rfl, E'.getD ln 0, rows, H1, hle1, hbn, hH', ?_, hst1, Nat.le_refl _, fun m h1 h2 => absurd h1 (by omega)⟩, ?_⟩
    · have : E1.set ln (E'.getD ln 0) = E1 := by
        apply List.ext_getElem?
        intro k
        rw [List.getElem?_set]
        split
        · rename_i hk'; subst hk'
          rw [if_pos (by omega), ← hgE1, List.getD_eq_getElem?_getD, List.getElem?_eq_getElem (by omega)]; rfl
        · rfl
      rw [this]; exact hrw
    clear hrw hg hH' hbn hle1
    rintro L h ⟨rfl, e, rows, H1, hle1, hbn, rfl, hrw, he1, he2, hall⟩
    have hbr : (H1.put b rows) b = some rows := Heap.put_same
    have hleb : H1.le (H1.put b rows) := Heap.le_put_self hbn
    have hleB := Heap.le_trans hle1 hleb
    have hln2 : ln < (E1.set ln e).length := by simp; omega
    have hln3 : ln + 1 < (E1.set ln e).length := by simp; omega
    obtain ⟨r, hr1, hr2⟩ := hrw.2 ln hln2
    obtain ⟨r', hr1', hr2'⟩ := hrw.2 (ln + 1) hln3
    rw [stN_set (by omega), getD_set (by omega), if_neg (by omega), if_pos rfl, hstE1] at hr2
    rw [stN_set (by omega), getD_set (by omega), if_pos rfl, if_neg (by omega)] at hr2'
    have hm : E1.length = (E1.set ln e).length := by simp
    obtain ⟨q1, q2⟩ := row_at hX hbr (by omega) hr1
    obtain ⟨q1', q2'⟩ := row_at hX hbr (by omega) hr1'
    have hr3 := hr2.le hleb
    have hr3' := hr2'.le hleb
    have hrL : (rng (stN E' ln) e).length = e - stN E' ln := rng_length _ _
    have hrL' : (rng e (E1.getD (ln + 1) 0)).length = E1.getD (ln + 1) 0 - e := rng_length _ _
    have hq1' : idx 1 X (.int .i64 ((ln : Int) + 1)) = some (.ptr b (ln + 1)) := by rw [← q1']; simp
    simp only [letO_some, cellsOf?_agg, cellsOf?_int, cellsOf?_bool, cellsOf?_imm, cellsOf?_ref, cellsOf?_nils, faddr_iptr, faddr_ptr, List.drop_succ_cons, List.drop_zero, List.take_succ_cons, List.take_zero, load1_iptr, loadN_iptr, List.length_cons, List.length_nil, Nat.le_refl, if_true, List.getElem?_cons_zero, List.getElem?_cons_succ, List.getD_cons_zero, List.getD_cons_succ, extrF_tup, binF_add, binF_sub, binF_mul, binF_eql, binF_neq, binF_lss, binF_leq, binF_gtr, binF_geq, true_and, hLt hleB, q1, q2, hr3.len, hrL]
    refine hr3.get (Heap.le_refl _) (by omega) (by rw [hrL]; omega) ?_
    rw [wrap_i64 (n := ((e - stN E' ln : Nat) : Int) - 1) (by omega) (by omega)]
    refine hr3.get (Heap.le_refl _) (by omega) (by rw [hrL]; omega) ?_
    rw [show (((e - stN E' ln : Nat) : Int) - 1).toNat = e - stN E' ln - 1 by omega, Int.toNat_zero, rng_get (by omega), rng_get (by omega)]
    simp only [letO_some, cellsOf?_agg, cellsOf?_int, cellsOf?_bool, cellsOf?_imm, cellsOf?_ref, cellsOf?_nils, faddr_iptr, faddr_ptr, List.drop_succ_cons, List.drop_zero, List.take_succ_cons, List.take_zero, load1_iptr, loadN_iptr, List.length_cons, List.length_nil, Nat.le_refl, if_true, List.getElem?_cons_zero, List.getElem?_cons_succ, List.getD_cons_zero, List.getD_cons_succ, extrF_tup, binF_add, binF_sub, binF_mul, binF_eql, binF_neq, binF_lss, binF_leq, binF_gtr, binF_geq, true_and]
    rw [wrap_i64 (n := ((stN E' ln + (e - stN E' ln - 1) : Nat) : Int) + 1) (by omega) (by omega), show ((stN E' ln + (e - stN E' ln - 1) : Nat) : Int) + 1 = ((e : Nat) : Int) by omega, Nat.add_zero]
    refine c79 (hRw.le hleB) hc' (by omega) (by omega) ?_
    simp only [letO_some, cellsOf?_agg, cellsOf?_int, cellsOf?_bool, cellsOf?_imm, cellsOf?_ref, cellsOf?_nils, faddr_iptr, faddr_ptr, List.drop_succ_cons, List.drop_zero, List.take_succ_cons, List.take_zero, load1_iptr, loadN_iptr, List.length_cons, List.length_nil, Nat.le_refl, if_true, List.getElem?_cons_zero, List.getElem?_cons_succ, List.getD_cons_zero, List.getD_cons_succ, extrF_tup, binF_add, binF_sub, binF_mul, binF_eql, binF_neq, binF_lss, binF_leq, binF_gtr, binF_geq, true_and]
    refine condA_t (fun hneg2 => ?_) (fun hnn2 => ?_)
    · -- one word goes on
      have hone := lf_one hc' (i := stN E' ln) (by omega)
      have he3 : stN E' ln + 1 < e := by
        rcases Nat.lt_or_ge (stN E' ln + 1) e with h | h
        · exact h
        · have : e = stN E' ln + 1 := by omega
          rw [this] at hneg2; omega
      rw [wrap_i64 (n := (ln : Int) + 1) (by omega) (by omega)]
      simp only [q1, q2, hq1', q2', letO_some, cellsOf?_agg, cellsOf?_int, cellsOf?_bool, cellsOf?_imm, cellsOf?_ref, cellsOf?_nils, faddr_iptr, faddr_ptr, List.drop_succ_cons, List.drop_zero, List.take_succ_cons, List.take_zero, load1_iptr, loadN_iptr, List.length_cons, List.length_nil, Nat.le_refl, if_true, List.getElem?_cons_zero, List.getElem?_cons_succ, List.getD_cons_zero, List.getD_cons_succ, extrF_tup, binF_add, binF_sub, binF_mul, binF_eql, binF_neq, binF_lss, binF_leq, binF_gtr, binF_geq, true_and, hr3.len, hrL]
      rw [wrap_i64 (n := ((e - stN E' ln : Nat) : Int) - 1) (by omega) (by omega)]
      refine hr3.get (Heap.le_refl _) (by omega) (by rw [hrL]; omega) ?_
      rw [show (((e - stN E' ln : Nat) : Int) - 1).toNat = e - stN E' ln - 1 by omega, rng_get (by omega)]
      rw [show stN E' ln + (e - stN E' ln - 1) = e - 1 by omega]
      simp only [l22 cellsOf?_int, letO_some, hq1', q2', letO_some, cellsOf?_agg, cellsOf?_int, cellsOf?_bool, cellsOf?_imm, cellsOf?_ref, cellsOf?_nils, faddr_iptr, faddr_ptr, List.drop_succ_cons, List.drop_zero, List.take_succ_cons, List.take_zero, load1_iptr, loadN_iptr, List.length_cons, List.length_nil, Nat.le_refl, if_true, List.getElem?_cons_zero, List.getElem?_cons_succ, List.getD_cons_zero, List.getD_cons_succ, extrF_tup, binF_add, binF_sub, binF_mul, binF_eql, binF_neq, binF_lss, binF_leq, binF_gtr, binF_geq, true_and]
      refine ⟨rfl, ?_⟩
      refine appendA_grow (Grow.imm (sz := 1) (n := 1) (cells := [.int .i64 ((e - 1 : Nat) : Int)]) rfl) (reads_src hr3') (by simp [ints, isScalar]) (by simp) (by rw [hrL']; have := hE1n (ln + 1); omega) (by rw [hrL']; have := hE1n (ln + 1); omega) fun v' H7 hg7 => ?_
      have hx1 : e - 1 < E1.getD (ln + 1) 0 := by omega
      have hcells : [AV.int .i64 ((e - 1 : Nat) : Int)] ++ ints (rng e (E1.getD (ln + 1) 0)) = ints (rng (e - 1) (E1.getD (ln + 1) 0)) := by
        rw [rng_cons hx1, ints_cons, show e - 1 + 1 = e by omega]; rfl
      rw [hcells, hrL'] at hg7
      have gX : Grow 1 H1 (H1.put b rows) X E1.length rows := by rw [hX]; exact Grow.ref hbn (by rw [hrw.1]; simp)
      obtain ⟨H2, hg3, hg4⟩ := grow_swap gX hg7
      obtain ⟨b', hbn', hX', rfl⟩ := hg4.own hown
      have hbb : b' = b := by rw [hX] at hX'; injection hX' with _ h _ _ _; exact h.symm
      subst hbb
      have hrl : rows.length = E1.length := by rw [hrw.1]; simp
      refine storeA_of (cs := [v']) Heap.put_same hg7.cells (by simp [hg7.scalar]) rfl (by simp; omega) ?_
      rw [splice_set (by omega), Heap.put_put]
      have lr : load1 (.ptr b' ln) (H2.put b' (rows.set (ln + 1) v')) = some r := load1_at Heap.put_same (by rw [List.getElem?_set_ne (by omega)]; exact hr1)
      have hrH2 := hr2.le hg3.le
      obtain ⟨r2, hs2, hrr2⟩ := slc_pre hrH2 (k := e - stN E' ln - 1) (by rw [hrL]; omega)
      rw [show e - stN E' ln - 1 = e - 1 - stN E' ln by omega, rng_take (by omega)] at hrr2
      simp only [lr, letO_some, cellsOf?_agg, cellsOf?_int, cellsOf?_bool, cellsOf?_imm, cellsOf?_ref, cellsOf?_nils, faddr_iptr, faddr_ptr, List.drop_succ_cons, List.drop_zero, List.take_succ_cons, List.take_zero, load1_iptr, loadN_iptr, List.length_cons, List.length_nil, Nat.le_refl, if_true, List.getElem?_cons_zero, List.getElem?_cons_succ, List.getD_cons_zero, List.getD_cons_succ, extrF_tup, binF_add, binF_sub, binF_mul, binF_eql, binF_neq, binF_lss, binF_leq, binF_gtr, binF_geq, true_and]
      rw [show ((e - stN E' ln : Nat) : Int) - 1 = ((e - stN E' ln - 1 : Nat) : Int) by omega, hs2]
      simp only [letO_some, cellsOf?_agg, cellsOf?_int, cellsOf?_bool, cellsOf?_imm, cellsOf?_ref, cellsOf?_nils, faddr_iptr, faddr_ptr, List.drop_succ_cons, List.drop_zero, List.take_succ_cons, List.take_zero, load1_iptr, loadN_iptr, List.length_cons, List.length_nil, Nat.le_refl, if_true, List.getElem?_cons_zero, List.getElem?_cons_succ, List.getD_cons_zero, List.getD_cons_succ, extrF_tup, binF_add, binF_sub, binF_mul, binF_eql, binF_neq, binF_lss, binF_leq, binF_gtr, binF_geq, true_and]
      obtain ⟨rc1, rc2⟩ := reads_cells hrr2
      refine storeA_of (cs := [r2]) Heap.put_same rc1 (by simp [rc2]) rfl (by simp; omega) ?_
      rw [splice_set (by simp; omega), Heap.put_put]
      have hsh := (hrw.le hg3.le).shift (v := ln) (e := e - 1) (r := r2) (r' := v') hln3 (by rw [getD_set (by omega), if_pos rfl]; omega) (by rw [stN_set (by omega), if_neg (by omega), hstE1]; exact hrr2) (by rw [getD_set (by omega), if_neg (by omega)]; exact hg3.reads)
      rw [List.set_set] at hsh
      refine ⟨⟨rfl, e - 1, _, H2, Heap.le_trans hle1 hg3.le, hbn', rfl, hsh, by omega, by omega, fun m h1 h2 => ?_⟩, ?_⟩
      · by_cases hme : m = e
        · subst hme; exact hneg2
        · exact hall m (by omega) h2
      · have m1 : ((rows.set (ln + 1) v').set ln r2).getD ln .any = r2 := by rw [List.getD_eq_getElem?_getD, List.getElem?_set_self (by simp; omega)]; rfl
        have m2 : rows.getD ln .any = r := by rw [List.getD_eq_getElem?_getD, hr1]; rfl
        rw [Heap.put_same]
        simp only [Heap.put_same, m1, m2, rowLen_reads hrr2, rowLen_reads hr2, rng_length]
        omega
    · have hlt3 : e < E'.getD ln 0 := by
        rcases Nat.lt_or_ge e (E'.getD ln 0) with h | h
        · exact h
        · have : e = E'.getD ln 0 := by omega
          rw [this] at hnn2; omega
      have hen : endN w ws' (stN E' ln) (E'.getD ln 0) = e := by
        have := endN_eq (w := w) (ws := ws') (i := stN E' ln) (m := e) (by omega) (by omega) (E'.getD ln 0 - e) (fun j h1 h2 => hall j h1 (by omega))
        rwa [show e + (E'.getD ln 0 - e) = E'.getD ln 0 by omega] at this
      rw [gr, hen, if_neg (by omega), hwl'] at hgr
      have hgr' : gr w ws' f (E1.set ln e) (ln + 1) e = R := by
        by_cases hl : ln + 1 = E'.length
        · rw [if_pos hl] at hgr hE1d
          rw [hE1d, List.set_append_left _ _ hln]; exact hgr
        · rw [if_neg hl] at hgr hE1d
          rw [hE1d]; exact hgr
      rw [wrap_i64 (by omega) (by omega)]
      have hst2 : stN (E1.set ln e) (ln + 1) = e := by rw [stN_set (by omega), if_pos rfl]
      refine ⟨⟨E1.set ln e, ln + 1, f, X, rows, H1, rfl, hle1, ?_, hown, hrw, hln3, ⟨fun k hk => ?_, fun k => ?_⟩, ?_, by rw [hst2]; omega, by rw [hst2]; exact hgr'⟩, by simp <;> omega⟩
      · rw [hX, hm]; exact Grow.ref hbn (by rw [hrw.1]; simp)
      · simp only [List.length_set] at hk
        rw [stN_set (by omega), getD_set (by omega)]
        by_cases hk1 : k = ln
        · subst hk1
          rw [if_neg (by omega), if_pos rfl, hstE1]; exact he1
        · rw [if_neg hk1]
          by_cases hk2 : k = ln + 1
          · subst hk2
            rw [if_pos rfl]; omega
          · rw [if_neg hk2]; exact hE1o k hk hk2
      · rw [getD_set (by omega)]
        split
        · omega
        · exact hE1n k
      · rw [List.length_set, getD_set (by omega), if_neg (by omega)]; exact hE1l
  · -- the line fits
    have hen := endN_eq (w := w) (ws := ws') (i := stN E' ln) (m := E'.getD ln 0) (by omega) (by omega) 0 (fun j h1 h2 => absurd h1 (by omega))
    rw [Nat.add_zero] at hen
    rw [gr, hen, if_pos rfl] at hgr
    rw [← hgr] at hk
    refine ⟨fun L h => ∃ (k : Nat) (Y : AV), eqs L [Y, .int .i64 k] ∧ k ≤ E'.length ∧ Grow 1 H' h Y k (ints (up (E'.take k))), fun L _ => (E'.length - iv L 1).toNat, ⟨0, .nils, rfl, by omega, by simpa [up, ints] using Grow.nils 1 H'⟩, ?_⟩
    rintro L h ⟨k, Y, rfl, hkE, hgY⟩
    simp only [letO_some, cellsOf?_agg, cellsOf?_int, cellsOf?_bool, cellsOf?_imm, cellsOf?_ref, cellsOf?_nils, faddr_iptr, faddr_ptr, List.drop_succ_cons, List.drop_zero, List.take_succ_cons, List.take_zero, load1_iptr, loadN_iptr, List.length_cons, List.length_nil, Nat.le_refl, if_true, List.getElem?_cons_zero, List.getElem?_cons_succ, List.getD_cons_zero, List.getD_cons_succ, extrF_tup, binF_add, binF_sub, binF_mul, binF_eql, binF_neq, binF_lss, binF_leq, binF_gtr, binF_geq, true_and, hg.len]
    refine condA_t (fun hlt => ?_) (fun hge => ?_)
    · have hkl : k < E'.length := by omega
      obtain ⟨r, hr1, hr2⟩ := hrw.2 k hkl
      obtain ⟨q1, q2⟩ := row_at (v := k) hX (hgY.le _ _ hbr) hkl hr1
      have hr3 := (hr2.le hg.le).le hgY.le
      have hst1 := hord.1 k hkl
      have hE1 := hord.2 k
      have hrL : (rng (stN E' k) (E'.getD k 0)).length = E'.getD k 0 - stN E' k := rng_length _ _
      simp only [letO_some, cellsOf?_agg, cellsOf?_int, cellsOf?_bool, cellsOf?_imm, cellsOf?_ref, cellsOf?_nils, faddr_iptr, faddr_ptr, List.drop_succ_cons, List.drop_zero, List.take_succ_cons, List.take_zero, load1_iptr, loadN_iptr, List.length_cons, List.length_nil, Nat.le_refl, if_true, List.getElem?_cons_zero, List.getElem?_cons_succ, List.getD_cons_zero, List.getD_cons_succ, extrF_tup, binF_add, binF_sub, binF_mul, binF_eql, binF_neq, binF_lss, binF_leq, binF_gtr, binF_geq, true_and, q1, q2, hr3.len, hrL]
      rw [wrap_i64 (n := ((E'.getD k 0 - stN E' k : Nat) : Int) - 1) (by omega) (by omega)]
      refine hr3.get (Heap.le_refl _) (by omega) (by rw [hrL]; omega) ?_
      rw [show (((E'.getD k 0 - stN E' k : Nat) : Int) - 1).toNat = E'.getD k 0 - stN E' k - 1 by omega, rng_get (by omega)]
      simp only [letO_some, cellsOf?_agg, cellsOf?_int, cellsOf?_bool, cellsOf?_imm, cellsOf?_ref, cellsOf?_nils, faddr_iptr, faddr_ptr, List.drop_succ_cons, List.drop_zero, List.take_succ_cons, List.take_zero, load1_iptr, loadN_iptr, List.length_cons, List.length_nil, Nat.le_refl, if_true, List.getElem?_cons_zero, List.getElem?_cons_succ, List.getD_cons_zero, List.getD_cons_succ, extrF_tup, binF_add, binF_sub, binF_mul, binF_eql, binF_neq, binF_lss, binF_leq, binF_gtr, binF_geq, true_and]
      rw [wrap_i64 (by omega) (by omega), show ((stN E' k + (E'.getD k 0 - stN E' k - 1) : Nat) : Int) + 1 = ((E'.getD k 0 : Nat) : Int) by omega]
      simp only [l22 cellsOf?_int, letO_some]
      refine appendA_one hgY (by omega) fun Y' H7 hg7 => ?_
      rw [wrap_i64 (by omega) (by omega)]
      refine ⟨⟨k + 1, Y', rfl, by omega, ?_⟩, by simp <;> omega⟩
      have ht : E'.take (k + 1) = E'.take k ++ [E'.getD k 0] := by
        rw [List.take_add_one, List.getD_eq_getElem?_getD, List.getElem?_eq_getElem hkl]; rfl
      rw [ht, up_snoc]; exact hg7
    · have hkE3 : k = E'.length := by omega
      subst hkE3
      rw [List.take_length] at hgY
      obtain ⟨H2, hl2, hg2⟩ := hgY.shrink (Heap.le_trans hle22 hleB)
      refine endK_pub (r' := .tup [Y, .int .i64 ln, .int .i64 0]) (Pub.drop hl2) (grow_end3 hg2 ?_)
      rw [sl, up_length] at hk
      exact hk
end Go.Proofs.Ytlajhbpkogekfaa

namespace Go.Proofs.Ytlajhbpkogekfaa
open Go.Av Line
set_option linter.unusedVariables false
set_option linter.unusedSimpArgs false
set_option maxRecDepth 4000

theorem gr_len {w : Int} {ws : List Int} : ∀ (f : Nat) (E : List Nat) (ln fr : Nat), (gr w ws f E ln fr).1.length ≤ E.length + f
  | 0, E, ln, fr => by simp [gr]
  | f + 1, E, ln, fr => by
    rw [gr]
    split
    · simp
    · split
      · have := gr_len (w := w) (ws := ws) f (E.set ln (endN w ws fr (E.getD ln 0)) ++ [ws.length]) (ln + 1) (endN w ws fr (E.getD ln 0))
        simp at this ⊢; omega
      · have := gr_len (w := w) (ws := ws) f (E.set ln (endN w ws fr (E.getD ln 0))) (ln + 1) (endN w ws fr (E.getD ln 0))
        simp at this ⊢; omega
theorem growO_len {w : Int} {ws ends : List Int} {word b : Int} : (growO w ws ends word b).1.length ≤ ends.length + ws.length := by
  unfold growO
  split
  · simp
  · split
    · simp
    · split
      · simp
      · split
        · simp
        · simp only [up_length]
          have := gr_len (w := w) (ws := wide ws word.toNat b) ws.length (toN ends) (lineOf (toN ends) word.toNat) (stN (toN ends) (lineOf (toN ends) word.toNat))
          rw [toN_len] at this
          exact this
/-- LineGrows -/
theorem c5 {w word by_ : Int} {ws ends : List Int} {H : Heap} {K : AV → Heap → Prop} (hwr : -9223372036854775808 ≤ word ∧ word ≤ 9223372036854775807) (hk : ∀ H', H.le H' → K (.bool true) H') : ACalls Try.prog 5 [.agg [.int .i64 w, sl ws], sl ends, .int .i64 word, .int .i64 by_] H K := by
  apply W5_ok
  unfold W5
  have hv : Reads H (sl ws) ws := Reads.sl _ _
  have hu : Reads H (sl ends) ends := Reads.sl _ _
  have over : ACalls Try.prog 16 [] H fun t27 H2 => letO (some (t27 : AV)) fun t4 => endK t4 H2 K := c16 (endK_ret (hk _ (Heap.le_refl _)))
  simp only [letO_some] at over
  simp only [letO_some, cellsOf?_agg, cellsOf?_int, cellsOf?_bool, cellsOf?_imm, cellsOf?_ref, cellsOf?_nils, faddr_iptr, faddr_ptr, List.drop_succ_cons, List.drop_zero, List.take_succ_cons, List.take_zero, load1_iptr, loadN_iptr, List.length_cons, List.length_nil, Nat.le_refl, if_true, List.getElem?_cons_zero, List.getElem?_cons_succ, List.getD_cons_zero, List.getD_cons_succ, extrF_tup, binF_add, binF_sub, binF_mul, binF_eql, binF_neq, binF_lss, binF_leq, binF_gtr, binF_geq, true_and, hv.len, hu.len]
  by_cases h1 : 40 < ws.length
  · have e : decide ((40 : Int) < (ws.length : Int)) = true := by simp; omega
    simp only [e, gval_bool, Bool.true_eq_false, if_false, letO_some, pickF_true, condA_tt]
    exact over
  have e : decide ((40 : Int) < (ws.length : Int)) = false := by simp; omega
  simp only [e, gval_bool, if_true, letO_some, pickF_false, binF_gtr, hu.len, condA_bool]
  refine ⟨fun _ => over, fun h2 => ?_⟩
  have h2 : ends.length ≤ 40 := by simp at h2; omega
  refine c32 hv hu (by omega) (by omega) ?_
  simp only [letO_some, cellsOf?_agg, cellsOf?_int, cellsOf?_bool, cellsOf?_imm, cellsOf?_ref, cellsOf?_nils, faddr_iptr, faddr_ptr, List.drop_succ_cons, List.drop_zero, List.take_succ_cons, List.take_zero, load1_iptr, loadN_iptr, List.length_cons, List.length_nil, Nat.le_refl, if_true, List.getElem?_cons_zero, List.getElem?_cons_succ, List.getD_cons_zero, List.getD_cons_succ, extrF_tup, binF_add, binF_sub, binF_mul, binF_eql, binF_neq, binF_lss, binF_leq, binF_gtr, binF_geq, true_and]
  refine c33 hv hu (by omega) (by omega) hwr ?_
  simp only [letO_some, cellsOf?_agg, cellsOf?_int, cellsOf?_bool, cellsOf?_imm, cellsOf?_ref, cellsOf?_nils, faddr_iptr, faddr_ptr, List.drop_succ_cons, List.drop_zero, List.take_succ_cons, List.take_zero, load1_iptr, loadN_iptr, List.length_cons, List.length_nil, Nat.le_refl, if_true, List.getElem?_cons_zero, List.getElem?_cons_succ, List.getD_cons_zero, List.getD_cons_succ, extrF_tup, binF_add, binF_sub, binF_mul, binF_eql, binF_neq, binF_lss, binF_leq, binF_gtr, binF_geq, true_and]
  have hgl := growO_len (w := w) (ws := ws) (ends := ends) (word := word) (b := by_)
  refine c25p (Reads.sl _ _) (Reads.sl _ _) (by omega) ?_
  have d1 : ∀ l : List Int, decide (l = l) = true := fun l => decide_eq_true rfl
  simp only [d1, decide_true, beq_self_eq_true, letO_some, cellsOf?_agg, cellsOf?_int, cellsOf?_bool, cellsOf?_imm, cellsOf?_ref, cellsOf?_nils, faddr_iptr, faddr_ptr, List.drop_succ_cons, List.drop_zero, List.take_succ_cons, List.take_zero, load1_iptr, loadN_iptr, List.length_cons, List.length_nil, Nat.le_refl, if_true, List.getElem?_cons_zero, List.getElem?_cons_succ, List.getD_cons_zero, List.getD_cons_succ, extrF_tup, binF_add, binF_sub, binF_mul, binF_eql, binF_neq, binF_lss, binF_leq, binF_gtr, binF_geq, true_and, gval_bool, Int.reduceBNe, Int.reduceBEq, pickF_true, pickF_false, reduceIte, Bool.true_eq_false, Bool.false_eq_true, if_false, condA_tt, condA_ff, condG_tt, condG_ff, condG_tt', condG_ff', condG_undef, gval_undef]
  refine exJ ?_
  refine c16 ?_
  try simp only [letO_some, cellsOf?_agg, cellsOf?_int, cellsOf?_bool, cellsOf?_imm, cellsOf?_ref, cellsOf?_nils, faddr_iptr, faddr_ptr, List.drop_succ_cons, List.drop_zero, List.take_succ_cons, List.take_zero, load1_iptr, loadN_iptr, List.length_cons, List.length_nil, Nat.le_refl, if_true, List.getElem?_cons_zero, List.getElem?_cons_succ, List.getD_cons_zero, List.getD_cons_succ, extrF_tup, binF_add, binF_sub, binF_mul, binF_eql, binF_neq, binF_lss, binF_leq, binF_gtr, binF_geq, true_and, gval_bool, Int.reduceBNe, Int.reduceBEq, pickF_true, pickF_false, reduceIte, Bool.true_eq_false, Bool.false_eq_true, if_false, condA_tt, condA_ff, condG_tt, condG_ff, condG_tt', condG_ff', condG_undef, gval_undef]
  exact endK_ret (hk _ (Heap.le_refl _))
theorem lineGrows.law {w word by_ : Int} {ws ends : List Int} (_ : -9223372036854775808 ≤ w ∧ w ≤ 9223372036854775807) (_ : ws.length ≤ maxLen) (_ : ∀ n ∈ ws, (-9223372036854775808 ≤ n ∧ n ≤ 9223372036854775807)) (_ : ends.length ≤ maxLen) (_ : ∀ n ∈ ends, (-9223372036854775808 ≤ n ∧ n ≤ 9223372036854775807)) (hwr : -9223372036854775808 ≤ word ∧ word ≤ 9223372036854775807) (_ : -9223372036854775808 ≤ by_ ∧ by_ ≤ 9223372036854775807) :
    ACalls Try.prog 5 [.agg [.int .i64 w, sl ws], sl ends, .int .i64 word, .int .i64 by_] Heap.none fun r _ => r = .bool true := c5 hwr fun _ _ => rfl
end Go.Proofs.Ytlajhbpkogekfaa

/- MADE BY PROGRAM (row.py): the row of LineGrows. -/
namespace Go.Proofs.Ytlajhbpkogekfaa.lineGrows
open Go.ChangeShapes Go.WideShapes Go.ChangeAt Go.RowKit Go.Av
set_option linter.unusedVariables false

theorem own : ownKnob Try.prog.godebug = none := by kernel_rfl
theorem laidOut : laidOutB Try.prog = true := by kernel_rfl
theorem split13 {g : List Nat} (h : g.length = 13) : ∃ a b c l, g = a :: b :: c :: l ∧ l.length = 10 := by
  match g, h with
  | a :: b :: c :: l, h => exact ⟨a, b, c, l, rfl, by simpa using h⟩

set_option maxRecDepth 100000 in
theorem lifted (os : Os) (started : os.Started) (H : Type) (enc : TypeId × Value → H) :
    ReturnsInHanded {} Try.checked os 5 .any (Rows.lineGrowsSpec.pre6 enc Try.prog Try.f5 Rows.lineGrowsRow.domain false) (Rows.lineGrowsSpec.post enc Try.prog Try.f5 false true false false) := by
  refine returnsInHanded_of_change (C := Try.checked) own started (by kernel_rfl) Try.func5
    (ChangeSpec.witness6 (enc := enc) (C := Try.checked) false ⟨#[], #[.agg #[.int .i64 0, .slice none 0 0], .slice none 0 0, .int .i64 0, .int .i64 0], []⟩ 8 (by kernel_rfl) (by kernel_rfl) (by kernel_rfl) (by kernel_rfl)) ?_
  intro W base args ds gs before hval0 hW hcnd _
  have hval : ∀ (j : Nat) t v, Try.f5.params[j]? = some t → args[j]? = some v → Value.okWide Try.prog W .any base t v := hval0
  have hW' := hW
  obtain ⟨p, q, hA0, hV, rfl, hfz, hnd⟩ := hW
  have hA : DataW.TrodAll enc Try.prog W 0 (fun _ => true) true Try.f5.params.toList args.toList ds p := hA0
  have hA1 := hA
  rw [Try.params5] at hA hval
  obtain ⟨rfl, rfl⟩ := trodVars_none hV
  clear hA0 hval0
  simp only [List.append_nil] at hW'
  have hlt : ∀ x ∈ p, x.block < W.heap.size := fun x hx => by simpa using hW'.lt x hx
  obtain ⟨v0, v1, v2, v3, d0, d1, d2, d3, p0, p1, p2, p3, rfl, rfl, rfl, h0, h1, h2, h3⟩ := trodAll_four hA
  obtain ⟨w0, l0, r0, wx0, ll0, lx0⟩ := rep_text (t0 := 3) (t1 := 22) (e := 3) Try.underlying24 (by kernel_rfl) (by kernel_rfl) Try.underlying3 Try.underlying22 Try.underlying3 (by kernel_rfl) (by kernel_rfl) rfl rfl (hval 0 24 v0 rfl rfl) h0
  obtain ⟨l1, r1, ll1, lx1⟩ := rep_list Try.underlying22 Try.underlying3 (by kernel_rfl) (hval 1 22 v1 rfl rfl) h1
  obtain ⟨n2, rfl, nx2⟩ := rep_num Try.underlying3 (hval 2 3 v2 rfl rfl)
  obtain ⟨n3, rfl, nx3⟩ := rep_num Try.underlying3 (hval 3 3 v3 rfl rfl)
  refine ((law wx0 ll0 lx0 ll1 lx1 nx2 nx3).2 (E0 W) W [v0, v1, .int .i64 n2, .int .i64 n3] (st0 W) (RepL.cons r0 (RepL.cons r1 (RepL.cons (.int _ _) (RepL.cons (.int _ _) (RepL.nil _)))))).mono ?_
  rintro e W' ⟨r, v, E', H', rfl, hr, _, hx, rfl⟩
  cases hr
  exact ⟨_, rfl, _, _, _, [], _, [], hW', trodAll_cons_mk (shut_bool Try.underlying4 _) trodAll_mk0, hx.trodAll laidOut (by kernel_rfl) hA1 hlt, rfl, hx.kept _, fun h => by cases h⟩

theorem over : Rows.lineGrowsRow.holds Try.pinned (OpenSpec.ofChange Rows.lineGrowsSpec) :=
  OpenClaim.holds_of_wide 5 Try.f5 rfl rfl rfl rfl rfl rfl rfl ⟨rfl, rfl, rfl, rfl, rfl⟩ rfl rfl rfl rfl rfl (by kernel_rfl) Try.func5 (by kernel_rfl)
    (of_decide_eq_true (by kernel_rfl)) (by unfold Func.isWrapper; first | (rw [if_pos (by decide +kernel)]; kernel_rfl) | (rw [if_neg (by decide +kernel)]; exact ⟨rfl, rfl⟩))
    (fun os started H enc _ => lifted os started H enc)

theorem proved : Rows.LineGrowsSaid := over
#print axioms proved
end Go.Proofs.Ytlajhbpkogekfaa.lineGrows
