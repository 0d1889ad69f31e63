import Derived.Test.YtlajhbpkogekfaaCon
import Derived.Test.YtlajhbpkogekfaaAvB
import Derived.Test.YtlajhbpkogekfaaRows
import Derived.Test.YtlajhbpkogekfaaLFullW
/- LineFull: for every input the law returns true, and the input reads as before. No conditions. -/
/- Texts by numbers. -/
set_option linter.unusedVariables false
namespace Line
def gw (W : Nat) : Nat := 1 + W % 40
def glong (W S : Nat) : Nat := if S % 3 > 0 then 1 + gw W / 2 else gw W
def gmin (W S : Nat) : Nat := if gw W < glong W S then gw W else glong W S
def gwords (W S : Nat) (l : List Nat) : List Int := l.map fun x => ((1 + x % gmin W S : Nat) : Int)
def madeL (W M S : Nat) (l : List Nat) (most : Nat) : List Int := gwords W S (l.take (1 + M % most))
theorem gw_range (W : Nat) : 1 ≤ gw W ∧ gw W ≤ 40 := by unfold gw; omega
theorem gmin_range (W S : Nat) : 1 ≤ gmin W S ∧ gmin W S ≤ gw W := by
  have := gw_range W
  unfold gmin glong
  split <;> split <;> omega
theorem made_len {W M S : Nat} {l : List Nat} {most : Nat} (hl : l.length = 10) (hm : 1 ≤ most ∧ most ≤ 10) : (madeL W M S l most).length = 1 + M % most := by
  have := Nat.mod_lt M (show most > 0 by omega)
  simp [madeL, gwords]; omega
theorem chk_made {W M S : Nat} {l : List Nat} {most : Nat} (hl : l.length = 10) (hm : 1 ≤ most ∧ most ≤ 10) : chk (gw W) (madeL W M S l most) = 0 := by
  have h1 := gw_range W
  have h2 := made_len (W := W) (M := M) (S := S) hl hm
  have h3 := Nat.mod_lt M (show most > 0 by omega)
  unfold chk
  rw [if_neg (by omega), if_neg (by omega), if_neg (by omega), if_pos]
  intro x hx
  simp only [madeL, gwords, List.mem_map] at hx
  obtain ⟨y, _, rfl⟩ := hx
  have h4 := gmin_range W S
  have := Nat.mod_lt y (show gmin W S > 0 by omega)
  omega
end Line

/- Ends in order. -/
set_option linter.unusedVariables false
namespace Line
/-- Ends that ascend, behind one, up to a last place. -/
def asc (n : Int) : Int → List Int → Prop
  | _, [] => True
  | last, e :: r => last < e ∧ 1 ≤ e ∧ e ≤ n ∧ asc n e r
theorem scan_asc {n : Int} : ∀ {l : List Int} {last : Int} (r : List Int), asc n last l → scan n last (l ++ r) = scan n (l.getLastD last) r
  | [], last, r, _ => rfl
  | e :: l, last, r, h => by
    obtain ⟨h1, h2, h3, h4⟩ := h
    rw [List.cons_append, scan, if_neg (by omega), if_neg (by omega), scan_asc r h4, List.getLastD_cons]
theorem asc_snoc {n : Int} : ∀ {l : List Int} {last x : Int}, asc n last l → l.getLastD last < x → 1 ≤ x → x ≤ n → asc n last (l ++ [x])
  | [], last, x, _, h1, h2, h3 => ⟨by simpa using h1, h2, h3, trivial⟩
  | e :: l, last, x, h, h1, h2, h3 => by
    obtain ⟨g1, g2, g3, g4⟩ := h
    rw [List.getLastD_cons] at h1
    exact ⟨g1, g2, g3, asc_snoc g4 h1 h2 h3⟩
theorem asc_of_scan {n : Int} : ∀ {l : List Int} {last : Int}, scan n last l = 0 → asc n last l
  | [], _, _ => trivial
  | e :: r, last, h => by
    rw [scan] at h
    split at h; · omega
    split at h; · omega
    exact ⟨by omega, by omega, by omega, asc_of_scan h⟩
/-- A line begins before it ends. -/
theorem stN_lt {n : Int} {l : List Int} (h : asc n 0 l) {k : Nat} (hk : k < l.length) : stN (toN l) k < (toN l).getD k 0 := by
  have key : ∀ {l : List Int} {last : Int}, 0 ≤ last → asc n last l → ∀ k, k < l.length → (if k = 0 then last.toNat else (toN l).getD (k - 1) 0) < (toN l).getD k 0 := by
    intro l
    induction l with
    | nil => intro last _ _ k hk; simp at hk
    | cons e r ih =>
      intro last hl h k hk
      obtain ⟨h1, h2, h3, h4⟩ := h
      cases k with
      | zero => simp [toN]; omega
      | succ k =>
        have := ih (last := e) (by omega) h4 k (by simpa using hk)
        cases k with
        | zero => simpa [toN] using this
        | succ k => simpa [toN] using this
  have := key (Int.le_refl 0) h k hk
  unfold stN
  simpa using this
theorem asc_le {n : Int} : ∀ {l : List Int} {last : Int}, asc n last l → ∀ e ∈ l, 1 ≤ e ∧ e ≤ n
  | [], _, _ => by simp
  | e :: r, last, h => by
    obtain ⟨h1, h2, h3, h4⟩ := h
    intro x hx
    rcases List.mem_cons.1 hx with rfl | hx
    · exact ⟨h2, h3⟩
    · exact asc_le h4 x hx
theorem up_append (a b : List Nat) : up (a ++ b) = up a ++ up b := by simp [up]
theorem up_snoc (a : List Nat) (q : Nat) : up (a ++ [q]) = up a ++ [(q : Int)] := by simp [up]
theorem toN_up (E : List Nat) : toN (up E) = E := by
  simp only [toN, up, List.map_map]
  conv => rhs; rw [← List.map_id E]
  exact List.map_congr_left fun x _ => by simp
end Line

/- Lines of ends, one by one. -/
set_option linter.unusedVariables false
set_option linter.unusedSimpArgs false
namespace Line
theorem getD_append_lt {E r : List Nat} {k : Nat} (h : k < E.length) : (E ++ r).getD k 0 = E.getD k 0 := by
  rw [List.getD_eq_getElem?_getD, List.getElem?_append_left h, ← List.getD_eq_getElem?_getD]
theorem getD_last (E : List Nat) (h : E ≠ []) : E.getD (E.length - 1) 0 = E.getLastD 0 := by
  rw [List.getLastD_eq_getLast?, List.getD_eq_getElem?_getD, List.getLast?_eq_getElem?]
theorem stN_append {E r : List Nat} : stN (E ++ r) E.length = E.getLastD 0 := by
  unfold stN
  split
  · rename_i h
    have : E = [] := List.eq_nil_of_length_eq_zero h
    subst this; rfl
  · rename_i h
    rw [getD_append_lt (by omega), getD_last E (by rintro rfl; simp at h)]
theorem spansN_append (E r : List Nat) : spansN (E ++ r) E.length = spansN E E.length := by
  unfold spansN
  refine List.map_congr_left fun k hk => ?_
  have hk := List.mem_range.1 hk
  unfold spanN stN
  rw [getD_append_lt hk]
  split
  · rfl
  · rw [getD_append_lt (by omega)]
theorem spansN_snoc (E : List Nat) (x : Nat) : spansN (E ++ [x]) (E.length + 1) = spansN E E.length ++ [(E.getLastD 0, x)] := by
  rw [spansN_succ, spansN_append]
  unfold spanN
  rw [stN_append, List.getD_eq_getElem?_getD, List.getElem?_append_right (Nat.le_refl _)]
  simp
theorem over_snoc (w : Int) (ws : List Int) (E : List Nat) (x : Nat) : over w ws (E ++ [x]) = (over w ws E || decide (lf w ws (E.getLastD 0) x < 0)) := by
  unfold over
  rw [List.length_append, List.length_singleton, spansN_snoc, List.any_append]
  simp
theorem up_lastD (E : List Nat) : (up E).getLastD 0 = (E.getLastD 0 : Nat) := by
  cases E with
  | nil => rfl
  | cons a l => simp [up, List.getLastD_eq_getLast?, List.getLast?_map, List.getLast?_cons]
/-- Ends that ascend, end with the last word, and fit. -/
theorem ended_mk {w : Int} {ws : List Int} {E : List Nat} (hc : chk w ws = 0) (ha : asc ws.length 0 (up E)) (hl : E.getLastD 0 = ws.length) (ho : over w ws E = false) : endedE w ws (up E) = 0 := by
  have hs : scan ws.length 0 (up E) = 0 := by
    have := scan_asc [] ha
    rw [List.append_nil] at this
    rw [this, up_lastD, hl]; simp [scan]
  rw [endedE, hc, hs, toN_up, ho]; simp

/-- What the first lines cost, but for those from a number on. -/
def wantE (w : Int) (ws : List Int) (E : List Nat) (m : Nat) : Nat → Int
  | 0 => 0
  | i + 1 => wantE w ws E m i + if i < m then sqf w ws (stN E i) (E.getD i 0) else 0
theorem costS_append {w : Int} {ws : List Int} {last p : Nat × Nat} {l : List (Nat × Nat)} : costS w ws last (l ++ [p]) = costS w ws last l + if p = last then 0 else sqf w ws p.1 p.2 := by
  simp [costS]
theorem costE_eq {w : Int} {ws : List Int} {E : List Nat} {n : Int} (ha : asc n 0 (up E)) (hne : E ≠ []) : ∀ i, i ≤ E.length → costS w ws (spanN E (E.length - 1)) (spansN E i) = wantE w ws E (E.length - 1) i
  | 0, _ => rfl
  | i + 1, h => by
    have hlen : 0 < E.length := List.length_pos_iff.2 hne
    rw [spansN_succ, costS_append, costE_eq ha hne i (by omega), wantE]
    congr 1
    by_cases hi : i < E.length - 1
    · rw [if_neg, if_pos hi]
      · rfl
      · intro he
        have h1 := congrArg Prod.snd he
        simp only [spanN] at h1
        have mono : ∀ d k, k + d + 1 < E.length → E.getD k 0 < E.getD (k + d + 1) 0 := by
          intro d
          induction d with
          | zero =>
            intro k hk
            have := stN_lt ha (k := k + 1) (by simpa using hk)
            rw [toN_up] at this
            simpa [stN] using this
          | succ d ih =>
            intro k hk
            have a1 := ih k (by omega)
            have := stN_lt ha (k := k + d + 1 + 1) (by simp; omega)
            rw [toN_up] at this
            simp only [stN, Nat.add_one_sub_one] at this
            rw [if_neg (by omega)] at this
            have e : k + (d + 1) + 1 = k + d + 1 + 1 := by omega
            rw [e]
            omega
        have := mono (E.length - 1 - i - 1) i (by omega)
        rw [show i + (E.length - 1 - i - 1) + 1 = E.length - 1 by omega] at this
        omega
    · have : i = E.length - 1 := by omega
      subst this
      rw [if_pos rfl, if_neg (by omega)]
theorem psum_len (ws : List Int) : psum ws ws.length = ws.sum + ws.length := by simp [psum]
theorem ended_up {w : Int} {ws es : List Int} (h : endedE w ws es = 0) : up (toN es) = es := by
  obtain ⟨h1, h2, h3⟩ : chk w ws = 0 ∧ scan ws.length 0 es = 0 ∧ over w ws (toN es) = false := by
    unfold endedE at h
    by_cases h1 : chk w ws = 0 <;> simp only [h1, ne_eq, not_true, not_false_eq_true, if_true, if_false] at h
    · by_cases h2 : scan ws.length 0 es = 0 <;> simp only [h2, ne_eq, not_true, not_false_eq_true, if_true, if_false] at h
      · refine ⟨h1, h2, ?_⟩
        cases h3 : over w ws (toN es) <;> simp [h3] at h ⊢
  exact up_toN fun e he => (scan_range h2 e he).1
end Line

/- Full lines, and lines that get longer. -/
set_option linter.unusedVariables false
namespace Line
theorem psum_mono {ws : List Int} (h : ∀ x ∈ ws, 1 ≤ x) {i j : Nat} (hij : i ≤ j) (hj : j ≤ ws.length) : psum ws i + 2 * ((j : Int) - i) ≤ psum ws j := by
  induction j with
  | zero => have : i = 0 := by omega
            subst this; omega
  | succ j ih =>
    by_cases he : i = j + 1
    · subst he; omega
    · have := ih (by omega) (by omega)
      rw [psum_succ (by omega)]
      have hm : ws.getD j 0 ∈ ws := by rw [List.getD_eq_getElem?_getD]; simp [show j < ws.length by omega]
      have := h _ hm
      omega
theorem lf_mono {w : Int} {ws : List Int} (hc : chk w ws = 0) {i j k : Nat} (hij : i ≤ j) (hjk : j ≤ k) (hk : k ≤ ws.length) : lf w ws i k ≤ lf w ws i j := by
  have := psum_mono (ws := ws) (fun x hx => ((chk_ok hc).2.2.2.2 x hx).1) hjk hk
  rw [lf_eq (by omega) (by omega), lf_eq (by omega) (by omega)]
  omega
theorem endN_eq {w : Int} {ws : List Int} {i m : Nat} (h1 : 1 ≤ m) (h2 : 0 ≤ lf w ws i m) : ∀ d, (∀ j, m < j → j ≤ m + d → lf w ws i j < 0) → endN w ws i (m + d) = m
  | 0, _ => by
    obtain ⟨m, rfl⟩ : ∃ m', m = m' + 1 := ⟨m - 1, by omega⟩
    rw [Nat.add_zero, endN, if_neg (by omega)]
  | d + 1, h => by
    rw [← Nat.add_assoc, endN, if_pos (h _ (by omega) (by omega))]
    exact endN_eq h1 h2 d fun j hj hj2 => h j hj (by omega)
theorem endN_greedy {w : Int} {ws : List Int} (hc : chk w ws = 0) {i m : Nat} (h1 : i < m) (h2 : 0 ≤ lf w ws i m) (hm : m ≤ ws.length) (h3 : m = ws.length ∨ lf w ws i (m + 1) < 0) : endN w ws i ws.length = m := by
  have := endN_eq (w := w) (ws := ws) (i := i) (m := m) (by omega) h2 (ws.length - m) fun j hj hj2 => by
    rcases h3 with h3 | h3
    · omega
    · have := lf_mono hc (i := i) (j := m + 1) (k := j) (by omega) (by omega) (by omega)
      omega
  rwa [show m + (ws.length - m) = ws.length by omega] at this
theorem fullE_done (w : Int) (ws : List Int) (f : Nat) : fullE w ws f ws.length = [] := by cases f <;> simp [fullE]
theorem wantE_m {w : Int} {ws : List Int} {E : List Nat} {m : Nat} : ∀ {i m' : Nat}, i ≤ m → i ≤ m' → wantE w ws E m i = wantE w ws E m' i
  | 0, _, _, _ => rfl
  | i + 1, m', h1, h2 => by
    rw [wantE, wantE, wantE_m (m' := m') (by omega) (by omega), if_pos (by omega), if_pos (by omega)]
end Line

/- The best of the last lines to a place. -/
set_option linter.unusedVariables false
namespace Line
def costL (w : Int) (ws : List Int) (P : List (Int × Nat)) (j i : Nat) : Int := (P.getD i (0, 0)).1 + sqf w ws i j
/-- The least cost of a last line to a place, and the first place where it begins. -/
def bst (w : Int) (ws : List Int) (P : List (Int × Nat)) (j : Nat) (r : Int × Nat) : Prop :=
  r.2 < j ∧ 0 ≤ lf w ws r.2 j ∧ r.1 = costL w ws P j r.2 ∧ ∀ i, i < j → 0 ≤ lf w ws i j → r.1 ≤ costL w ws P j i ∧ (i < r.2 → r.1 < costL w ws P j i)
theorem bst_unique {w : Int} {ws : List Int} {P : List (Int × Nat)} {j : Nat} {r r' : Int × Nat} (h : bst w ws P j r) (h' : bst w ws P j r') : r = r' := by
  obtain ⟨a1, a2, a3, a4⟩ := h
  obtain ⟨b1, b2, b3, b4⟩ := h'
  have h1 := a4 _ b1 b2
  have h2 := b4 _ a1 a2
  rw [← b3] at h1
  rw [← a3] at h2
  have e1 : r.1 = r'.1 := by omega
  have e2 : r.2 = r'.2 := by
    rcases Nat.lt_trichotomy r.2 r'.2 with h | h | h
    · have := h2.2 h; omega
    · exact h
    · have := h1.2 h; omega
  exact Prod.ext e1 e2
theorem lf_mono2 {w : Int} {ws : List Int} (hc : chk w ws = 0) {i j k : Nat} (hij : i ≤ j) (hjk : j ≤ k) (hk : k ≤ ws.length) : lf w ws i k ≤ lf w ws j k := by
  have := psum_mono (ws := ws) (fun x hx => ((chk_ok hc).2.2.2.2 x hx).1) hij (by omega)
  rw [lf_eq (by omega) (by omega), lf_eq (by omega) (by omega)]
  omega
theorem scanB_bst {w : Int} {ws : List Int} {P : List (Int × Nat)} {j : Nat} (hc : chk w ws = 0) (hj : 1 ≤ j) (hjn : j ≤ ws.length) : ∀ (m : Nat) (acc : Int × Nat), m ≤ j →
    (m < j → m ≤ acc.2 ∧ acc.2 < j ∧ 0 ≤ lf w ws acc.2 j ∧ acc.1 = costL w ws P j acc.2 ∧ ∀ i, m ≤ i → i < j → acc.1 ≤ costL w ws P j i ∧ (i < acc.2 → acc.1 < costL w ws P j i)) → bst w ws P j (scanB w ws P j m acc)
  | 0, acc, _, h => by
    obtain ⟨_, h2, h3, h4, h5⟩ := h (by omega)
    exact ⟨h2, h3, h4, fun i hi _ => h5 i (by omega) hi⟩
  | m + 1, acc, hm, h => by
    rw [scanB]
    split
    · rename_i hneg
      have hm1 : m + 1 < j := by
        by_cases he : m + 1 = j
        · exfalso
          have := lf_one hc (show m < ws.length by omega)
          rw [he] at this
          omega
        · omega
      obtain ⟨_, h2, h3, h4, h5⟩ := h hm1
      refine ⟨h2, h3, h4, fun i hi hf => ?_⟩
      by_cases hmi : m + 1 ≤ i
      · exact h5 i hmi hi
      · have := lf_mono2 hc (i := i) (j := m) (k := j) (by omega) (by omega) hjn
        omega
    · rename_i hnn
      refine scanB_bst hc hj hjn m _ (by omega) fun _ => ?_
      by_cases hmj : m + 1 = j
      · rw [if_pos (.inl hmj)]
        refine ⟨Nat.le_refl _, by omega, Int.not_lt.1 hnn, rfl, fun i h1 h2 => ?_⟩
        have : i = m := by omega
        subst this
        exact ⟨Int.le_refl _, fun h => absurd h (Nat.lt_irrefl _)⟩
      · obtain ⟨h1, h2, h3, h4, h5⟩ := h (by omega)
        have hcm : (P.getD m (0, 0)).1 + sqf w ws m j = costL w ws P j m := rfl
        rw [hcm]
        by_cases hle : costL w ws P j m ≤ acc.1
        · rw [if_pos (.inr hle)]
          refine ⟨Nat.le_refl _, by omega, Int.not_lt.1 hnn, rfl, fun i g1 g2 => ?_⟩
          by_cases him : i = m
          · subst him
            exact ⟨Int.le_refl _, fun h => absurd h (Nat.lt_irrefl _)⟩
          · have := h5 i (by omega) g2
            exact ⟨by simp only; omega, fun h => by simp only at h; omega⟩
        · rw [if_neg (by omega)]
          refine ⟨by omega, h2, h3, h4, fun i g1 g2 => ?_⟩
          by_cases him : i = m
          · subst him
            exact ⟨by omega, fun _ => by omega⟩
          · exact h5 i (by omega) g2
theorem pls_bst {w : Int} {ws : List Int} (hc : chk w ws = 0) {k : Nat} (hk : k < ws.length) : bst w ws (pls w ws k) (k + 1) ((pls w ws (k + 1)).getD (k + 1) (0, 0)) := by
  have e : (pls w ws (k + 1)).getD (k + 1) (0, 0) = scanB w ws (pls w ws k) (k + 1) (k + 1) (0, 0) := by
    rw [pls, List.getD_eq_getElem?_getD, List.getElem?_append_right (by simp)]
    simp
  rw [e]
  exact scanB_bst hc (by omega) (by omega) (k + 1) (0, 0) (Nat.le_refl _) fun h => absurd h (Nat.lt_irrefl _)
theorem costL_pls {w : Int} {ws : List Int} {k d j i : Nat} (h : i ≤ k) : costL w ws (pls w ws (k + d)) j i = costL w ws (pls w ws k) j i := by
  unfold costL; rw [pls_get h]

/-- Last lines do not begin before those of fewer words. -/
theorem start_mono {w : Int} {ws : List Int} (hc : chk w ws = 0) {k : Nat} (hk : k + 1 < ws.length) : ((pls w ws (k + 1)).getD (k + 1) (0, 0)).2 ≤ ((pls w ws (k + 2)).getD (k + 2) (0, 0)).2 := by
  have h1 := pls_bst hc (k := k) (by omega)
  have h2 : bst w ws (pls w ws (k + 1)) (k + 2) ((pls w ws (k + 2)).getD (k + 2) (0, 0)) := pls_bst hc (k := k + 1) hk
  generalize (pls w ws (k + 1)).getD (k + 1) (0, 0) = r at *
  generalize (pls w ws (k + 2)).getD (k + 2) (0, 0) = r' at *
  obtain ⟨c, s⟩ := r
  obtain ⟨c', s'⟩ := r'
  obtain ⟨a1, a2, a3, a4⟩ := h1
  obtain ⟨b1, b2, b3, b4⟩ := h2
  simp only at *
  by_cases hlt : s' < s
  · exfalso
    have f1 : lf w ws s' (k + 2) ≤ lf w ws s' (k + 1) := lf_mono hc (by omega) (by omega) (by omega)
    have f2 : lf w ws s' (k + 2) ≤ lf w ws s (k + 2) := lf_mono2 hc (by omega) (by omega) (by omega)
    have g1 := (a4 s' (by omega) (by omega)).2 hlt
    have g2 := (b4 s (by omega) (by omega)).1
    have e1 : costL w ws (pls w ws (k + 1)) (k + 2) s' = (( pls w ws k).getD s' (0, 0)).1 + sqf w ws s' (k + 2) := by
      rw [costL_pls (k := k) (d := 1) (by omega)]; rfl
    have e2 : costL w ws (pls w ws (k + 1)) (k + 2) s = ((pls w ws k).getD s (0, 0)).1 + sqf w ws s (k + 2) := by
      rw [costL_pls (k := k) (d := 1) (by omega)]; rfl
    rw [a3] at g1
    have hb3 : c' = costL w ws (pls w ws (k + 1)) (k + 2) s' := b3
    have g2' : c' ≤ costL w ws (pls w ws (k + 1)) (k + 2) s := g2
    rw [hb3, e1, e2] at g2'
    unfold costL at g1
    -- the squares
    have hx := lf_eq (w := w) (ws := ws) (i := s') (j := k + 2) (by omega) (by omega)
    have hy := lf_eq (w := w) (ws := ws) (i := s) (j := k + 2) (by omega) (by omega)
    have hz := lf_eq (w := w) (ws := ws) (i := s') (j := k + 1) (by omega) (by omega)
    have ht := lf_eq (w := w) (ws := ws) (i := s) (j := k + 1) (by omega) (by omega)
    unfold sqf at g1 g2'
    generalize lf w ws s' (k + 2) = x at *
    have hd : lf w ws s (k + 2) = x + (psum ws s - psum ws s') := by omega
    have he : lf w ws s' (k + 1) = x + (psum ws (k + 2) - psum ws (k + 1)) := by omega
    have hde : lf w ws s (k + 1) = x + (psum ws s - psum ws s') + (psum ws (k + 2) - psum ws (k + 1)) := by omega
    have hm1 : 0 ≤ psum ws s - psum ws s' := by omega
    have hm2 : 0 ≤ psum ws (k + 2) - psum ws (k + 1) := by omega
    rw [he, hde] at g1
    rw [hd] at g2'
    generalize psum ws s - psum ws s' = d at *
    generalize psum ws (k + 2) - psum ws (k + 1) = e at *
    have hpos : 0 ≤ d * e := Int.mul_nonneg hm1 hm2
    simp only [Int.mul_add, Int.add_mul] at g1 g2'
    have c1 : e * d = d * e := Int.mul_comm _ _
    have c2 : d * x = x * d := Int.mul_comm _ _
    have c3 : e * x = x * e := Int.mul_comm _ _
    rw [c1, c2, c3] at g1
    rw [c2] at g2'
    omega
  · omega
end Line

/- All ends; and full lines among them. -/
set_option linter.unusedVariables false
namespace Line
/-- All ends from a place on whose lines fit, in ascending order. -/
def ext (w : Int) (ws : List Int) : Nat → Nat → List (List Nat)
  | 0, fr => if fr = ws.length then [[]] else []
  | f + 1, fr => if fr = ws.length then [[]] else (List.range (ws.length - fr)).flatMap fun d => if lf w ws fr (fr + 1 + d) < 0 then [] else (ext w ws f (fr + 1 + d)).map (fun G => (fr + 1 + d) :: G)
/-- The same, to the places below one. -/
def extTo (w : Int) (ws : List Int) (f fr m : Nat) : List (List Nat) := (List.range m).flatMap fun d => if lf w ws fr (fr + 1 + d) < 0 then [] else (ext w ws f (fr + 1 + d)).map (fun G => (fr + 1 + d) :: G)
theorem extTo_succ (w : Int) (ws : List Int) (f fr m : Nat) : extTo w ws f fr (m + 1) = extTo w ws f fr m ++ if lf w ws fr (fr + 1 + m) < 0 then [] else (ext w ws f (fr + 1 + m)).map (fun G => (fr + 1 + m) :: G) := by
  unfold extTo
  rw [List.range_succ, List.flatMap_append]
  simp
theorem ext_succ {w : Int} {ws : List Int} {f fr : Nat} (h : fr ≠ ws.length) : ext w ws (f + 1) fr = extTo w ws f fr (ws.length - fr) := by
  rw [ext, if_neg h]; rfl
/-- Ends whose lines fit. -/
def okEnds (w : Int) (ws : List Int) (E : List Nat) : Prop := asc ws.length 0 (up E) ∧ E.getLastD 0 = ws.length ∧ over w ws E = false
theorem ok_ended {w : Int} {ws : List Int} {E : List Nat} (hc : chk w ws = 0) (h : okEnds w ws E) : endedE w ws (up E) = 0 := ended_mk hc h.1 h.2.1 h.2.2

/-- The first part of ends, that fits as far as it goes. -/
def prt (w : Int) (ws : List Int) (E : List Nat) : Prop := asc ws.length 0 (up E) ∧ over w ws E = false
theorem part_snoc {w : Int} {ws : List Int} {E : List Nat} {j : Nat} (h : prt w ws E) (h1 : E.getLastD 0 < j) (h2 : j ≤ ws.length) (h3 : 0 ≤ lf w ws (E.getLastD 0) j) : prt w ws (E ++ [j]) := by
  refine ⟨?_, ?_⟩
  · rw [up_snoc]
    exact asc_snoc h.1 (by rw [up_lastD]; omega) (by omega) (by omega)
  · rw [over_snoc, h.2]; simpa using h3
theorem part_nil (w : Int) (ws : List Int) : prt w ws [] := ⟨trivial, rfl⟩
theorem lastD_snoc (E : List Nat) (j : Nat) : (E ++ [j]).getLastD 0 = j := by simp
theorem leftL_snoc (w : Int) (ws : List Int) (E : List Nat) (j : Nat) : leftL w ws (E ++ [j]) (E.length + 1) = leftL w ws E E.length ++ [lf w ws (E.getLastD 0) j] := by
  rw [leftL_succ, stN_append]
  congr 1
  · unfold leftL
    refine List.map_congr_left fun k hk => ?_
    have hk := List.mem_range.1 hk
    rw [getD_append_lt hk]
    unfold stN
    split
    · rfl
    · rw [getD_append_lt (by omega)]
  · rw [List.getD_eq_getElem?_getD, List.getElem?_append_right (Nat.le_refl _)]
    simp

/-- All that are listed fit. -/
theorem ext_ok {w : Int} {ws : List Int} : ∀ (f fr : Nat) (E : List Nat), prt w ws E → E.getLastD 0 = fr → fr ≤ ws.length → ∀ F ∈ ext w ws f fr, okEnds w ws (E ++ F)
  | 0, fr, E, hp, he, hn, F, hF => by
    unfold ext at hF
    split at hF
    · simp at hF; subst hF
      rw [List.append_nil]
      exact ⟨hp.1, by omega, hp.2⟩
    · simp at hF
  | f + 1, fr, E, hp, he, hn, F, hF => by
    unfold ext at hF
    split at hF
    · simp at hF; subst hF
      rw [List.append_nil]
      exact ⟨hp.1, by omega, hp.2⟩
    · rw [List.mem_flatMap] at hF
      obtain ⟨d, hd, hF⟩ := hF
      have hd := List.mem_range.1 hd
      split at hF
      · simp at hF
      · rename_i hnn
        rw [List.mem_map] at hF
        obtain ⟨G, hG, rfl⟩ := hF
        have := ext_ok f (fr + 1 + d) (E ++ [fr + 1 + d]) (part_snoc hp (by omega) (by omega) (by rw [he]; omega)) (lastD_snoc _ _) (by omega) G hG
        rwa [List.append_assoc, List.singleton_append] at this

/-- Each line of full lines ends no sooner than that of any others. -/
theorem ok_lines {w : Int} {ws : List Int} {E : List Nat} (h : okEnds w ws E) {k : Nat} (hk : k < E.length) : stN E k < E.getD k 0 ∧ E.getD k 0 ≤ ws.length ∧ 0 ≤ lf w ws (stN E k) (E.getD k 0) := by
  obtain ⟨h1, h2, h3⟩ := h
  have a := stN_lt h1 (k := k) (by simpa using hk)
  rw [toN_up] at a
  refine ⟨a, ?_, ?_⟩
  · have := asc_le h1 ((E.getD k 0 : Nat) : Int) (by rw [← up_getD, List.getD_eq_getElem?_getD]; simp [hk])
    omega
  · unfold over at h3
    rw [List.any_eq_false] at h3
    have := h3 (spanN E k) (List.mem_of_getElem? (spansN_get hk))
    simp [spanN] at this
    exact this
theorem endN_max {w : Int} {ws : List Int} {i : Nat} : ∀ (m j : Nat), j ≤ m → 0 ≤ lf w ws i j → j ≤ endN w ws i m
  | 0, j, h, _ => by omega
  | m + 1, j, h, hn => by
    unfold endN
    split
    · rename_i hneg
      by_cases he : j = m + 1
      · subst he; omega
      · exact endN_max m j (by omega) hn
    · omega
theorem full_get {w : Int} {ws : List Int} : ∀ (f fr v : Nat), v < (fullE w ws f fr).length → (fullE w ws f fr).getD v 0 = endN w ws (if v = 0 then fr else (fullE w ws f fr).getD (v - 1) 0) ws.length
  | 0, fr, v, h => by simp [fullE] at h
  | f + 1, fr, v, h => by
    unfold fullE at h ⊢
    split at h
    · rename_i hlt
      rw [if_pos hlt]
      cases v with
      | zero => rfl
      | succ v =>
        have := full_get f (endN w ws fr ws.length) v (by simpa using h)
        rw [List.getD_cons_succ, this, if_neg (show ¬ (v + 1 = 0) by omega), Nat.add_sub_cancel]
        cases v with
        | zero => rfl
        | succ v => simp
    · simp at h
/-- Full ends reach the last word. -/
theorem full_last {w : Int} {ws : List Int} (hc : chk w ws = 0) : ∀ (f fr : Nat), fr < ws.length → ws.length - fr ≤ f → fullE w ws f fr ≠ [] ∧ (fullE w ws f fr).getD ((fullE w ws f fr).length - 1) 0 = ws.length
  | 0, fr, h, hf => by omega
  | f + 1, fr, h, hf => by
    have he := endN_range hc h ws.length h
    unfold fullE
    rw [if_pos h]
    refine ⟨by simp, ?_⟩
    by_cases hd : endN w ws fr ws.length < ws.length
    · obtain ⟨i1, i2⟩ := full_last hc f _ hd (by omega)
      have hl : 0 < (fullE w ws f (endN w ws fr ws.length)).length := List.length_pos_iff.2 i1
      rw [List.length_cons, Nat.add_sub_cancel]
      obtain ⟨m, hm⟩ : ∃ m, (fullE w ws f (endN w ws fr ws.length)).length = m + 1 := ⟨_, (Nat.succ_pred_eq_of_pos hl).symm⟩
      rw [hm, List.getD_cons_succ]
      rw [hm, Nat.add_sub_cancel] at i2
      exact i2
    · have : endN w ws fr ws.length = ws.length := by omega
      rw [this, fullE_done]; rfl
theorem endN_mono {w : Int} {ws : List Int} (hc : chk w ws = 0) {i i' : Nat} (h : i ≤ i') (hi : i' < ws.length) {j : Nat} (hij : i' ≤ j) (hj : j ≤ ws.length) (hf : 0 ≤ lf w ws i j) : j ≤ endN w ws i' ws.length :=
  endN_max _ _ hj (by have := lf_mono2 hc h hij hj; omega)
/-- Full lines are ahead of all others, line by line. -/
theorem full_ahead {w : Int} {ws : List Int} (hc : chk w ws = 0) {E : List Nat} (hE : okEnds w ws E) : ∀ v, v < E.length → v < (fullE w ws ws.length 0).length → E.getD v 0 ≤ (fullE w ws ws.length 0).getD v 0
  | 0, h1, h2 => by
    obtain ⟨a1, a2, a3⟩ := ok_lines hE h1
    rw [full_get _ _ _ h2]
    simp only [if_true]
    exact endN_max _ _ a2 (by simpa [stN] using a3)
  | v + 1, h1, h2 => by
    have ih := full_ahead hc hE v (by omega) (by omega)
    obtain ⟨a1, a2, a3⟩ := ok_lines hE h1
    rw [full_get _ _ _ h2, if_neg (by omega), Nat.add_sub_cancel]
    have e : stN E (v + 1) = E.getD v 0 := by simp [stN]
    rw [e] at a1 a3
    have hlt : (fullE w ws ws.length 0).getD v 0 < ws.length ∨ (fullE w ws ws.length 0).getD v 0 = ws.length ∨ ws.length < (fullE w ws ws.length 0).getD v 0 := by omega
    rcases hlt with h | h | h
    · by_cases hle : (fullE w ws ws.length 0).getD v 0 ≤ E.getD (v + 1) 0
      · exact endN_mono hc ih h hle a2 a3
      · have := endN_range hc h ws.length h
        omega
    · have hb := full_get (w := w) (ws := ws) ws.length 0 (v + 1) h2
      rw [if_neg (by omega), Nat.add_sub_cancel, h] at hb
      rw [h]
      -- there is no further line
      exfalso
      have hmem : ∀ (f fr v : Nat), v + 1 < (fullE w ws f fr).length → (fullE w ws f fr).getD v 0 < ws.length := by
        intro f
        induction f with
        | zero => intro fr v h; simp [fullE] at h
        | succ f ih2 =>
          intro fr v h
          unfold fullE at h ⊢
          split at h
          · rename_i hl
            rw [if_pos hl]
            cases v with
            | zero =>
              rw [List.getD_cons_zero]
              by_cases hd : endN w ws fr ws.length < ws.length
              · exact hd
              · have := endN_range hc hl ws.length hl
                have he : endN w ws fr ws.length = ws.length := by omega
                rw [he, fullE_done] at h
                simp at h
            | succ v =>
              rw [List.getD_cons_succ]
              exact ih2 _ v (by simpa using h)
          · simp at h
      have := hmem _ _ _ h2
      omega
    · exfalso
      have hv : v < (fullE w ws ws.length 0).length := by omega
      have hb := full_get (w := w) (ws := ws) ws.length 0 v hv
      have : ∀ m i, endN w ws i m ≤ m := by
        intro m
        induction m with
        | zero => intro i; simp [endN]
        | succ m ih3 =>
          intro i
          unfold endN
          split
          · have := ih3 i; omega
          · omega
      have := this ws.length (if v = 0 then 0 else (fullE w ws ws.length 0).getD (v - 1) 0)
      omega
/-- No ends have fewer lines. -/
theorem full_fewest {w : Int} {ws : List Int} (hc : chk w ws = 0) {E : List Nat} (hE : okEnds w ws E) : (fullE w ws ws.length 0).length ≤ E.length := by
  have hn := chk_ok hc
  have hne : E ≠ [] := by
    rintro rfl
    have := hE.2.1
    simp at this
    omega
  have hl : 0 < E.length := List.length_pos_iff.2 hne
  by_cases h : (fullE w ws ws.length 0).length ≤ E.length
  · exact h
  · exfalso
    have h1 := full_ahead hc hE (E.length - 1) (by omega) (by omega)
    rw [getD_last E hne, hE.2.1] at h1
    -- a full line that ends with the last word is the last
    have hmem : ∀ (f fr v : Nat), v + 1 < (fullE w ws f fr).length → (fullE w ws f fr).getD v 0 < ws.length := by
      intro f
      induction f with
      | zero => intro fr v h; simp [fullE] at h
      | succ f ih2 =>
        intro fr v h
        unfold fullE at h ⊢
        split at h
        · rename_i hl
          rw [if_pos hl]
          cases v with
          | zero =>
            rw [List.getD_cons_zero]
            by_cases hd : endN w ws fr ws.length < ws.length
            · exact hd
            · have := endN_range hc hl ws.length hl
              have he : endN w ws fr ws.length = ws.length := by omega
              rw [he, fullE_done] at h
              simp at h
          | succ v =>
            rw [List.getD_cons_succ]
            exact ih2 _ v (by simpa using h)
        · simp at h
    have := hmem ws.length 0 (E.length - 1) (by omega)
    omega
end Line

/- The first best ends fit. -/
set_option linter.unusedVariables false
namespace Line
theorem stepR_fit {w : Int} {ws : List Int} {n : Nat} {R : Nat → Best} {i j : Nat} (hj : j ≤ n) {acc : Best} (ha : acc.2.2 = 0 ∨ 0 ≤ lf w ws i acc.2.1) : (stepR w ws n R i j acc).2.2 = 0 ∨ 0 ≤ lf w ws i (stepR w ws n R i j acc).2.1 := by
  unfold stepR
  split
  · exact ha
  · rename_i hnn
    by_cases hjn : j < n
    · simp only [hjn, if_true]
      split
      · exact .inr (Int.not_lt.1 hnn)
      · split
        · exact .inr (Int.not_lt.1 hnn)
        · exact ha
    · have : j = n := by omega
      subst this
      simp only [hjn, if_false]
      split
      · exact .inr (Int.not_lt.1 hnn)
      · split
        · exact .inr (Int.not_lt.1 hnn)
        · exact ha
theorem scanR_fit {w : Int} {ws : List Int} {n : Nat} {R : Nat → Best} {i : Nat} : ∀ (m : Nat) (acc : Best), i + m ≤ n → (acc.2.2 = 0 ∨ 0 ≤ lf w ws i acc.2.1) → (scanR w ws n R i m acc).2.2 = 0 ∨ 0 ≤ lf w ws i (scanR w ws n R i m acc).2.1
  | 0, acc, _, h => h
  | m + 1, acc, hm, h => scanR_fit m _ (by omega) (stepR_fit (by omega) h)
theorem rst_fit {w : Int} {ws : List Int} : ∀ (k : Nat), k ≤ ws.length → ∀ i, ws.length - k ≤ i → i < ws.length → ((rst w ws ws.length k).getD (i - (ws.length - k)) (0, 0, 0)).2.2 = 0 ∨ 0 ≤ lf w ws i ((rst w ws ws.length k).getD (i - (ws.length - k)) (0, 0, 0)).2.1
  | 0, _ => by intro i h1 h2; omega
  | k + 1, hk => by
    intro i h1 h2
    by_cases hi : i = ws.length - (k + 1)
    · have := scanR_fit (w := w) (ws := ws) (n := ws.length) (R := fun j => (rst w ws ws.length k).getD (j - (ws.length - k)) (0, 0, 0)) (i := i) (k + 1) (0, 0, 0) (by omega) (.inl rfl)
      rw [hi] at this ⊢
      simpa only [rst, Nat.sub_self, List.getD_cons_zero] using this
    · have := rst_fit (w := w) k (by omega) i (by omega) h2
      rw [show i - (ws.length - (k + 1)) = (i - (ws.length - k)) + 1 by omega]
      simpa only [rst, List.getD_cons_succ] using this
theorem firstE_ok {w : Int} {ws : List Int} (hc : chk w ws = 0) : ∀ (f fr : Nat) (E : List Nat), prt w ws E → E.getLastD 0 = fr → fr ≤ ws.length → ws.length - fr ≤ f → okEnds w ws (E ++ firstE (rst w ws ws.length ws.length) ws.length f fr)
  | 0, fr, E, hp, he, hn, hf => by
    rw [firstE, List.append_nil]
    exact ⟨hp.1, by omega, hp.2⟩
  | f + 1, fr, E, hp, he, hn, hf => by
    unfold firstE
    split
    · rename_i hlt
      have h1 := rst_end hc ws.length (Nat.le_refl _) fr (by omega) hlt
      have h2 := rst_fit (w := w) (ws := ws) ws.length (Nat.le_refl _) fr (by omega) hlt
      rw [Nat.sub_self, Nat.sub_zero] at h1 h2
      generalize ((rst w ws ws.length ws.length).getD fr (0, 0, 0)) = b at *
      have h3 : 0 ≤ lf w ws fr b.2.1 := by
        rcases h2 with h2 | h2
        · omega
        · exact h2
      have := firstE_ok hc f b.2.1 (E ++ [b.2.1]) (part_snoc hp (by omega) h1.2.1 (by rw [he]; exact h3)) (lastD_snoc _ _) h1.2.1 (by omega)
      rwa [List.append_assoc, List.singleton_append] at this
    · rw [List.append_nil]
      exact ⟨hp.1, by omega, hp.2⟩
end Line

namespace Go.Proofs.Ytlajhbpkogekfaa
open Go.Av Line
set_option linter.unusedVariables false
set_option linter.unusedSimpArgs false
set_option maxRecDepth 4000

theorem slc_reads {H : Heap} {v : AV} {l : List Int} {i j : Nat} (h : Reads H v l) (hij : i < j) (hj : j ≤ l.length) :
    ∃ v', slc 1 v (some (.int .i64 (i : Int))) (some (.int .i64 (j : Int))) none = some v' ∧ Reads H v' ((l.drop i).take (j - i)) := by
  have n1 : ∀ d, natOf (some (.int .i64 (i : Int))) d = some i := fun d => by simp [natOf]
  have n2 : ∀ d, natOf (some (.int .i64 (j : Int))) d = some j := fun d => by simp [natOf]
  cases v <;> simp only [Reads] at h <;> try exact h.elim
  · subst h; simp at hj; omega
  · obtain ⟨rfl, rfl⟩ := h
    simp only [slc, n1, n2, Option.bind_some]
    rw [if_pos ⟨by omega, hj⟩]
    refine ⟨_, rfl, by simp; omega, ?_⟩
    rw [Nat.mul_one, Nat.mul_one, ints_drop, ints_take]
  · rename_i s b off n cp
    obtain ⟨rfl, rfl, cells, hb, hc, ht⟩ := h
    simp only [slc, n1, n2, Option.bind_some]
    rw [if_pos ⟨by trivial, by omega, hj, by omega⟩]
    refine ⟨_, rfl, rfl, by simp; omega, cells, hb, by omega, ?_⟩
    rw [Nat.mul_one, ← ints_take, ← ints_drop, ← ht, List.drop_take, List.take_take, List.drop_drop, Nat.min_eq_left (by omega)]

/-- left, of the law -/
theorem c43 {w : Int} {v : AV} {ws : List Int} {i j : Nat} {H : Heap} {K : AV → Heap → Prop} (hv : Reads H v ws) (hc : chk w ws = 0) (hij : i < j) (hj : j ≤ ws.length) (hk : K (.int .i64 (lf w ws i j)) H) :
    ACalls Try.prog 43 [.agg [.int .i64 w, v], .int .i64 i, .int .i64 j] H K := by
  apply W43_ok
  unfold W43
  obtain ⟨w1, w2, n1, n2, hws⟩ := chk_ok hc
  obtain ⟨v', hs, hr⟩ := slc_reads hv hij hj
  have hll : ((ws.drop i).take (j - i)).length = j - i := by simp; omega
  simp only [letO_some, cellsOf?_agg, cellsOf?_int, cellsOf?_bool, cellsOf?_imm, cellsOf?_ref, cellsOf?_nils, faddr_iptr, faddr_ptr, List.drop_succ_cons, List.drop_zero, List.take_succ_cons, List.take_zero, load1_iptr, loadN_iptr, List.length_cons, List.length_nil, Nat.le_refl, if_true, List.getElem?_cons_zero, List.getElem?_cons_succ, List.getD_cons_zero, List.getD_cons_succ, extrF_tup, binF_add, binF_sub, binF_mul, binF_eql, binF_neq, binF_lss, binF_leq, binF_gtr, binF_geq, true_and, hs, hr.len]
  refine ⟨fun L H' => ∃ (k : Nat), L = [.int .i64 (psum ws (i + k) - psum ws i - 1), .int .i64 k] ∧ i + k ≤ j ∧ H' = H, fun L _ => (j - i - iv L 1).toNat, ⟨0, by simp, by omega, rfl⟩, ?_⟩
  intro L H' hI
  obtain ⟨k, rfl, hk1, rfl⟩ := hI
  simp only [letO_some, cellsOf?_agg, cellsOf?_int, cellsOf?_bool, cellsOf?_imm, cellsOf?_ref, cellsOf?_nils, faddr_iptr, faddr_ptr, List.drop_succ_cons, List.drop_zero, List.take_succ_cons, List.take_zero, load1_iptr, loadN_iptr, List.length_cons, List.length_nil, Nat.le_refl, if_true, List.getElem?_cons_zero, List.getElem?_cons_succ, List.getD_cons_zero, List.getD_cons_succ, extrF_tup, binF_add, binF_sub, binF_mul, binF_eql, binF_neq, binF_lss, binF_leq, binF_gtr, binF_geq, true_and, hll]
  have hb1 := psum_le (ws := ws) (k := i) fun x hx => by have := hws x (List.mem_of_mem_take hx); omega
  have hb2 := psum_le (ws := ws) (k := i + k) fun x hx => by have := hws x (List.mem_of_mem_take hx); omega
  refine condA_t (fun hlt => ?_) (fun hge => ?_)
  · refine hr.get (Heap.le_refl _) (by omega) (by rw [hll]; exact hlt) ?_
    have hk2 : k < j - i := by omega
    have hg : ((ws.drop i).take (j - i)).getD (k : Int).toNat 0 = ws.getD (i + k) 0 := by
      rw [Int.toNat_natCast, List.getD_eq_getElem?_getD, List.getElem?_take_of_lt hk2, List.getElem?_drop, ← List.getD_eq_getElem?_getD]
    rw [hg]
    have hm : ws.getD (i + k) 0 ∈ ws := by rw [List.getD_eq_getElem?_getD]; simp [show i + k < ws.length by omega]
    have hx := hws _ hm
    have hp := psum_succ (show i + k < ws.length by omega)
    simp only [letO_some, cellsOf?_agg, cellsOf?_int, cellsOf?_bool, cellsOf?_imm, cellsOf?_ref, cellsOf?_nils, faddr_iptr, faddr_ptr, List.drop_succ_cons, List.drop_zero, List.take_succ_cons, List.take_zero, load1_iptr, loadN_iptr, List.length_cons, List.length_nil, Nat.le_refl, if_true, List.getElem?_cons_zero, List.getElem?_cons_succ, List.getD_cons_zero, List.getD_cons_succ, extrF_tup, binF_add, binF_sub, binF_mul, binF_eql, binF_neq, binF_lss, binF_leq, binF_gtr, binF_geq, true_and]
    rw [wrap_i64 (n := ws.getD (i + k) 0 + 1) (by omega) (by omega), wrap_i64 (n := psum ws (i + k) - psum ws i - 1 + (ws.getD (i + k) 0 + 1)) (by omega) (by omega), wrap_i64 (n := (k : Int) + 1) (by omega) (by omega)]
    try simp only [true_and, and_true]
    refine ⟨⟨k + 1, ?_, by omega⟩, by simp <;> omega⟩
    have e : psum ws (i + (k + 1)) - psum ws i - 1 = psum ws (i + k) - psum ws i - 1 + (ws.getD (i + k) 0 + 1) := by
      rw [show i + (k + 1) = i + k + 1 by omega, hp]; omega
    rw [e]
    rfl
  · have : i + k = j := by omega
    rw [this] at hb2 ⊢
    rw [wrap_i64 (by omega) (by omega)]
    rw [lf_eq (by omega) hj] at hk
    refine endK_ret ?_
    have e : w - (psum ws j - psum ws i - 1) = w + 1 - (psum ws j - psum ws i) := by omega
    rw [e]; exact hk

theorem conv53 {n : Int} (h : 0 ≤ n ∧ n < 256) : convF Try.prog 5 3 (.int .u8 n) = some (.int .i64 n) := by
  have h1 : Try.prog.underlying 5 = some (.int .u8) := by kernel_rfl
  have h2 : Try.prog.underlying 3 = some (.int .i64) := by kernel_rfl
  simp only [convF, h1, h2]
  rw [wrap_i64 (by omega) (by omega)]
theorem rem_nat {k : IntKind} {t : TypeId} {a b : Nat} (hb : b ≠ 0) : binF Try.prog .rem t (.int k (a : Int)) (.int k (b : Int)) = some (.int k ((a % b : Nat) : Int)) := by
  simp only [binF]
  rw [if_pos ⟨by trivial, by omega⟩, Int.ofNat_tmod]
theorem quo_nat {t : TypeId} {a b : Nat} (hb : b ≠ 0) (ha : a < 1000000000) : binF Try.prog .quo t (.int .i64 (a : Int)) (.int .i64 (b : Int)) = some (.int .i64 ((a / b : Nat) : Int)) := by
  simp only [binF]
  rw [if_pos ⟨by trivial, by omega⟩, ← Int.ofNat_tdiv]
  have := Nat.div_le_self a b
  generalize a / b = q at *
  rw [wrap_i64 (by omega) (by omega)]
theorem b24n {x : AV} (hx : cellsOf? x = some [x]) : buildF Try.prog 24 [(0, x)] = some (.agg [x, .nils]) := by
  rw [buildF_of (show buildPlan Try.prog 24 = some ([.int .i64 0, .nils], [(0, 1), (1, 1)]) by kernel_rfl)]
  simp [fillA, hx, splice]
def u8s (l : List Nat) : List AV := l.map fun (x : Nat) => .int .u8 (x : Int)
@[simp] theorem u8s_length (l : List Nat) : (u8s l).length = l.length := by simp [u8s]

/-- made -/
theorem c34 {W M S most : Nat} {l : List Nat} {H : Heap} {K : AV → Heap → Prop} (hW : W < 256) (hM : M < 256) (hS : S < 256) (hl : l.length = 10) (hlx : ∀ x ∈ l, x < 256) (hm : 1 ≤ most ∧ most ≤ 10)
    (hk : K (.agg [.int .i64 (gw W : Nat), sl (madeL W M S l most)]) H) : ACalls Try.prog 34 [.agg (u8s (W :: M :: S :: l)), .int .i64 most] H K := by
  apply W34_ok
  unfold W34
  have hgw := gw_range W
  have hgm := gmin_range W S
  have hr40 : binF Try.prog .rem 3 (.int .i64 (W : Int)) (.int .i64 40) = some (.int .i64 ((W % 40 : Nat) : Int)) := rem_nat (b := 40) (by decide)
  simp only [letO_some, cellsOf?_agg, cellsOf?_int, cellsOf?_bool, cellsOf?_imm, cellsOf?_ref, cellsOf?_nils, faddr_iptr, faddr_ptr, List.drop_succ_cons, List.drop_zero, List.take_succ_cons, List.take_zero, load1_iptr, loadN_iptr, List.length_cons, List.length_nil, Nat.le_refl, if_true, List.getElem?_cons_zero, List.getElem?_cons_succ, List.getD_cons_zero, List.getD_cons_succ, extrF_tup, binF_add, binF_sub, binF_mul, binF_eql, binF_neq, binF_lss, binF_leq, binF_gtr, binF_geq, true_and, u8s, List.map_cons, conv53 (show (0 : Int) ≤ W ∧ (W : Int) < 256 by omega), hr40]
  intro b4 hb4
  have e1 : (1 : Int) + ((W % 40 : Nat) : Int) = ((gw W : Nat) : Int) := by unfold gw; omega
  rw [e1, wrap_i64 (by omega) (by omega)]
  simp only [b24n cellsOf?_int, letO_some]
  refine alloc_store (cs := [.int .i64 (gw W : Nat), .nils]) rfl rfl rfl rfl fun b5 hb5 => ?_
  have hne : b4 ≠ b5 := Heap.ne_of Heap.put_same hb5
  have hb5' : H b5 = none := by rwa [Heap.put_ne (Ne.symm hne)] at hb5
  generalize hH4 : (H.put b4 [.int .i64 0, .nils]).put b5 [.int .i64 (gw W : Nat), .nils] = H4
  have l50 : load1 (.ptr b5 0) H4 = some (.int .i64 (gw W : Nat)) := load1_at (by subst hH4; exact Heap.put_same) rfl
  have hr3 : binF Try.prog .rem 5 (.int .u8 (S : Int)) (.int .u8 3) = some (.int .u8 ((S % 3 : Nat) : Int)) := rem_nat (b := 3) (by decide)
  have hq2 : binF Try.prog .quo 3 (.int .i64 (gw W : Nat)) (.int .i64 2) = some (.int .i64 ((gw W / 2 : Nat) : Int)) := quo_nat (b := 2) (by decide) (by omega)
  simp only [letO_some, cellsOf?_agg, cellsOf?_int, cellsOf?_bool, cellsOf?_imm, cellsOf?_ref, cellsOf?_nils, faddr_iptr, faddr_ptr, List.drop_succ_cons, List.drop_zero, List.take_succ_cons, List.take_zero, load1_iptr, loadN_iptr, List.length_cons, List.length_nil, Nat.le_refl, if_true, List.getElem?_cons_zero, List.getElem?_cons_succ, List.getD_cons_zero, List.getD_cons_succ, extrF_tup, binF_add, binF_sub, binF_mul, binF_eql, binF_neq, binF_lss, binF_leq, binF_gtr, binF_geq, true_and, Nat.zero_add, l50, hr3, hq2]
  refine ⟨fun L h => L = [.int .i64 (glong W S : Nat)] ∧ h = H4, ?_, ?_⟩
  · refine condA_t (fun hgt => ?_) (fun hle => ?_)
    · have : glong W S = 1 + gw W / 2 := by unfold glong; rw [if_pos (by omega)]
      rw [this, wrap_i64 (by omega) (by omega)]
      exact ⟨by simp, rfl⟩
    · have : glong W S = gw W := by unfold glong; rw [if_neg (by omega)]
      rw [this]
      exact ⟨rfl, rfl⟩
  rintro L h ⟨rfl, rfl⟩
  have hrm : binF Try.prog .rem 3 (.int .i64 (M : Int)) (.int .i64 (most : Int)) = some (.int .i64 ((M % most : Nat) : Int)) := rem_nat (by omega)
  have hmm := Nat.mod_lt M (show most > 0 by omega)
  simp only [letO_some, cellsOf?_agg, cellsOf?_int, cellsOf?_bool, cellsOf?_imm, cellsOf?_ref, cellsOf?_nils, faddr_iptr, faddr_ptr, List.drop_succ_cons, List.drop_zero, List.take_succ_cons, List.take_zero, load1_iptr, loadN_iptr, List.length_cons, List.length_nil, Nat.le_refl, if_true, List.getElem?_cons_zero, List.getElem?_cons_succ, List.getD_cons_zero, List.getD_cons_succ, extrF_tup, binF_add, binF_sub, binF_mul, binF_eql, binF_neq, binF_lss, binF_leq, binF_gtr, binF_geq, true_and, conv53 (show (0 : Int) ≤ M ∧ (M : Int) < 256 by omega), hrm]
  have e2 : (1 : Int) + ((M % most : Nat) : Int) = ((1 + M % most : Nat) : Int) := by omega
  rw [e2, wrap_i64 (by omega) (by omega)]
  generalize hn : 1 + M % most = n at *
  have hsl : slcArr 10 1 (.iptr (l.map fun (x : Nat) => AV.int .u8 (x : Int))) none (some (.int .i64 (n : Int))) none = some (.imm n (n == 10) (u8s (l.take n))) := by
    have e : natOf (some (.int .i64 (n : Int))) 10 = some n := by simp [natOf]
    have e3 : natOf none 0 = some 0 := rfl
    simp only [slcArr, e, e3, Option.bind_some]
    rw [if_pos ⟨by omega, by omega⟩]
    simp [u8s, List.map_take]
  simp only [hsl, letO_some, lenA]
  have hws : ∀ x ∈ madeL W M S l most, 1 ≤ x ∧ x ≤ 40 := fun x hx => by
    have := (chk_ok (chk_made (W := W) (M := M) (S := S) hl hm)).2.2.2.2 x hx
    omega
  let T : AV → List AV := fun X => [.int .i64 (gw W : Nat), X]
  refine ⟨fun L H' => ∃ (i : Nat) (X : AV), L = [.int .i64 i] ∧ i ≤ n ∧ Grow 1 ((H.put b4 [.int .i64 0, .nils]).put b5 (T X)) H' X i (ints (gwords W S (l.take i))), fun L _ => (n - iv L 0).toNat,
    ⟨0, .nils, rfl, by omega, by subst hH4; exact Grow.nils 1 _⟩, ?_⟩
  intro L H' hI
  obtain ⟨i, X, rfl, hi, hg⟩ := hI
  simp only [letO_some, cellsOf?_agg, cellsOf?_int, cellsOf?_bool, cellsOf?_imm, cellsOf?_ref, cellsOf?_nils, faddr_iptr, faddr_ptr, List.drop_succ_cons, List.drop_zero, List.take_succ_cons, List.take_zero, load1_iptr, loadN_iptr, List.length_cons, List.length_nil, Nat.le_refl, if_true, List.getElem?_cons_zero, List.getElem?_cons_succ, List.getD_cons_zero, List.getD_cons_succ, extrF_tup, binF_add, binF_sub, binF_mul, binF_eql, binF_neq, binF_lss, binF_leq, binF_gtr, binF_geq, true_and]
  have hHb : H' b5 = some (T X) := hg.le _ _ Heap.put_same
  refine condA_t (fun hlt => ?_) (fun hge => ?_)
  · have hin : i < n := by omega
    have hil : i < l.length := by omega
    have hx : ((u8s (l.take n)).drop (i * 1))[0]? = some (.int .u8 (l[i] : Nat)) := by
      rw [List.getElem?_drop, Nat.mul_one, Nat.add_zero]
      simp [u8s, hil, hin]
    have hxl : l[i] < 256 := hlx _ (by simp)
    have l1 : load1 (.ptr b5 (0 + 1)) H' = some X := load1_at hHb rfl
    have l0 : load1 (.ptr b5 0) H' = some (.int .i64 (gw W : Nat)) := load1_at hHb rfl
    have hmin : min2F (.int .i64 (glong W S : Nat)) (.int .i64 (gw W : Nat)) = some (.int .i64 (gmin W S : Nat)) := by
      simp only [min2F]
      unfold gmin
      split <;> split <;> first | rfl | omega
    have hrx : binF Try.prog .rem 3 (.int .i64 ((l[i] : Nat) : Int)) (.int .i64 (gmin W S : Nat)) = some (.int .i64 ((l[i] % gmin W S : Nat) : Int)) := rem_nat (by omega)
    simp only [idx_imm hin, letO_some, cellsOf?_agg, cellsOf?_int, cellsOf?_bool, cellsOf?_imm, cellsOf?_ref, cellsOf?_nils, faddr_iptr, faddr_ptr, List.drop_succ_cons, List.drop_zero, List.take_succ_cons, List.take_zero, load1_iptr, loadN_iptr, List.length_cons, List.length_nil, Nat.le_refl, if_true, List.getElem?_cons_zero, List.getElem?_cons_succ, List.getD_cons_zero, List.getD_cons_succ, extrF_tup, binF_add, binF_sub, binF_mul, binF_eql, binF_neq, binF_lss, binF_leq, binF_gtr, binF_geq, true_and, hx, conv53 (show (0 : Int) ≤ (l[i] : Nat) ∧ ((l[i] : Nat) : Int) < 256 by omega), l1, l0, hmin, hrx]
    have hmx := Nat.mod_lt l[i] (show gmin W S > 0 by omega)
    have e3 : (1 : Int) + ((l[i] % gmin W S : Nat) : Int) = ((1 + l[i] % gmin W S : Nat) : Int) := by omega
    rw [e3, wrap_i64 (by omega) (by omega)]
    simp only [l22 cellsOf?_int, letO_some]
    refine appendA_one hg (by omega) fun v' H'' hg' => ?_
    refine storeA_of (cs := [v']) (hg'.le _ _ Heap.put_same) hg'.cells (by simp [hg'.scalar]) rfl (by simp [T]) ?_
    rw [wrap_i64 (by omega) (by omega)]
    refine ⟨⟨i + 1, v', by simp, by omega, ?_⟩, by simp <;> omega⟩
    have e4 : gwords W S (l.take (i + 1)) = gwords W S (l.take i) ++ [((1 + l[i] % gmin W S : Nat) : Int)] := by
      unfold gwords
      rw [List.take_add_one, List.getElem?_eq_getElem hil, List.map_append]
      rfl
    rw [e4]
    have := hg'.put (y := T v') Heap.put_same
    rw [Heap.put_put] at this
    simpa [splice, T] using this
  · have hin : i = n := by omega
    subst hin
    have hL : loadN 2 (.ptr b5 0) H' = some (.agg [.int .i64 (gw W : Nat), X]) := loadN_at hHb
    have hb4H : H' b4 = some [.int .i64 0, .nils] := hg.le _ _ (by rw [Heap.put_ne hne]; exact Heap.put_same)
    simp only [hL, letO_some]
    refine storeA_of (cs := [.int .i64 (gw W : Nat), X]) hb4H rfl (by simp only [List.all_cons, hg.scalar]; rfl) rfl (by simp) ?_
    have e5 : splice [.int .i64 0, .nils] 0 [.int .i64 (gw W : Nat), X] = [.int .i64 (gw W : Nat), X] := rfl
    rw [e5]
    rw [show loadN 2 (.ptr b4 0) (Heap.put H' b4 [.int .i64 (gw W : Nat), X]) = some (.agg [.int .i64 (gw W : Nat), X]) from loadN_at (cells := [.int .i64 (gw W : Nat), X]) Heap.put_same]
    simp only [letO_some]
    have hg1 := hg.put (c := b4) (x := [.int .i64 0, .nils]) (y := [.int .i64 (gw W : Nat), X]) (by rw [Heap.put_ne hne]; exact Heap.put_same)
    obtain ⟨H2, hl2, hg2⟩ := hg1.shrink (H := H) (Heap.le_put (Heap.le_put (Heap.le_put_self hb4) hb5') hb4)
    refine endK_pub (r' := .agg [.int .i64 (gw W : Nat), X]) (Pub.drop hl2) ?_
    refine hg2.endG (f := fun v => .agg [.int .i64 (gw W : Nat), v]) (fun b => ⟨fun e => by subst e; rfl, fun e => by subst e; rfl, fun e => by subst e; have := Grow.frz hg2.1 b; simp only [lift, List.map, this]; rfl⟩) ?_
    have hlen := made_len (W := W) (M := M) (S := S) hl hm
    rw [sl, hlen, hn] at hk
    rw [madeL, hn] at hk
    exact hk
theorem shr_ex {t : TypeId} {k k' : IntKind} {a b : Int} (hb : 0 ≤ b) : ∃ y, binF Try.prog .shr t (.int k a) (.int k' b) = some (.int k y) := by
  simp only [binF]
  rw [if_neg (by omega)]
  exact ⟨_, rfl⟩
theorem and_ex {t : TypeId} {k : IntKind} {a b : Int} : ∃ y, binF Try.prog .and t (.int k a) (.int k b) = some (.int k y) := by
  simp only [binF, if_true]
  exact ⟨_, rfl⟩
theorem slc_pre {H : Heap} {v : AV} {l : List Int} {k : Nat} (h : Reads H v l) (hk : k ≤ l.length) : ∃ v', slc 1 v none (some (.int .i64 (k : Int))) none = some v' ∧ Reads H v' (l.take k) := by
  have n1 : ∀ d, natOf none d = some d := fun d => rfl
  have n2 : ∀ d, natOf (some (.int .i64 (k : Int))) d = some k := fun d => by simp [natOf]
  cases v <;> simp only [Reads] at h <;> try exact h.elim
  · subst h
    have : k = 0 := by simpa using hk
    subst this
    simp only [slc, n1, n2, Option.bind_some]
    exact ⟨_, rfl, rfl⟩
  · obtain ⟨rfl, rfl⟩ := h
    simp only [slc, n1, n2, Option.bind_some]
    rw [if_pos ⟨by omega, hk⟩]
    refine ⟨_, rfl, by simp; omega, ?_⟩
    rw [Nat.mul_one, Nat.zero_mul, List.drop_zero, Nat.sub_zero, ints_take]
  · rename_i s b off n cp
    obtain ⟨rfl, rfl, cells, hb, hc, ht⟩ := h
    simp only [slc, n1, n2, Option.bind_some]
    rw [if_pos ⟨by trivial, by omega, hk, by simp⟩]
    refine ⟨_, rfl, rfl, by simp; omega, cells, hb, by omega, ?_⟩
    rw [Nat.zero_mul, Nat.add_zero, Nat.sub_zero, ← ints_take, ← ht, List.take_take, Nat.min_eq_left hk]

theorem any_succ (F : List Nat) (i : Nat) (g : Nat × Nat → Bool) : (spansN F (i + 1)).any g = ((spansN F i).any g || g (stN F i, F.getD i 0)) := by
  rw [spansN_succ, List.any_append]
  simp [spanN]

@[simp] theorem iv_three {k : IntKind} {n : Int} {x y z : AV} {L : List AV} : iv (x :: y :: z :: .int k n :: L) 3 = n := rfl
theorem wantE_bd {w : Int} {ws : List Int} (hc : chk w ws = 0) (E : List Nat) (m : Nat) : ∀ i, 0 ≤ wantE w ws E m i ∧ wantE w ws E m i ≤ 40000000000 * i
  | 0 => by simp [wantE]
  | i + 1 => by
    have := wantE_bd hc E m i
    have := sqf_bnd hc (stN E i) (E.getD i 0)
    rw [wantE]
    split <;> omega
theorem leftL_get {w : Int} {ws : List Int} {E : List Nat} {n k : Nat} (h : k < n) : (leftL w ws E n).getD k 0 = lf w ws (stN E k) (E.getD k 0) := by
  rw [List.getD_eq_getElem?_getD]
  simp only [leftL, List.getElem?_map]
  rw [List.getElem?_range h]
  rfl
theorem sum_take_succ {ws : List Int} {k : Nat} (h : k < ws.length) : (ws.take (k + 1)).sum = (ws.take k).sum + ws.getD k 0 := by
  rw [List.take_add_one, List.sum_append, List.getD_eq_getElem?_getD, List.getElem?_eq_getElem h]
  simp

end Go.Proofs.Ytlajhbpkogekfaa

namespace Go.Proofs.Ytlajhbpkogekfaa
open Go.Av Line
set_option linter.unusedVariables false
set_option linter.unusedSimpArgs false
set_option maxRecDepth 4000

def eqt {α : Type} (a b : α) : Prop := a = b
theorem not_b {b : Bool} : unF .not (.bool b) = some (.bool !b) := rfl
theorem frz_sl {b n : Nat} {l : List Int} (hn : n = l.length) : frz1 b (ints l) (.ref 1 b 0 n none) = sl l := by
  subst hn
  have h : (0 : Nat) + l.length * 1 ≤ (ints l).length := by simp
  show (if b = b ∧ 0 + l.length * 1 ≤ (ints l).length then AV.imm l.length false (((ints l).drop 0).take (l.length * 1)) else .ref 1 b 0 l.length none) = sl l
  rw [if_pos ⟨rfl, h⟩, List.drop_zero, List.take_of_length_le (by simp)]
  rfl
/-- filled -/
theorem c35 {w : Int} {v : AV} {ws : List Int} {H : Heap} {K : AV → Heap → Prop} (hv : Reads H v ws) (hc : chk w ws = 0) (hk : K (sl (up (fullE w ws ws.length 0))) H) : ACalls Try.prog 35 [.agg [.int .i64 w, v]] H K := by
  apply W35_ok
  unfold W35
  obtain ⟨w1, w2, n1, n2, hws⟩ := chk_ok hc
  simp only [letO_some, cellsOf?_agg, cellsOf?_int, cellsOf?_bool, cellsOf?_imm, cellsOf?_ref, cellsOf?_nils, faddr_iptr, faddr_ptr, List.drop_succ_cons, List.drop_zero, List.take_succ_cons, List.take_zero, load1_iptr, loadN_iptr, List.length_cons, List.length_nil, Nat.le_refl, if_true, List.getElem?_cons_zero, List.getElem?_cons_succ, List.getD_cons_zero, List.getD_cons_succ, extrF_tup, binF_add, binF_sub, binF_mul, binF_eql, binF_neq, binF_lss, binF_leq, binF_gtr, binF_geq, true_and]
  refine ⟨fun L H' => ∃ (fr f : Nat) (l : List Nat) (X : AV), eqt L [X, .int .i64 fr] ∧ fr ≤ ws.length ∧ Grow 1 H H' X l.length (ints (up l)) ∧ l.length ≤ fr ∧ ws.length - fr ≤ f ∧ l ++ fullE w ws f fr = fullE w ws ws.length 0, fun L _ => (ws.length - iv L 1).toNat,
    ⟨0, ws.length, [], .nils, rfl, by omega, Grow.nils 1 H, by simp, by omega, rfl⟩, ?_⟩
  intro L H' hI
  obtain ⟨fr, f, l, X, rfl, hn, hg, hl, hf, hE⟩ := hI
  have hv' := hv.le hg.le
  simp only [letO_some, cellsOf?_agg, cellsOf?_int, cellsOf?_bool, cellsOf?_imm, cellsOf?_ref, cellsOf?_nils, faddr_iptr, faddr_ptr, List.drop_succ_cons, List.drop_zero, List.take_succ_cons, List.take_zero, load1_iptr, loadN_iptr, List.length_cons, List.length_nil, Nat.le_refl, if_true, List.getElem?_cons_zero, List.getElem?_cons_succ, List.getD_cons_zero, List.getD_cons_succ, extrF_tup, binF_add, binF_sub, binF_mul, binF_eql, binF_neq, binF_lss, binF_leq, binF_gtr, binF_geq, true_and, hv.len]
  refine condA_t (fun hlt => ?_) (fun hge => ?_)
  · have hlt : fr < ws.length := by omega
    rw [wrap_i64 (by omega) (by omega)]
    refine ⟨fun L H'' => ∃ to : Nat, eqt L [.int .i64 to] ∧ fr < to ∧ to ≤ ws.length ∧ 0 ≤ lf w ws fr to ∧ eqt H'' H', fun L _ => (ws.length - iv L 0).toNat, ⟨fr + 1, rfl, by omega, by omega, lf_one hc hlt, rfl⟩, ?_⟩
    intro L H'' hJ
    obtain ⟨to, rfl, h1, h2, h3, rfl⟩ := hJ
    obtain ⟨f, rfl⟩ : ∃ f', f = f' + 1 := ⟨f - 1, by omega⟩
    simp only [letO_some, cellsOf?_agg, cellsOf?_int, cellsOf?_bool, cellsOf?_imm, cellsOf?_ref, cellsOf?_nils, faddr_iptr, faddr_ptr, List.drop_succ_cons, List.drop_zero, List.take_succ_cons, List.take_zero, load1_iptr, loadN_iptr, List.length_cons, List.length_nil, Nat.le_refl, if_true, List.getElem?_cons_zero, List.getElem?_cons_succ, List.getD_cons_zero, List.getD_cons_succ, extrF_tup, binF_add, binF_sub, binF_mul, binF_eql, binF_neq, binF_lss, binF_leq, binF_gtr, binF_geq, true_and]
    have stop : (to = ws.length ∨ lf w ws fr (to + 1) < 0) → appendA 1 8 X (.imm 1 true [.int .i64 to]) (fun t31 H14 => (∃ (fr f : Nat) (l : List Nat) (X : AV), eqt [t31, .int .i64 to] [X, .int .i64 fr] ∧ fr ≤ ws.length ∧ Grow 1 H H14 X l.length (ints (up l)) ∧ l.length ≤ fr ∧ ws.length - fr ≤ f ∧ l ++ fullE w ws f fr = fullE w ws ws.length 0) ∧
        (ws.length - iv [t31, .int .i64 to] 1).toNat < (ws.length - iv [X, .int .i64 fr] 1).toNat) H'' := by
      intro hgr
      refine appendA_one hg (by omega) fun v' H7 hg7 => ⟨⟨to, f, l ++ [to], v', rfl, h2, ?_, by simp; omega, by omega, ?_⟩, by simp; omega⟩
      · rw [up_snoc]; simpa using hg7
      · rw [← hE, fullE, if_pos hlt, endN_greedy hc h1 h3 h2 hgr]
        simp
    by_cases ht : to < ws.length
    · have e1 : decide ((to : Int) < (ws.length : Int)) = true := by simp; omega
      have hto1 : IntKind.i64.wrap ((to : Int) + 1) = ((to + 1 : Nat) : Int) := by rw [wrap_i64 (by omega) (by omega)]; simp
      simp only [e1, gval_bool, if_true, letO_some, hto1, binF_add, condG_tt]
      refine exJ ?_
      refine c43 hv' hc (show fr < to + 1 by omega) (by omega) ?_
      simp only [gval_bool, if_true, letO_some, binF_geq, pickF_true]
      refine condA_t (fun hnn => ?_) (fun hneg => ?_)
      · exact ⟨⟨to + 1, rfl, by omega, by omega, hnn, rfl⟩, by simp <;> omega⟩
      · simp only [l22 cellsOf?_int, letO_some]
        exact stop (.inr (by omega))
    · have e1 : decide ((to : Int) < (ws.length : Int)) = false := by simp; omega
      simp only [e1, gval_bool, Bool.false_eq_true, if_false, letO_some, condG_ff]
      refine exU ?_
      simp only [gval_bool, Bool.false_eq_true, if_false, letO_some, pickF_false, condA_ff, l22 cellsOf?_int]
      exact stop (.inl (by omega))
  · have hfr : fr = ws.length := by omega
    subst hfr
    rw [fullE_done, List.append_nil] at hE
    rw [← hE, sl, up_length] at hk
    exact hg.end1 hk

/-- each$1: the ends that begin so, in order, are handed to a function -/
theorem c80 {w : Int} {ws : List Int} {g : FuncId} {caps : List AV} {b4 : Nat} (hc : chk w ws = 0) (Inv : List (List Nat) → Heap → Prop)
    (hput : ∀ done H, Inv done H → H b4 = some [.fn 80 [.iptr [.int .i64 w, sl ws], .iptr [.fn g caps], .ptr b4 0]])
    (hvis : ∀ done H F, okEnds w ws F → Inv done H → ∀ K : AV → Heap → Prop, (∀ r H', Inv (done ++ [F]) H' → K r H') → ACalls Try.prog g ([sl (up F), sl (leftL w ws F F.length)] ++ caps) H K) :
    ∀ (f fr : Nat) (E : List Nat) (done : List (List Nat)) (H : Heap) (K : AV → Heap → Prop), prt w ws E → E.getLastD 0 = fr → fr ≤ ws.length → ws.length - fr ≤ f → E.length ≤ fr → Inv done H → (∀ H', Inv (done ++ (ext w ws f fr).map (fun G => E ++ G)) H' → K (.tup []) H') →
      ACalls Try.prog 80 [sl (up E), sl (leftL w ws E E.length), .int .i64 fr, .iptr [.int .i64 w, sl ws], .iptr [.fn g caps], .ptr b4 0] H K := by
  obtain ⟨w1, w2, n1, n2, hws⟩ := chk_ok hc
  intro f
  induction f with
  | zero =>
    intro fr E done H K hp he hn hf hel hI hk
    apply W80_ok
    unfold W80
    have hvl := (Reads.sl H ws).len
    have hfr : fr = ws.length := by omega
    have e1 : ((fr : Int) == (ws.length : Int)) = true := by rw [hfr]; exact beq_self_eq_true _
    simp only [letO_some, cellsOf?_agg, cellsOf?_int, cellsOf?_bool, cellsOf?_imm, cellsOf?_ref, cellsOf?_nils, faddr_iptr, faddr_ptr, List.drop_succ_cons, List.drop_zero, List.take_succ_cons, List.take_zero, load1_iptr, loadN_iptr, List.length_cons, List.length_nil, Nat.le_refl, if_true, List.getElem?_cons_zero, List.getElem?_cons_succ, List.getD_cons_zero, List.getD_cons_succ, extrF_tup, binF_add, binF_sub, binF_mul, binF_eql, binF_neq, binF_lss, binF_leq, binF_gtr, binF_geq, true_and, hvl, e1, condA_tt, callA_fn]
    refine hvis done H E ⟨hp.1, by omega, hp.2⟩ hI _ fun r H' hI' => ?_
    refine endK_ret (hk _ ?_)
    rw [ext, if_pos hfr]
    simpa using hI'
  | succ f ih =>
    intro fr E done H K hp he hn hf hel hI hk
    apply W80_ok
    unfold W80
    have hvl : ∀ H, lenA (sl ws) = some (.int .i64 ws.length) := fun H => (Reads.sl H ws).len
    by_cases hfr : fr = ws.length
    · have e1 : ((fr : Int) == (ws.length : Int)) = true := by rw [hfr]; exact beq_self_eq_true _
      simp only [letO_some, cellsOf?_agg, cellsOf?_int, cellsOf?_bool, cellsOf?_imm, cellsOf?_ref, cellsOf?_nils, faddr_iptr, faddr_ptr, List.drop_succ_cons, List.drop_zero, List.take_succ_cons, List.take_zero, load1_iptr, loadN_iptr, List.length_cons, List.length_nil, Nat.le_refl, if_true, List.getElem?_cons_zero, List.getElem?_cons_succ, List.getD_cons_zero, List.getD_cons_succ, extrF_tup, binF_add, binF_sub, binF_mul, binF_eql, binF_neq, binF_lss, binF_leq, binF_gtr, binF_geq, true_and, hvl H, e1, condA_tt, callA_fn]
      refine hvis done H E ⟨hp.1, by omega, hp.2⟩ hI _ fun r H' hI' => ?_
      refine endK_ret (hk _ ?_)
      rw [ext, if_pos hfr]
      simpa using hI'
    · have e1 : ((fr : Int) == (ws.length : Int)) = false := by simp; omega
      have hEl : lenA (sl (up E)) = some (.int .i64 E.length) := by have := (Reads.sl H (up E)).len; simpa using this
      simp only [letO_some, cellsOf?_agg, cellsOf?_int, cellsOf?_bool, cellsOf?_imm, cellsOf?_ref, cellsOf?_nils, faddr_iptr, faddr_ptr, List.drop_succ_cons, List.drop_zero, List.take_succ_cons, List.take_zero, load1_iptr, loadN_iptr, List.length_cons, List.length_nil, Nat.le_refl, if_true, List.getElem?_cons_zero, List.getElem?_cons_succ, List.getD_cons_zero, List.getD_cons_succ, extrF_tup, binF_add, binF_sub, binF_mul, binF_eql, binF_neq, binF_lss, binF_leq, binF_gtr, binF_geq, true_and, hvl H, hEl, e1, condA_ff]
      rw [wrap_i64 (by omega) (by omega)]
      rw [ext_succ hfr] at hk
      refine ⟨fun L H' => ∃ m : Nat, eqt L [.int .i64 ((fr + 1 + m : Nat) : Int)] ∧ fr + 1 + m ≤ ws.length + 1 ∧ Inv (done ++ (extTo w ws f fr m).map (fun G => E ++ G)) H', fun L _ => (ws.length + 1 - iv L 0).toNat, ⟨0, by unfold eqt; congr 2, by omega, by simpa [extTo] using hI⟩, ?_⟩
      intro L H' hJ
      obtain ⟨m, rfl, hm, hI'⟩ := hJ
      simp only [letO_some, cellsOf?_agg, cellsOf?_int, cellsOf?_bool, cellsOf?_imm, cellsOf?_ref, cellsOf?_nils, faddr_iptr, faddr_ptr, List.drop_succ_cons, List.drop_zero, List.take_succ_cons, List.take_zero, load1_iptr, loadN_iptr, List.length_cons, List.length_nil, Nat.le_refl, if_true, List.getElem?_cons_zero, List.getElem?_cons_succ, List.getD_cons_zero, List.getD_cons_succ, extrF_tup, binF_add, binF_sub, binF_mul, binF_eql, binF_neq, binF_lss, binF_leq, binF_gtr, binF_geq, true_and, hvl H']
      refine condA_t (fun hle => ?_) (fun hgt => ?_)
      · generalize hj : fr + 1 + m = j at *
        have hjn : j ≤ ws.length := by omega
        refine ⟨fun _ H'' => Inv (done ++ (extTo w ws f fr (m + 1)).map (fun G => E ++ G)) H'', ?_, ?_⟩
        · refine c43 (Reads.sl _ _) hc (show fr < j by omega) hjn ?_
          simp only [letO_some, cellsOf?_agg, cellsOf?_int, cellsOf?_bool, cellsOf?_imm, cellsOf?_ref, cellsOf?_nils, faddr_iptr, faddr_ptr, List.drop_succ_cons, List.drop_zero, List.take_succ_cons, List.take_zero, load1_iptr, loadN_iptr, List.length_cons, List.length_nil, Nat.le_refl, if_true, List.getElem?_cons_zero, List.getElem?_cons_succ, List.getD_cons_zero, List.getD_cons_succ, extrF_tup, binF_add, binF_sub, binF_mul, binF_eql, binF_neq, binF_lss, binF_leq, binF_gtr, binF_geq, true_and]
          refine condA_t (fun hnn => ?_) (fun hneg => ?_)
          · have hb4 := hput _ _ hI'
            have lp : load1 (.ptr b4 0) H' = some (.fn 80 [.iptr [.int .i64 w, sl ws], .iptr [.fn g caps], .ptr b4 0]) := load1_at hb4 rfl
            have hs : ∀ l : List Int, l.length = E.length → slc 1 (sl l) none (some (.int .i64 (E.length : Int))) (some (.int .i64 (E.length : Int))) = some (.imm E.length true (ints l)) := by
              intro l hl
              have e : ∀ d, natOf (some (.int .i64 (E.length : Int))) d = some E.length := fun d => by simp [natOf]
              have e2 : natOf none 0 = some 0 := rfl
              simp only [slc, sl, e, e2, Option.bind_some, hl]
              rw [if_pos ⟨by omega, by omega, by omega⟩]
              simp
              rw [List.take_of_length_le (by simp [hl])]
            simp only [lp, hs (up E) (by simp), hs (leftL w ws E E.length) (by simp), letO_some, l22 cellsOf?_int]
            refine ⟨rfl, ?_⟩
            refine appendA_oneR (H0 := H') (Grow.imm (by simp)) (by omega) fun A H10 gA oA => ⟨rfl, ?_⟩
            refine appendA_oneR (H0 := H10) (Grow.imm (by simp)) (by omega) fun B H11 gB oB => ?_
            obtain ⟨b10, hb10, rfl, rfl⟩ := gA.own oA
            obtain ⟨b11, hb11, rfl, rfl⟩ := gB.own oB
            have hne : b10 ≠ b11 := Heap.ne_of Heap.put_same hb11
            simp only [callA_fn, List.cons_append, List.nil_append]
            have hp1 : (up E ++ [(j : Int)]) = up (E ++ [j]) := by simp [up]
            have hp2 : leftL w ws E E.length ++ [lf w ws fr j] = leftL w ws (E ++ [j]) (E ++ [j]).length := by
              rw [List.length_append, List.length_singleton, leftL_snoc, he]
            rw [hp1] at hb11
            rw [hp1, hp2]
            let rest : List AV := [.int .i64 j, .iptr [.int .i64 w, sl ws], .iptr [.fn g caps], .ptr b4 0]
            have q1 : Pub (.tup (.ref 1 b10 0 (E.length + 1) none :: .ref 1 b11 0 (E.length + 1) none :: rest)) ((H'.put b10 (ints (up (E ++ [j])))).put b11 (ints (leftL w ws (E ++ [j]) (E ++ [j]).length))) (.tup (.ref 1 b10 0 (E.length + 1) none :: sl (leftL w ws (E ++ [j]) (E ++ [j]).length) :: rest)) (H'.put b10 (ints (up (E ++ [j])))) := by
              have := Pub.freeze (r := .tup (.ref 1 b10 0 (E.length + 1) none :: .ref 1 b11 0 (E.length + 1) none :: rest)) (H := (H'.put b10 (ints (up (E ++ [j])))).put b11 (ints (leftL w ws (E ++ [j]) (E ++ [j]).length))) (b := b11) (cells := ints (leftL w ws (E ++ [j]) (E ++ [j]).length)) Heap.put_same
              have f1 : frz1 b11 (ints (leftL w ws (E ++ [j]) (E ++ [j]).length)) (.ref 1 b10 0 (E.length + 1) none) = .ref 1 b10 0 (E.length + 1) none := by simp [frz1, hne]
              have f2 : frz1 b11 (ints (leftL w ws (E ++ [j]) (E ++ [j]).length)) (.ref 1 b11 0 (E.length + 1) none) = sl (leftL w ws (E ++ [j]) (E ++ [j]).length) := frz_sl (by simp)
              have f3 : lift (lift (frz1 b11 (ints (leftL w ws (E ++ [j]) (E ++ [j]).length)))) (.tup (.ref 1 b10 0 (E.length + 1) none :: .ref 1 b11 0 (E.length + 1) none :: rest)) = .tup (.ref 1 b10 0 (E.length + 1) none :: sl (leftL w ws (E ++ [j]) (E ++ [j]).length) :: rest) := by
                simp only [lift, List.map, f1, f2, rest]
                rfl
              rwa [f3, Heap.put_del hb11] at this
            have q2 : Pub (.tup (.ref 1 b10 0 (E.length + 1) none :: sl (leftL w ws (E ++ [j]) (E ++ [j]).length) :: rest)) (H'.put b10 (ints (up (E ++ [j])))) (.tup (sl (up (E ++ [j])) :: sl (leftL w ws (E ++ [j]) (E ++ [j]).length) :: rest)) H' := by
              have := Pub.freeze (r := .tup (.ref 1 b10 0 (E.length + 1) none :: sl (leftL w ws (E ++ [j]) (E ++ [j]).length) :: rest)) (H := H'.put b10 (ints (up (E ++ [j])))) (b := b10) (cells := ints (up (E ++ [j]))) Heap.put_same
              have f2 : frz1 b10 (ints (up (E ++ [j]))) (.ref 1 b10 0 (E.length + 1) none) = sl (up (E ++ [j])) := frz_sl (by simp)
              have f3 : lift (lift (frz1 b10 (ints (up (E ++ [j]))))) (.tup (.ref 1 b10 0 (E.length + 1) none :: sl (leftL w ws (E ++ [j]) (E ++ [j]).length) :: rest)) = .tup (sl (up (E ++ [j])) :: sl (leftL w ws (E ++ [j]) (E ++ [j]).length) :: rest) := by
                simp only [lift, List.map, f2, rest]
                rfl
              rwa [f3, Heap.put_del hb10] at this
            refine ACalls.pubArgs (q1.trans q2) ?_
            refine ih j (E ++ [j]) _ H' _ (part_snoc hp (by omega) hjn (by rw [he]; exact hnn)) (lastD_snoc _ _) hjn (by omega) (by simp; omega) hI' fun H12 hI12 => ?_
            have hx := extTo_succ w ws f fr m
            rw [hj, if_neg (by omega)] at hx
            rw [hx, List.map_append, ← List.append_assoc, List.map_map]
            have : ((fun G => E ++ G) ∘ fun G => j :: G) = fun G => E ++ [j] ++ G := by funext G; simp
            rw [this]
            exact hI12
          · have hx := extTo_succ w ws f fr m
            rw [hj, if_pos (by omega), List.append_nil] at hx
            rw [hx]
            exact hI'
        · intro L H'' hI''
          try simp only [letO_some, cellsOf?_agg, cellsOf?_int, cellsOf?_bool, cellsOf?_imm, cellsOf?_ref, cellsOf?_nils, faddr_iptr, faddr_ptr, List.drop_succ_cons, List.drop_zero, List.take_succ_cons, List.take_zero, load1_iptr, loadN_iptr, List.length_cons, List.length_nil, Nat.le_refl, if_true, List.getElem?_cons_zero, List.getElem?_cons_succ, List.getD_cons_zero, List.getD_cons_succ, extrF_tup, binF_add, binF_sub, binF_mul, binF_eql, binF_neq, binF_lss, binF_leq, binF_gtr, binF_geq, true_and]
          rw [wrap_i64 (by omega) (by omega)]
          exact ⟨⟨m + 1, by unfold eqt; congr 2; omega, by omega, hI''⟩, by simp <;> omega⟩
      · have hm' : m = ws.length - fr := by omega
        subst hm'
        exact endK_ret (hk _ hI')

/-- each -/
theorem c37 {w : Int} {ws : List Int} {g : FuncId} {caps : List AV} {H : Heap} {K : AV → Heap → Prop} (hc : chk w ws = 0) (Inv : Nat → List (List Nat) → Heap → Prop)
    (h0 : ∀ b, H b = none → Inv b [] (H.put b [.fn 80 [.iptr [.int .i64 w, sl ws], .iptr [.fn g caps], .ptr b 0]]))
    (hput : ∀ b done H, Inv b done H → H b = some [.fn 80 [.iptr [.int .i64 w, sl ws], .iptr [.fn g caps], .ptr b 0]])
    (hvis : ∀ b done H F, okEnds w ws F → Inv b done H → ∀ K : AV → Heap → Prop, (∀ r H', Inv b (done ++ [F]) H' → K r H') → ACalls Try.prog g ([sl (up F), sl (leftL w ws F F.length)] ++ caps) H K)
    (hk : ∀ b H', H b = none → Inv b (ext w ws ws.length 0) H' → K (.tup []) H') : ACalls Try.prog 37 [.agg [.int .i64 w, sl ws], .fn g caps] H K := by
  apply W37_ok
  unfold W37
  simp only [letO_some, cellsOf?_agg, cellsOf?_int, cellsOf?_bool, cellsOf?_imm, cellsOf?_ref, cellsOf?_nils, faddr_iptr, faddr_ptr, List.drop_succ_cons, List.drop_zero, List.take_succ_cons, List.take_zero, load1_iptr, loadN_iptr, List.length_cons, List.length_nil, Nat.le_refl, if_true, List.getElem?_cons_zero, List.getElem?_cons_succ, List.getD_cons_zero, List.getD_cons_succ, extrF_tup, binF_add, binF_sub, binF_mul, binF_eql, binF_neq, binF_lss, binF_leq, binF_gtr, binF_geq, true_and, cellsOf?_fn]
  obtain ⟨w1, w2, n1, n2, hws⟩ := chk_ok hc
  intro b hb
  refine storeA_of (cs := [.fn 80 [.iptr [.int .i64 w, sl ws], .iptr [.fn g caps], .ptr b 0]]) Heap.put_same rfl rfl rfl (by simp) ?_
  rw [Heap.put_put]
  have hsp : splice [AV.nilf] 0 [.fn 80 [.iptr [.int .i64 w, sl ws], .iptr [.fn g caps], .ptr b 0]] = [.fn 80 [.iptr [.int .i64 w, sl ws], .iptr [.fn g caps], .ptr b 0]] := rfl
  rw [hsp]
  rw [show load1 (.ptr b 0) (H.put b [.fn 80 [.iptr [.int .i64 w, sl ws], .iptr [.fn g caps], .ptr b 0]]) = some (.fn 80 [.iptr [.int .i64 w, sl ws], .iptr [.fn g caps], .ptr b 0]) from load1_at Heap.put_same rfl]
  simp only [letO_some, callA_fn, List.cons_append, List.nil_append]
  have hw : Pub (.tup [.nils, .nils, .int .i64 0, .iptr [.int .i64 w, sl ws], .iptr [.fn g caps], .ptr b 0]) (H.put b [.fn 80 [.iptr [.int .i64 w, sl ws], .iptr [.fn g caps], .ptr b 0]]) (.tup [sl (up []), sl (leftL w ws [] ([] : List Nat).length), .int .i64 (0 : Nat), .iptr [.int .i64 w, sl ws], .iptr [.fn g caps], .ptr b 0]) (H.put b [.fn 80 [.iptr [.int .i64 w, sl ws], .iptr [.fn g caps], .ptr b 0]]) := Pub.weak
  refine ACalls.pubArgs hw ?_
  refine c80 hc (Inv b) (hput b) (hvis b) ws.length 0 [] [] _ _ (part_nil w ws) rfl (by omega) (by omega) (by simp) (h0 b hb) fun H' hI => ?_
  refine endK_ret (hk b H' hb ?_)
  simpa using hI
end Go.Proofs.Ytlajhbpkogekfaa

namespace Go.Proofs.Ytlajhbpkogekfaa
open Go.Av Line
set_option linter.unusedVariables false
set_option linter.unusedSimpArgs false
set_option maxRecDepth 4000

theorem put_eq {H : Heap} {b : Nat} {cs : List AV} (h : H b = some cs) : H.put b cs = H := by
  funext x
  simp only [Heap.put]
  split
  · rename_i e; rw [e, h]
  · rfl
/-- the visitor of LineFull -/
theorem c38 {F want : List Nat} {R : AV} {b7 b4 : Nat} {H : Heap} {K : AV → Heap → Prop} (h7 : H b7 = some [.bool true]) (h4 : H b4 = some [sl (up want)]) (hF : F.length < 1000) (hw : want.length < 1000) (h1 : want.length ≤ F.length) (h2 : ∀ v, v < F.length → v < want.length → F.getD v 0 ≤ want.getD v 0)
    (hk : K (.tup []) H) : ACalls Try.prog 38 [sl (up F), R, .ptr b7 0, .ptr b4 0] H K := by
  apply W38_ok
  unfold W38
  have l7 : load1 (.ptr b7 0) H = some (.bool true) := load1_at h7 rfl
  have l4 : load1 (.ptr b4 0) H = some (sl (up want)) := load1_at h4 rfl
  have hFl : lenA (sl (up F)) = some (.int .i64 F.length) := by have := (Reads.sl H (up F)).len; simpa using this
  have hwl : lenA (sl (up want)) = some (.int .i64 want.length) := by have := (Reads.sl H (up want)).len; simpa using this
  have e1 : decide ((want.length : Int) ≤ (F.length : Int)) = true := by simp; omega
  simp only [letO_some, cellsOf?_agg, cellsOf?_int, cellsOf?_bool, cellsOf?_imm, cellsOf?_ref, cellsOf?_nils, faddr_iptr, faddr_ptr, List.drop_succ_cons, List.drop_zero, List.take_succ_cons, List.take_zero, load1_iptr, loadN_iptr, List.length_cons, List.length_nil, Nat.le_refl, if_true, List.getElem?_cons_zero, List.getElem?_cons_succ, List.getD_cons_zero, List.getD_cons_succ, extrF_tup, binF_add, binF_sub, binF_mul, binF_eql, binF_neq, binF_lss, binF_leq, binF_gtr, binF_geq, true_and, l7, l4, hFl, hwl, gval_bool, e1, pickF_true]
  refine storeA_of (cs := [.bool true]) h7 rfl rfl rfl (by simp) ?_
  have hsp : splice [AV.bool true] 0 [.bool true] = [.bool true] := rfl
  rw [hsp, put_eq h7]
  refine ⟨fun L H' => ∃ v : Nat, eqt L [.int .i64 v] ∧ v ≤ F.length ∧ eqt H' H, fun L _ => (F.length - iv L 0).toNat, ⟨0, rfl, by omega, rfl⟩, ?_⟩
  intro L H' hI
  obtain ⟨v, rfl, hv, rfl⟩ := hI
  simp only [letO_some, cellsOf?_agg, cellsOf?_int, cellsOf?_bool, cellsOf?_imm, cellsOf?_ref, cellsOf?_nils, faddr_iptr, faddr_ptr, List.drop_succ_cons, List.drop_zero, List.take_succ_cons, List.take_zero, load1_iptr, loadN_iptr, List.length_cons, List.length_nil, Nat.le_refl, if_true, List.getElem?_cons_zero, List.getElem?_cons_succ, List.getD_cons_zero, List.getD_cons_succ, extrF_tup, binF_add, binF_sub, binF_mul, binF_eql, binF_neq, binF_lss, binF_leq, binF_gtr, binF_geq, true_and]
  refine condA_t (fun hlt => ?_) (fun hge => ?_)
  · have hvF : v < F.length := by omega
    refine (Reads.sl H' (up F)).get (Heap.le_refl _) (by omega) (by simp; omega) ?_
    rw [Int.toNat_natCast, up_getD]
    have fin : storeA 1 (.ptr b7 0) (.bool true) (fun H6 => (∃ v' : Nat, eqt [AV.int .i64 (IntKind.i64.wrap ((v : Int) + 1))] [.int .i64 v'] ∧ v' ≤ F.length ∧ eqt H6 H') ∧ (F.length - iv [AV.int .i64 (IntKind.i64.wrap ((v : Int) + 1))] 0).toNat < (F.length - iv [AV.int .i64 (v : Int)] 0).toNat) H' := by
      refine storeA_of (cs := [.bool true]) h7 rfl rfl rfl (by simp) ?_
      rw [hsp, put_eq h7, wrap_i64 (by omega) (by omega)]
      exact ⟨⟨v + 1, rfl, by omega, rfl⟩, by simp; omega⟩
    simp only [l7, l4, hwl, letO_some, gval_bool, if_true, binF_geq]
    by_cases hvw : want.length ≤ v
    · have e2 : decide ((want.length : Int) ≤ (v : Int)) = true := by simp; omega
      simp only [e2, gval_bool, Bool.true_eq_false, if_false, letO_some, gval_undef, pickF_true]
      exact fin
    · have e2 : decide ((want.length : Int) ≤ (v : Int)) = false := by simp; omega
      have hi : idx 1 (sl (up want)) (.int .i64 (v : Int)) = some (.iptr ((ints (up want)).drop (v * 1))) := by
        unfold sl
        rw [up_length]
        exact idx_imm (by omega)
      have hl : ((ints (up want)).drop (v * 1))[0]? = some (.int .i64 (want.getD v 0 : Nat)) := by
        rw [List.getElem?_drop, Nat.mul_one, Nat.add_zero, ints_getElem?]
        have := up_getD want v
        rw [List.getD_eq_getElem?_getD, List.getElem?_eq_getElem (by simp; omega)] at this
        rw [List.getElem?_eq_getElem (by simp; omega)]
        simp only [Option.getD_some] at this
        rw [← this]; rfl
      have hle := h2 v hvF (by omega)
      have e3 : decide (((F.getD v 0 : Nat) : Int) ≤ ((want.getD v 0 : Nat) : Int)) = true := by simp only [decide_eq_true_eq]; omega
      simp only [e2, gval_bool, if_true, letO_some, hi, load1_iptr, hl, binF_leq, e3, pickF_false, pickF_true]
      exact fin
  · exact endK_ret hk

/-- LineFull -/
theorem c6 {W M S : Nat} {l : List Nat} {H : Heap} {K : AV → Heap → Prop} (hW : W < 256) (hM : M < 256) (hS : S < 256) (hl : l.length = 10) (hlx : ∀ x ∈ l, x < 256) (hk : ∀ H', H.le H' → K (.bool true) H') :
    ACalls Try.prog 6 [.agg (u8s (W :: M :: S :: l))] H K := by
  apply W6_ok
  unfold W6
  have hc := chk_made (W := W) (M := M) (S := S) (most := 9) hl (by omega)
  have hL13 : loadN 13 (.iptr (u8s (W :: M :: S :: l))) H = some (.agg (u8s (W :: M :: S :: l))) := by
    rw [loadN_iptr, if_pos (by simp [hl]), List.take_of_length_le (by simp [hl])]
  simp only [cellsOf?_agg, letO_some, hL13]
  refine c34 (most := 9) hW hM hS hl hlx (by omega) ?_
  generalize madeL W M S l 9 = ws at *
  generalize ((gw W : Nat) : Int) = w at *
  obtain ⟨w1, w2, n1, n2, hws⟩ := chk_ok hc
  refine alloc_store (cs := [.int .i64 w, sl ws]) rfl rfl rfl rfl fun b3 hb3 => ?_
  have hle3 := Heap.le_put_self (cs := [.int .i64 w, sl ws]) hb3
  have hb : (H.put b3 [.int .i64 w, sl ws]) b3 = some [.int .i64 w, sl ws] := Heap.put_same
  generalize H.put b3 [.int .i64 w, sl ws] = H3 at *
  have hL : ∀ {H5 : Heap}, H3.le H5 → loadN 2 (.ptr b3 0) H5 = some (.agg [.int .i64 w, sl ws]) := fun hl => loadN_at (cells := [.int .i64 w, sl ws]) (hl _ _ hb)
  have hv : ∀ {H : Heap}, Reads H (sl ws) ws := Reads.sl _ _
  simp only [hL (Heap.le_refl _), letO_some]
  refine c35 hv hc ?_
  have hfl : (fullE w ws ws.length 0).length ≤ ws.length := by
    have : ∀ f fr, (fullE w ws f fr).length ≤ f := by
      intro f
      induction f with
      | zero => intro fr; simp [fullE]
      | succ f ih =>
        intro fr
        rw [fullE]
        split
        · have := ih (endN w ws fr ws.length); simp; omega
        · simp
    exact this _ _
  have hfull : fullO w ws = up (fullE w ws ws.length 0) := by rw [fullO, if_pos hc]
  have hfirst : firstO w ws = up (firstL w ws) := by rw [firstO, if_pos hc]
  have hfok : okEnds w ws (firstL w ws) := by
    have := firstE_ok hc ws.length 0 [] (part_nil w ws) rfl (by omega) (by omega)
    rwa [List.nil_append] at this
  have hfew := full_fewest hc hfok
  have hokl : ∀ F, okEnds w ws F → F.length ≤ ws.length := by
    intro F hF
    have h1 := ok_ended hc hF
    have h2 := scan_len (ended_ok h1).2.1
    simp at h2; omega
  have hwant : ∀ {E : List Nat}, okEnds w ws E → (fullE w ws ws.length 0).length ≤ E.length := fun h => full_fewest hc h
  have hahead : ∀ {E : List Nat}, okEnds w ws E → ∀ v, v < E.length → v < (fullE w ws ws.length 0).length → E.getD v 0 ≤ (fullE w ws ws.length 0).getD v 0 := fun h => full_ahead hc h
  generalize fullE w ws ws.length 0 = want at *
  refine alloc_store (cs := [sl (up want)]) rfl rfl rfl rfl fun b4 hb4 => ?_
  have hle4 := Heap.le_put_self (cs := [sl (up want)]) hb4
  have hbw : (H3.put b4 [sl (up want)]) b4 = some [sl (up want)] := Heap.put_same
  generalize H3.put b4 [sl (up want)] = H4 at *
  have lw : load1 (.ptr b4 0) H4 = some (sl (up want)) := load1_at hbw rfl
  simp only [hL hle4, letO_some]
  refine c36 hv (by omega) ?_
  rw [hfull, hc]
  simp only [letO_some, cellsOf?_agg, cellsOf?_int, cellsOf?_bool, cellsOf?_imm, cellsOf?_ref, cellsOf?_nils, faddr_iptr, faddr_ptr, List.drop_succ_cons, List.drop_zero, List.take_succ_cons, List.take_zero, load1_iptr, loadN_iptr, List.length_cons, List.length_nil, Nat.le_refl, if_true, List.getElem?_cons_zero, List.getElem?_cons_succ, List.getD_cons_zero, List.getD_cons_succ, extrF_tup, binF_add, binF_sub, binF_mul, binF_eql, binF_neq, binF_lss, binF_leq, binF_gtr, binF_geq, true_and, gval_bool, Int.reduceBNe, Int.reduceBEq, pickF_true, pickF_false, reduceIte, Bool.true_eq_false, Bool.false_eq_true, if_false, condA_tt, condA_ff, condG_tt, condG_ff, condG_tt', condG_ff', condG_undef, gval_undef, lw]
  refine exJ ?_
  refine c25p (Reads.sl _ _) (Reads.sl _ _) (by simp; omega) ?_
  have d1 : decide (up want = up want) = true := decide_eq_true rfl
  rw [d1]
  simp only [not_b, Bool.not_true, Bool.not_false, letO_some, cellsOf?_agg, cellsOf?_int, cellsOf?_bool, cellsOf?_imm, cellsOf?_ref, cellsOf?_nils, faddr_iptr, faddr_ptr, List.drop_succ_cons, List.drop_zero, List.take_succ_cons, List.take_zero, load1_iptr, loadN_iptr, List.length_cons, List.length_nil, Nat.le_refl, if_true, List.getElem?_cons_zero, List.getElem?_cons_succ, List.getD_cons_zero, List.getD_cons_succ, extrF_tup, binF_add, binF_sub, binF_mul, binF_eql, binF_neq, binF_lss, binF_leq, binF_gtr, binF_geq, true_and, gval_bool, Int.reduceBNe, Int.reduceBEq, pickF_true, pickF_false, reduceIte, Bool.true_eq_false, Bool.false_eq_true, if_false, condA_tt, condA_ff, condG_tt, condG_ff, condG_tt', condG_ff', condG_undef, gval_undef]
  have hwl : ∀ {H : Heap}, lenA (sl (up want)) = some (.int .i64 want.length) := by intro H; have := (Reads.sl H (up want)).len; simpa using this
  refine alloc_store (cs := [.bool true]) rfl rfl rfl rfl fun b7 hb7 => ?_
  have hle7 := Heap.le_put_self (cs := [AV.bool true]) hb7
  have hb7' : (H4.put b7 [.bool true]) b7 = some [.bool true] := Heap.put_same
  generalize H4.put b7 [.bool true] = H7 at *
  have hle37 := Heap.le_trans hle4 hle7
  simp only [hL hle37, letO_some]
  refine c37 hc (fun b _ H' => eqt H' (H7.put b [.fn 80 [.iptr [.int .i64 w, sl ws], .iptr [.fn 38 [.ptr b7 0, .ptr b4 0]], .ptr b 0]]) ∧ H7 b = none) (fun b hb => ⟨rfl, hb⟩) (fun b done H' h => by rw [h.1]; exact Heap.put_same) (fun b done H' F hF h K hK => ?_) fun b H' hb h => ?_
  · obtain ⟨rfl, hn⟩ := h
    have hl7 := Heap.le_put_self (cs := [AV.fn 80 [.iptr [.int .i64 w, sl ws], .iptr [.fn 38 [.ptr b7 0, .ptr b4 0]], .ptr b 0]]) hn
    have := hokl F hF
    exact c38 (hl7 _ _ hb7') (hl7 _ _ (hle7 _ _ hbw)) (by omega) (by omega) (hwant hF) (hahead hF) (hK _ _ ⟨rfl, hn⟩)
  · obtain ⟨rfl, hn⟩ := h
    have hl7 := Heap.le_put_self (cs := [AV.fn 80 [.iptr [.int .i64 w, sl ws], .iptr [.fn 38 [.ptr b7 0, .ptr b4 0]], .ptr b 0]]) hn
    have lg : load1 (.ptr b7 0) (H7.put b [.fn 80 [.iptr [.int .i64 w, sl ws], .iptr [.fn 38 [.ptr b7 0, .ptr b4 0]], .ptr b 0]]) = some (.bool true) := load1_at (hl7 _ _ hb7') rfl
    simp only [hL (Heap.le_trans hle37 hl7), letO_some]
    refine c17 hv (by omega) ?_
    have hfl2 : lenA (sl (up (firstL w ws))) = some (.int .i64 (firstL w ws).length) := by have := (Reads.sl H7 (up (firstL w ws))).len; simpa using this
    have e : decide ((want.length : Int) ≤ ((firstL w ws).length : Int)) = true := by simp only [decide_eq_true_eq]; omega
    rw [hfirst, hc]
    simp only [letO_some, cellsOf?_agg, cellsOf?_int, cellsOf?_bool, cellsOf?_imm, cellsOf?_ref, cellsOf?_nils, faddr_iptr, faddr_ptr, List.drop_succ_cons, List.drop_zero, List.take_succ_cons, List.take_zero, load1_iptr, loadN_iptr, List.length_cons, List.length_nil, Nat.le_refl, if_true, List.getElem?_cons_zero, List.getElem?_cons_succ, List.getD_cons_zero, List.getD_cons_succ, extrF_tup, binF_add, binF_sub, binF_mul, binF_eql, binF_neq, binF_lss, binF_leq, binF_gtr, binF_geq, true_and, lg, gval_bool, beq_self_eq_true, pickF_true, hfl2, hwl (H := H7), e, condG_tt]
    refine exJ ?_
    refine c16 ?_
    try simp only [letO_some, cellsOf?_agg, cellsOf?_int, cellsOf?_bool, cellsOf?_imm, cellsOf?_ref, cellsOf?_nils, faddr_iptr, faddr_ptr, List.drop_succ_cons, List.drop_zero, List.take_succ_cons, List.take_zero, load1_iptr, loadN_iptr, List.length_cons, List.length_nil, Nat.le_refl, if_true, List.getElem?_cons_zero, List.getElem?_cons_succ, List.getD_cons_zero, List.getD_cons_succ, extrF_tup, binF_add, binF_sub, binF_mul, binF_eql, binF_neq, binF_lss, binF_leq, binF_gtr, binF_geq, true_and, gval_bool, Int.reduceBNe, Int.reduceBEq, pickF_true, pickF_false, reduceIte, Bool.true_eq_false, Bool.false_eq_true, if_false, condA_tt, condA_ff, condG_tt, condG_ff, condG_tt', condG_ff', condG_undef, gval_undef]
    exact endK_ret (hk _ (Heap.le_trans hle3 (Heap.le_trans hle37 hl7)))
theorem lineFull.law {W M S : Nat} {l : List Nat} (hW : W < 256) (hM : M < 256) (hS : S < 256) (hl : l.length = 10) (hlx : ∀ x ∈ l, x < 256) :
    ACalls Try.prog 6 [.agg (u8s (W :: M :: S :: l))] Heap.none fun r _ => r = .bool true := c6 hW hM hS hl hlx fun _ _ => rfl
end Go.Proofs.Ytlajhbpkogekfaa

/- MADE BY PROGRAM (row.py): the row of LineFull. -/
namespace Go.Proofs.Ytlajhbpkogekfaa.lineFull
open Go.ChangeShapes Go.WideShapes Go.ChangeAt Go.RowKit Go.Av
set_option linter.unusedVariables false

theorem own : ownKnob Try.prog.godebug = none := by kernel_rfl
theorem laidOut : laidOutB Try.prog = true := by kernel_rfl
theorem split13 {g : List Nat} (h : g.length = 13) : ∃ a b c l, g = a :: b :: c :: l ∧ l.length = 10 := by
  match g, h with
  | a :: b :: c :: l, h => exact ⟨a, b, c, l, rfl, by simpa using h⟩

set_option maxRecDepth 100000 in
theorem lifted (os : Os) (started : os.Started) (H : Type) (enc : TypeId × Value → H) :
    ReturnsInHanded {} Try.checked os 6 .any (Rows.lineFullSpec.pre6 enc Try.prog Try.f6 Rows.lineFullRow.domain false) (Rows.lineFullSpec.post enc Try.prog Try.f6 false true false false) := by
  refine returnsInHanded_of_change (C := Try.checked) own started (by kernel_rfl) Try.func6
    (ChangeSpec.witness6 (enc := enc) (C := Try.checked) false ⟨#[], #[.agg #[.int .u8 0, .int .u8 0, .int .u8 0, .int .u8 0, .int .u8 0, .int .u8 0, .int .u8 0, .int .u8 0, .int .u8 0, .int .u8 0, .int .u8 0, .int .u8 0, .int .u8 0]], []⟩ 8 (by kernel_rfl) (by kernel_rfl) (by kernel_rfl) (by kernel_rfl)) ?_
  intro W base args ds gs before hval0 hW hcnd _
  have hval : ∀ (j : Nat) t v, Try.f6.params[j]? = some t → args[j]? = some v → Value.okWide Try.prog W .any base t v := hval0
  have hW' := hW
  obtain ⟨p, q, hA0, hV, rfl, hfz, hnd⟩ := hW
  have hA : DataW.TrodAll enc Try.prog W 0 (fun _ => true) true Try.f6.params.toList args.toList ds p := hA0
  have hA1 := hA
  rw [Try.params6] at hA hval
  obtain ⟨rfl, rfl⟩ := trodVars_none hV
  clear hA0 hval0
  simp only [List.append_nil] at hW'
  have hlt : ∀ x ∈ p, x.block < W.heap.size := fun x hx => by simpa using hW'.lt x hx
  obtain ⟨v0, d0, rfl, rfl, h0⟩ := trodAll_one hA
  obtain ⟨g0, gl0, gx0, r0⟩ := rep_row (E := E0 W) (n := 13) (u := 5) (.inl ⟨_, Try.underlying47⟩) (by kernel_rfl) (by kernel_rfl) Try.underlying5 (hval 0 47 v0 rfl rfl)
  obtain ⟨W0, M0, S0, l0, rfl, hl0⟩ := split13 gl0
  refine ((law (gx0 _ (by simp)) (gx0 _ (by simp)) (gx0 _ (by simp)) hl0 (fun x hx => gx0 x (by simp [hx]))).2 (E0 W) W [v0] (st0 W) (RepL.cons r0 (RepL.nil _))).mono ?_
  rintro e W' ⟨r, v, E', H', rfl, hr, _, hx, rfl⟩
  cases hr
  exact ⟨_, rfl, _, _, _, [], _, [], hW', trodAll_cons_mk (shut_bool Try.underlying4 _) trodAll_mk0, hx.trodAll laidOut (by kernel_rfl) hA1 hlt, rfl, hx.kept _, fun h => by cases h⟩

theorem over : Rows.lineFullRow.holds Try.pinned (OpenSpec.ofChange Rows.lineFullSpec) :=
  OpenClaim.holds_of_wide 6 Try.f6 rfl rfl rfl rfl rfl rfl rfl ⟨rfl, rfl, rfl, rfl, rfl⟩ rfl rfl rfl rfl rfl (by kernel_rfl) Try.func6 (by kernel_rfl)
    (of_decide_eq_true (by kernel_rfl)) (by unfold Func.isWrapper; first | (rw [if_pos (by decide +kernel)]; kernel_rfl) | (rw [if_neg (by decide +kernel)]; exact ⟨rfl, rfl⟩))
    (fun os started H enc _ => lifted os started H enc)

theorem proved : Rows.LineFullSaid := over
#print axioms proved
end Go.Proofs.Ytlajhbpkogekfaa.lineFull
