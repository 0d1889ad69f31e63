import Derived.Test.YtlajhbpkogekfaaCon
import Derived.Test.YtlajhbpkogekfaaAvB
import Derived.Test.YtlajhbpkogekfaaRows
import Derived.Test.YtlajhbpkogekfaaLGrownW
/- LineGrown: for every input the law returns true, and the input reads as before. No conditions. -/
/- Texts by numbers. -/
set_option linter.unusedVariables false
namespace Line
def gw (W : Nat) : Nat := 1 + W % 40
def glong (W S : Nat) : Nat := if S % 3 > 0 then 1 + gw W / 2 else gw W
def gmin (W S : Nat) : Nat := if gw W < glong W S then gw W else glong W S
def gwords (W S : Nat) (l : List Nat) : List Int := l.map fun x => ((1 + x % gmin W S : Nat) : Int)
def madeL (W M S : Nat) (l : List Nat) (most : Nat) : List Int := gwords W S (l.take (1 + M % most))
theorem gw_range (W : Nat) : 1 ≤ gw W ∧ gw W ≤ 40 := by unfold gw; omega
theorem gmin_range (W S : Nat) : 1 ≤ gmin W S ∧ gmin W S ≤ gw W := by
  have := gw_range W
  unfold gmin glong
  split <;> split <;> omega
theorem made_len {W M S : Nat} {l : List Nat} {most : Nat} (hl : l.length = 10) (hm : 1 ≤ most ∧ most ≤ 10) : (madeL W M S l most).length = 1 + M % most := by
  have := Nat.mod_lt M (show most > 0 by omega)
  simp [madeL, gwords]; omega
theorem chk_made {W M S : Nat} {l : List Nat} {most : Nat} (hl : l.length = 10) (hm : 1 ≤ most ∧ most ≤ 10) : chk (gw W) (madeL W M S l most) = 0 := by
  have h1 := gw_range W
  have h2 := made_len (W := W) (M := M) (S := S) hl hm
  have h3 := Nat.mod_lt M (show most > 0 by omega)
  unfold chk
  rw [if_neg (by omega), if_neg (by omega), if_neg (by omega), if_pos]
  intro x hx
  simp only [madeL, gwords, List.mem_map] at hx
  obtain ⟨y, _, rfl⟩ := hx
  have h4 := gmin_range W S
  have := Nat.mod_lt y (show gmin W S > 0 by omega)
  omega
end Line

/- Ends in order. -/
set_option linter.unusedVariables false
namespace Line
/-- Ends that ascend, behind one, up to a last place. -/
def asc (n : Int) : Int → List Int → Prop
  | _, [] => True
  | last, e :: r => last < e ∧ 1 ≤ e ∧ e ≤ n ∧ asc n e r
theorem scan_asc {n : Int} : ∀ {l : List Int} {last : Int} (r : List Int), asc n last l → scan n last (l ++ r) = scan n (l.getLastD last) r
  | [], last, r, _ => rfl
  | e :: l, last, r, h => by
    obtain ⟨h1, h2, h3, h4⟩ := h
    rw [List.cons_append, scan, if_neg (by omega), if_neg (by omega), scan_asc r h4, List.getLastD_cons]
theorem asc_snoc {n : Int} : ∀ {l : List Int} {last x : Int}, asc n last l → l.getLastD last < x → 1 ≤ x → x ≤ n → asc n last (l ++ [x])
  | [], last, x, _, h1, h2, h3 => ⟨by simpa using h1, h2, h3, trivial⟩
  | e :: l, last, x, h, h1, h2, h3 => by
    obtain ⟨g1, g2, g3, g4⟩ := h
    rw [List.getLastD_cons] at h1
    exact ⟨g1, g2, g3, asc_snoc g4 h1 h2 h3⟩
theorem asc_of_scan {n : Int} : ∀ {l : List Int} {last : Int}, scan n last l = 0 → asc n last l
  | [], _, _ => trivial
  | e :: r, last, h => by
    rw [scan] at h
    split at h; · omega
    split at h; · omega
    exact ⟨by omega, by omega, by omega, asc_of_scan h⟩
/-- A line begins before it ends. -/
theorem stN_lt {n : Int} {l : List Int} (h : asc n 0 l) {k : Nat} (hk : k < l.length) : stN (toN l) k < (toN l).getD k 0 := by
  have key : ∀ {l : List Int} {last : Int}, 0 ≤ last → asc n last l → ∀ k, k < l.length → (if k = 0 then last.toNat else (toN l).getD (k - 1) 0) < (toN l).getD k 0 := by
    intro l
    induction l with
    | nil => intro last _ _ k hk; simp at hk
    | cons e r ih =>
      intro last hl h k hk
      obtain ⟨h1, h2, h3, h4⟩ := h
      cases k with
      | zero => simp [toN]; omega
      | succ k =>
        have := ih (last := e) (by omega) h4 k (by simpa using hk)
        cases k with
        | zero => simpa [toN] using this
        | succ k => simpa [toN] using this
  have := key (Int.le_refl 0) h k hk
  unfold stN
  simpa using this
theorem asc_le {n : Int} : ∀ {l : List Int} {last : Int}, asc n last l → ∀ e ∈ l, 1 ≤ e ∧ e ≤ n
  | [], _, _ => by simp
  | e :: r, last, h => by
    obtain ⟨h1, h2, h3, h4⟩ := h
    intro x hx
    rcases List.mem_cons.1 hx with rfl | hx
    · exact ⟨h2, h3⟩
    · exact asc_le h4 x hx
theorem up_append (a b : List Nat) : up (a ++ b) = up a ++ up b := by simp [up]
theorem up_snoc (a : List Nat) (q : Nat) : up (a ++ [q]) = up a ++ [(q : Int)] := by simp [up]
theorem toN_up (E : List Nat) : toN (up E) = E := by
  simp only [toN, up, List.map_map]
  conv => rhs; rw [← List.map_id E]
  exact List.map_congr_left fun x _ => by simp
end Line

/- Lines of ends, one by one. -/
set_option linter.unusedVariables false
set_option linter.unusedSimpArgs false
namespace Line
theorem getD_append_lt {E r : List Nat} {k : Nat} (h : k < E.length) : (E ++ r).getD k 0 = E.getD k 0 := by
  rw [List.getD_eq_getElem?_getD, List.getElem?_append_left h, ← List.getD_eq_getElem?_getD]
theorem getD_last (E : List Nat) (h : E ≠ []) : E.getD (E.length - 1) 0 = E.getLastD 0 := by
  rw [List.getLastD_eq_getLast?, List.getD_eq_getElem?_getD, List.getLast?_eq_getElem?]
theorem stN_append {E r : List Nat} : stN (E ++ r) E.length = E.getLastD 0 := by
  unfold stN
  split
  · rename_i h
    have : E = [] := List.eq_nil_of_length_eq_zero h
    subst this; rfl
  · rename_i h
    rw [getD_append_lt (by omega), getD_last E (by rintro rfl; simp at h)]
theorem spansN_append (E r : List Nat) : spansN (E ++ r) E.length = spansN E E.length := by
  unfold spansN
  refine List.map_congr_left fun k hk => ?_
  have hk := List.mem_range.1 hk
  unfold spanN stN
  rw [getD_append_lt hk]
  split
  · rfl
  · rw [getD_append_lt (by omega)]
theorem spansN_snoc (E : List Nat) (x : Nat) : spansN (E ++ [x]) (E.length + 1) = spansN E E.length ++ [(E.getLastD 0, x)] := by
  rw [spansN_succ, spansN_append]
  unfold spanN
  rw [stN_append, List.getD_eq_getElem?_getD, List.getElem?_append_right (Nat.le_refl _)]
  simp
theorem over_snoc (w : Int) (ws : List Int) (E : List Nat) (x : Nat) : over w ws (E ++ [x]) = (over w ws E || decide (lf w ws (E.getLastD 0) x < 0)) := by
  unfold over
  rw [List.length_append, List.length_singleton, spansN_snoc, List.any_append]
  simp
theorem up_lastD (E : List Nat) : (up E).getLastD 0 = (E.getLastD 0 : Nat) := by
  cases E with
  | nil => rfl
  | cons a l => simp [up, List.getLastD_eq_getLast?, List.getLast?_map, List.getLast?_cons]
/-- Ends that ascend, end with the last word, and fit. -/
theorem ended_mk {w : Int} {ws : List Int} {E : List Nat} (hc : chk w ws = 0) (ha : asc ws.length 0 (up E)) (hl : E.getLastD 0 = ws.length) (ho : over w ws E = false) : endedE w ws (up E) = 0 := by
  have hs : scan ws.length 0 (up E) = 0 := by
    have := scan_asc [] ha
    rw [List.append_nil] at this
    rw [this, up_lastD, hl]; simp [scan]
  rw [endedE, hc, hs, toN_up, ho]; simp

/-- What the first lines cost, but for those from a number on. -/
def wantE (w : Int) (ws : List Int) (E : List Nat) (m : Nat) : Nat → Int
  | 0 => 0
  | i + 1 => wantE w ws E m i + if i < m then sqf w ws (stN E i) (E.getD i 0) else 0
theorem costS_append {w : Int} {ws : List Int} {last p : Nat × Nat} {l : List (Nat × Nat)} : costS w ws last (l ++ [p]) = costS w ws last l + if p = last then 0 else sqf w ws p.1 p.2 := by
  simp [costS]
theorem costE_eq {w : Int} {ws : List Int} {E : List Nat} {n : Int} (ha : asc n 0 (up E)) (hne : E ≠ []) : ∀ i, i ≤ E.length → costS w ws (spanN E (E.length - 1)) (spansN E i) = wantE w ws E (E.length - 1) i
  | 0, _ => rfl
  | i + 1, h => by
    have hlen : 0 < E.length := List.length_pos_iff.2 hne
    rw [spansN_succ, costS_append, costE_eq ha hne i (by omega), wantE]
    congr 1
    by_cases hi : i < E.length - 1
    · rw [if_neg, if_pos hi]
      · rfl
      · intro he
        have h1 := congrArg Prod.snd he
        simp only [spanN] at h1
        have mono : ∀ d k, k + d + 1 < E.length → E.getD k 0 < E.getD (k + d + 1) 0 := by
          intro d
          induction d with
          | zero =>
            intro k hk
            have := stN_lt ha (k := k + 1) (by simpa using hk)
            rw [toN_up] at this
            simpa [stN] using this
          | succ d ih =>
            intro k hk
            have a1 := ih k (by omega)
            have := stN_lt ha (k := k + d + 1 + 1) (by simp; omega)
            rw [toN_up] at this
            simp only [stN, Nat.add_one_sub_one] at this
            rw [if_neg (by omega)] at this
            have e : k + (d + 1) + 1 = k + d + 1 + 1 := by omega
            rw [e]
            omega
        have := mono (E.length - 1 - i - 1) i (by omega)
        rw [show i + (E.length - 1 - i - 1) + 1 = E.length - 1 by omega] at this
        omega
    · have : i = E.length - 1 := by omega
      subst this
      rw [if_pos rfl, if_neg (by omega)]
theorem psum_len (ws : List Int) : psum ws ws.length = ws.sum + ws.length := by simp [psum]
theorem ended_up {w : Int} {ws es : List Int} (h : endedE w ws es = 0) : up (toN es) = es := by
  obtain ⟨h1, h2, h3⟩ : chk w ws = 0 ∧ scan ws.length 0 es = 0 ∧ over w ws (toN es) = false := by
    unfold endedE at h
    by_cases h1 : chk w ws = 0 <;> simp only [h1, ne_eq, not_true, not_false_eq_true, if_true, if_false] at h
    · by_cases h2 : scan ws.length 0 es = 0 <;> simp only [h2, ne_eq, not_true, not_false_eq_true, if_true, if_false] at h
      · refine ⟨h1, h2, ?_⟩
        cases h3 : over w ws (toN es) <;> simp [h3] at h ⊢
  exact up_toN fun e he => (scan_range h2 e he).1
end Line

/- Full lines, and lines that get longer. -/
set_option linter.unusedVariables false
namespace Line
theorem psum_mono {ws : List Int} (h : ∀ x ∈ ws, 1 ≤ x) {i j : Nat} (hij : i ≤ j) (hj : j ≤ ws.length) : psum ws i + 2 * ((j : Int) - i) ≤ psum ws j := by
  induction j with
  | zero => have : i = 0 := by omega
            subst this; omega
  | succ j ih =>
    by_cases he : i = j + 1
    · subst he; omega
    · have := ih (by omega) (by omega)
      rw [psum_succ (by omega)]
      have hm : ws.getD j 0 ∈ ws := by rw [List.getD_eq_getElem?_getD]; simp [show j < ws.length by omega]
      have := h _ hm
      omega
theorem lf_mono {w : Int} {ws : List Int} (hc : chk w ws = 0) {i j k : Nat} (hij : i ≤ j) (hjk : j ≤ k) (hk : k ≤ ws.length) : lf w ws i k ≤ lf w ws i j := by
  have := psum_mono (ws := ws) (fun x hx => ((chk_ok hc).2.2.2.2 x hx).1) hjk hk
  rw [lf_eq (by omega) (by omega), lf_eq (by omega) (by omega)]
  omega
theorem endN_eq {w : Int} {ws : List Int} {i m : Nat} (h1 : 1 ≤ m) (h2 : 0 ≤ lf w ws i m) : ∀ d, (∀ j, m < j → j ≤ m + d → lf w ws i j < 0) → endN w ws i (m + d) = m
  | 0, _ => by
    obtain ⟨m, rfl⟩ : ∃ m', m = m' + 1 := ⟨m - 1, by omega⟩
    rw [Nat.add_zero, endN, if_neg (by omega)]
  | d + 1, h => by
    rw [← Nat.add_assoc, endN, if_pos (h _ (by omega) (by omega))]
    exact endN_eq h1 h2 d fun j hj hj2 => h j hj (by omega)
theorem endN_greedy {w : Int} {ws : List Int} (hc : chk w ws = 0) {i m : Nat} (h1 : i < m) (h2 : 0 ≤ lf w ws i m) (hm : m ≤ ws.length) (h3 : m = ws.length ∨ lf w ws i (m + 1) < 0) : endN w ws i ws.length = m := by
  have := endN_eq (w := w) (ws := ws) (i := i) (m := m) (by omega) h2 (ws.length - m) fun j hj hj2 => by
    rcases h3 with h3 | h3
    · omega
    · have := lf_mono hc (i := i) (j := m + 1) (k := j) (by omega) (by omega) (by omega)
      omega
  rwa [show m + (ws.length - m) = ws.length by omega] at this
theorem fullE_done (w : Int) (ws : List Int) (f : Nat) : fullE w ws f ws.length = [] := by cases f <;> simp [fullE]
theorem wantE_m {w : Int} {ws : List Int} {E : List Nat} {m : Nat} : ∀ {i m' : Nat}, i ≤ m → i ≤ m' → wantE w ws E m i = wantE w ws E m' i
  | 0, _, _, _ => rfl
  | i + 1, m', h1, h2 => by
    rw [wantE, wantE, wantE_m (m' := m') (by omega) (by omega), if_pos (by omega), if_pos (by omega)]
end Line

/- The best of the last lines to a place. -/
set_option linter.unusedVariables false
namespace Line
def costL (w : Int) (ws : List Int) (P : List (Int × Nat)) (j i : Nat) : Int := (P.getD i (0, 0)).1 + sqf w ws i j
/-- The least cost of a last line to a place, and the first place where it begins. -/
def bst (w : Int) (ws : List Int) (P : List (Int × Nat)) (j : Nat) (r : Int × Nat) : Prop :=
  r.2 < j ∧ 0 ≤ lf w ws r.2 j ∧ r.1 = costL w ws P j r.2 ∧ ∀ i, i < j → 0 ≤ lf w ws i j → r.1 ≤ costL w ws P j i ∧ (i < r.2 → r.1 < costL w ws P j i)
theorem bst_unique {w : Int} {ws : List Int} {P : List (Int × Nat)} {j : Nat} {r r' : Int × Nat} (h : bst w ws P j r) (h' : bst w ws P j r') : r = r' := by
  obtain ⟨a1, a2, a3, a4⟩ := h
  obtain ⟨b1, b2, b3, b4⟩ := h'
  have h1 := a4 _ b1 b2
  have h2 := b4 _ a1 a2
  rw [← b3] at h1
  rw [← a3] at h2
  have e1 : r.1 = r'.1 := by omega
  have e2 : r.2 = r'.2 := by
    rcases Nat.lt_trichotomy r.2 r'.2 with h | h | h
    · have := h2.2 h; omega
    · exact h
    · have := h1.2 h; omega
  exact Prod.ext e1 e2
theorem lf_mono2 {w : Int} {ws : List Int} (hc : chk w ws = 0) {i j k : Nat} (hij : i ≤ j) (hjk : j ≤ k) (hk : k ≤ ws.length) : lf w ws i k ≤ lf w ws j k := by
  have := psum_mono (ws := ws) (fun x hx => ((chk_ok hc).2.2.2.2 x hx).1) hij (by omega)
  rw [lf_eq (by omega) (by omega), lf_eq (by omega) (by omega)]
  omega
theorem scanB_bst {w : Int} {ws : List Int} {P : List (Int × Nat)} {j : Nat} (hc : chk w ws = 0) (hj : 1 ≤ j) (hjn : j ≤ ws.length) : ∀ (m : Nat) (acc : Int × Nat), m ≤ j →
    (m < j → m ≤ acc.2 ∧ acc.2 < j ∧ 0 ≤ lf w ws acc.2 j ∧ acc.1 = costL w ws P j acc.2 ∧ ∀ i, m ≤ i → i < j → acc.1 ≤ costL w ws P j i ∧ (i < acc.2 → acc.1 < costL w ws P j i)) → bst w ws P j (scanB w ws P j m acc)
  | 0, acc, _, h => by
    obtain ⟨_, h2, h3, h4, h5⟩ := h (by omega)
    exact ⟨h2, h3, h4, fun i hi _ => h5 i (by omega) hi⟩
  | m + 1, acc, hm, h => by
    rw [scanB]
    split
    · rename_i hneg
      have hm1 : m + 1 < j := by
        by_cases he : m + 1 = j
        · exfalso
          have := lf_one hc (show m < ws.length by omega)
          rw [he] at this
          omega
        · omega
      obtain ⟨_, h2, h3, h4, h5⟩ := h hm1
      refine ⟨h2, h3, h4, fun i hi hf => ?_⟩
      by_cases hmi : m + 1 ≤ i
      · exact h5 i hmi hi
      · have := lf_mono2 hc (i := i) (j := m) (k := j) (by omega) (by omega) hjn
        omega
    · rename_i hnn
      refine scanB_bst hc hj hjn m _ (by omega) fun _ => ?_
      by_cases hmj : m + 1 = j
      · rw [if_pos (.inl hmj)]
        refine ⟨Nat.le_refl _, by omega, Int.not_lt.1 hnn, rfl, fun i h1 h2 => ?_⟩
        have : i = m := by omega
        subst this
        exact ⟨Int.le_refl _, fun h => absurd h (Nat.lt_irrefl _)⟩
      · obtain ⟨h1, h2, h3, h4, h5⟩ := h (by omega)
        have hcm : (P.getD m (0, 0)).1 + sqf w ws m j = costL w ws P j m := rfl
        rw [hcm]
        by_cases hle : costL w ws P j m ≤ acc.1
        · rw [if_pos (.inr hle)]
          refine ⟨Nat.le_refl _, by omega, Int.not_lt.1 hnn, rfl, fun i g1 g2 => ?_⟩
          by_cases him : i = m
          · subst him
            exact ⟨Int.le_refl _, fun h => absurd h (Nat.lt_irrefl _)⟩
          · have := h5 i (by omega) g2
            exact ⟨by simp only; omega, fun h => by simp only at h; omega⟩
        · rw [if_neg (by omega)]
          refine ⟨by omega, h2, h3, h4, fun i g1 g2 => ?_⟩
          by_cases him : i = m
          · subst him
            exact ⟨by omega, fun _ => by omega⟩
          · exact h5 i (by omega) g2
theorem pls_bst {w : Int} {ws : List Int} (hc : chk w ws = 0) {k : Nat} (hk : k < ws.length) : bst w ws (pls w ws k) (k + 1) ((pls w ws (k + 1)).getD (k + 1) (0, 0)) := by
  have e : (pls w ws (k + 1)).getD (k + 1) (0, 0) = scanB w ws (pls w ws k) (k + 1) (k + 1) (0, 0) := by
    rw [pls, List.getD_eq_getElem?_getD, List.getElem?_append_right (by simp)]
    simp
  rw [e]
  exact scanB_bst hc (by omega) (by omega) (k + 1) (0, 0) (Nat.le_refl _) fun h => absurd h (Nat.lt_irrefl _)
theorem costL_pls {w : Int} {ws : List Int} {k d j i : Nat} (h : i ≤ k) : costL w ws (pls w ws (k + d)) j i = costL w ws (pls w ws k) j i := by
  unfold costL; rw [pls_get h]

/-- Last lines do not begin before those of fewer words. -/
theorem start_mono {w : Int} {ws : List Int} (hc : chk w ws = 0) {k : Nat} (hk : k + 1 < ws.length) : ((pls w ws (k + 1)).getD (k + 1) (0, 0)).2 ≤ ((pls w ws (k + 2)).getD (k + 2) (0, 0)).2 := by
  have h1 := pls_bst hc (k := k) (by omega)
  have h2 : bst w ws (pls w ws (k + 1)) (k + 2) ((pls w ws (k + 2)).getD (k + 2) (0, 0)) := pls_bst hc (k := k + 1) hk
  generalize (pls w ws (k + 1)).getD (k + 1) (0, 0) = r at *
  generalize (pls w ws (k + 2)).getD (k + 2) (0, 0) = r' at *
  obtain ⟨c, s⟩ := r
  obtain ⟨c', s'⟩ := r'
  obtain ⟨a1, a2, a3, a4⟩ := h1
  obtain ⟨b1, b2, b3, b4⟩ := h2
  simp only at *
  by_cases hlt : s' < s
  · exfalso
    have f1 : lf w ws s' (k + 2) ≤ lf w ws s' (k + 1) := lf_mono hc (by omega) (by omega) (by omega)
    have f2 : lf w ws s' (k + 2) ≤ lf w ws s (k + 2) := lf_mono2 hc (by omega) (by omega) (by omega)
    have g1 := (a4 s' (by omega) (by omega)).2 hlt
    have g2 := (b4 s (by omega) (by omega)).1
    have e1 : costL w ws (pls w ws (k + 1)) (k + 2) s' = (( pls w ws k).getD s' (0, 0)).1 + sqf w ws s' (k + 2) := by
      rw [costL_pls (k := k) (d := 1) (by omega)]; rfl
    have e2 : costL w ws (pls w ws (k + 1)) (k + 2) s = ((pls w ws k).getD s (0, 0)).1 + sqf w ws s (k + 2) := by
      rw [costL_pls (k := k) (d := 1) (by omega)]; rfl
    rw [a3] at g1
    have hb3 : c' = costL w ws (pls w ws (k + 1)) (k + 2) s' := b3
    have g2' : c' ≤ costL w ws (pls w ws (k + 1)) (k + 2) s := g2
    rw [hb3, e1, e2] at g2'
    unfold costL at g1
    -- the squares
    have hx := lf_eq (w := w) (ws := ws) (i := s') (j := k + 2) (by omega) (by omega)
    have hy := lf_eq (w := w) (ws := ws) (i := s) (j := k + 2) (by omega) (by omega)
    have hz := lf_eq (w := w) (ws := ws) (i := s') (j := k + 1) (by omega) (by omega)
    have ht := lf_eq (w := w) (ws := ws) (i := s) (j := k + 1) (by omega) (by omega)
    unfold sqf at g1 g2'
    generalize lf w ws s' (k + 2) = x at *
    have hd : lf w ws s (k + 2) = x + (psum ws s - psum ws s') := by omega
    have he : lf w ws s' (k + 1) = x + (psum ws (k + 2) - psum ws (k + 1)) := by omega
    have hde : lf w ws s (k + 1) = x + (psum ws s - psum ws s') + (psum ws (k + 2) - psum ws (k + 1)) := by omega
    have hm1 : 0 ≤ psum ws s - psum ws s' := by omega
    have hm2 : 0 ≤ psum ws (k + 2) - psum ws (k + 1) := by omega
    rw [he, hde] at g1
    rw [hd] at g2'
    generalize psum ws s - psum ws s' = d at *
    generalize psum ws (k + 2) - psum ws (k + 1) = e at *
    have hpos : 0 ≤ d * e := Int.mul_nonneg hm1 hm2
    simp only [Int.mul_add, Int.add_mul] at g1 g2'
    have c1 : e * d = d * e := Int.mul_comm _ _
    have c2 : d * x = x * d := Int.mul_comm _ _
    have c3 : e * x = x * e := Int.mul_comm _ _
    rw [c1, c2, c3] at g1
    rw [c2] at g2'
    omega
  · omega
end Line

/- All ends; and full lines among them. -/
set_option linter.unusedVariables false
namespace Line
/-- All ends from a place on whose lines fit, in ascending order. -/
def ext (w : Int) (ws : List Int) : Nat → Nat → List (List Nat)
  | 0, fr => if fr = ws.length then [[]] else []
  | f + 1, fr => if fr = ws.length then [[]] else (List.range (ws.length - fr)).flatMap fun d => if lf w ws fr (fr + 1 + d) < 0 then [] else (ext w ws f (fr + 1 + d)).map (fun G => (fr + 1 + d) :: G)
/-- The same, to the places below one. -/
def extTo (w : Int) (ws : List Int) (f fr m : Nat) : List (List Nat) := (List.range m).flatMap fun d => if lf w ws fr (fr + 1 + d) < 0 then [] else (ext w ws f (fr + 1 + d)).map (fun G => (fr + 1 + d) :: G)
theorem extTo_succ (w : Int) (ws : List Int) (f fr m : Nat) : extTo w ws f fr (m + 1) = extTo w ws f fr m ++ if lf w ws fr (fr + 1 + m) < 0 then [] else (ext w ws f (fr + 1 + m)).map (fun G => (fr + 1 + m) :: G) := by
  unfold extTo
  rw [List.range_succ, List.flatMap_append]
  simp
theorem ext_succ {w : Int} {ws : List Int} {f fr : Nat} (h : fr ≠ ws.length) : ext w ws (f + 1) fr = extTo w ws f fr (ws.length - fr) := by
  rw [ext, if_neg h]; rfl
/-- Ends whose lines fit. -/
def okEnds (w : Int) (ws : List Int) (E : List Nat) : Prop := asc ws.length 0 (up E) ∧ E.getLastD 0 = ws.length ∧ over w ws E = false
theorem ok_ended {w : Int} {ws : List Int} {E : List Nat} (hc : chk w ws = 0) (h : okEnds w ws E) : endedE w ws (up E) = 0 := ended_mk hc h.1 h.2.1 h.2.2

/-- The first part of ends, that fits as far as it goes. -/
def prt (w : Int) (ws : List Int) (E : List Nat) : Prop := asc ws.length 0 (up E) ∧ over w ws E = false
theorem part_snoc {w : Int} {ws : List Int} {E : List Nat} {j : Nat} (h : prt w ws E) (h1 : E.getLastD 0 < j) (h2 : j ≤ ws.length) (h3 : 0 ≤ lf w ws (E.getLastD 0) j) : prt w ws (E ++ [j]) := by
  refine ⟨?_, ?_⟩
  · rw [up_snoc]
    exact asc_snoc h.1 (by rw [up_lastD]; omega) (by omega) (by omega)
  · rw [over_snoc, h.2]; simpa using h3
theorem part_nil (w : Int) (ws : List Int) : prt w ws [] := ⟨trivial, rfl⟩
theorem lastD_snoc (E : List Nat) (j : Nat) : (E ++ [j]).getLastD 0 = j := by simp
theorem leftL_snoc (w : Int) (ws : List Int) (E : List Nat) (j : Nat) : leftL w ws (E ++ [j]) (E.length + 1) = leftL w ws E E.length ++ [lf w ws (E.getLastD 0) j] := by
  rw [leftL_succ, stN_append]
  congr 1
  · unfold leftL
    refine List.map_congr_left fun k hk => ?_
    have hk := List.mem_range.1 hk
    rw [getD_append_lt hk]
    unfold stN
    split
    · rfl
    · rw [getD_append_lt (by omega)]
  · rw [List.getD_eq_getElem?_getD, List.getElem?_append_right (Nat.le_refl _)]
    simp

/-- All that are listed fit. -/
theorem ext_ok {w : Int} {ws : List Int} : ∀ (f fr : Nat) (E : List Nat), prt w ws E → E.getLastD 0 = fr → fr ≤ ws.length → ∀ F ∈ ext w ws f fr, okEnds w ws (E ++ F)
  | 0, fr, E, hp, he, hn, F, hF => by
    unfold ext at hF
    split at hF
    · simp at hF; subst hF
      rw [List.append_nil]
      exact ⟨hp.1, by omega, hp.2⟩
    · simp at hF
  | f + 1, fr, E, hp, he, hn, F, hF => by
    unfold ext at hF
    split at hF
    · simp at hF; subst hF
      rw [List.append_nil]
      exact ⟨hp.1, by omega, hp.2⟩
    · rw [List.mem_flatMap] at hF
      obtain ⟨d, hd, hF⟩ := hF
      have hd := List.mem_range.1 hd
      split at hF
      · simp at hF
      · rename_i hnn
        rw [List.mem_map] at hF
        obtain ⟨G, hG, rfl⟩ := hF
        have := ext_ok f (fr + 1 + d) (E ++ [fr + 1 + d]) (part_snoc hp (by omega) (by omega) (by rw [he]; omega)) (lastD_snoc _ _) (by omega) G hG
        rwa [List.append_assoc, List.singleton_append] at this

/-- Each line of full lines ends no sooner than that of any others. -/
theorem ok_lines {w : Int} {ws : List Int} {E : List Nat} (h : okEnds w ws E) {k : Nat} (hk : k < E.length) : stN E k < E.getD k 0 ∧ E.getD k 0 ≤ ws.length ∧ 0 ≤ lf w ws (stN E k) (E.getD k 0) := by
  obtain ⟨h1, h2, h3⟩ := h
  have a := stN_lt h1 (k := k) (by simpa using hk)
  rw [toN_up] at a
  refine ⟨a, ?_, ?_⟩
  · have := asc_le h1 ((E.getD k 0 : Nat) : Int) (by rw [← up_getD, List.getD_eq_getElem?_getD]; simp [hk])
    omega
  · unfold over at h3
    rw [List.any_eq_false] at h3
    have := h3 (spanN E k) (List.mem_of_getElem? (spansN_get hk))
    simp [spanN] at this
    exact this
theorem endN_max {w : Int} {ws : List Int} {i : Nat} : ∀ (m j : Nat), j ≤ m → 0 ≤ lf w ws i j → j ≤ endN w ws i m
  | 0, j, h, _ => by omega
  | m + 1, j, h, hn => by
    unfold endN
    split
    · rename_i hneg
      by_cases he : j = m + 1
      · subst he; omega
      · exact endN_max m j (by omega) hn
    · omega
theorem full_get {w : Int} {ws : List Int} : ∀ (f fr v : Nat), v < (fullE w ws f fr).length → (fullE w ws f fr).getD v 0 = endN w ws (if v = 0 then fr else (fullE w ws f fr).getD (v - 1) 0) ws.length
  | 0, fr, v, h => by simp [fullE] at h
  | f + 1, fr, v, h => by
    unfold fullE at h ⊢
    split at h
    · rename_i hlt
      rw [if_pos hlt]
      cases v with
      | zero => rfl
      | succ v =>
        have := full_get f (endN w ws fr ws.length) v (by simpa using h)
        rw [List.getD_cons_succ, this, if_neg (show ¬ (v + 1 = 0) by omega), Nat.add_sub_cancel]
        cases v with
        | zero => rfl
        | succ v => simp
    · simp at h
/-- Full ends reach the last word. -/
theorem full_last {w : Int} {ws : List Int} (hc : chk w ws = 0) : ∀ (f fr : Nat), fr < ws.length → ws.length - fr ≤ f → fullE w ws f fr ≠ [] ∧ (fullE w ws f fr).getD ((fullE w ws f fr).length - 1) 0 = ws.length
  | 0, fr, h, hf => by omega
  | f + 1, fr, h, hf => by
    have he := endN_range hc h ws.length h
    unfold fullE
    rw [if_pos h]
    refine ⟨by simp, ?_⟩
    by_cases hd : endN w ws fr ws.length < ws.length
    · obtain ⟨i1, i2⟩ := full_last hc f _ hd (by omega)
      have hl : 0 < (fullE w ws f (endN w ws fr ws.length)).length := List.length_pos_iff.2 i1
      rw [List.length_cons, Nat.add_sub_cancel]
      obtain ⟨m, hm⟩ : ∃ m, (fullE w ws f (endN w ws fr ws.length)).length = m + 1 := ⟨_, (Nat.succ_pred_eq_of_pos hl).symm⟩
      rw [hm, List.getD_cons_succ]
      rw [hm, Nat.add_sub_cancel] at i2
      exact i2
    · have : endN w ws fr ws.length = ws.length := by omega
      rw [this, fullE_done]; rfl
theorem endN_mono {w : Int} {ws : List Int} (hc : chk w ws = 0) {i i' : Nat} (h : i ≤ i') (hi : i' < ws.length) {j : Nat} (hij : i' ≤ j) (hj : j ≤ ws.length) (hf : 0 ≤ lf w ws i j) : j ≤ endN w ws i' ws.length :=
  endN_max _ _ hj (by have := lf_mono2 hc h hij hj; omega)
/-- Full lines are ahead of all others, line by line. -/
theorem full_ahead {w : Int} {ws : List Int} (hc : chk w ws = 0) {E : List Nat} (hE : okEnds w ws E) : ∀ v, v < E.length → v < (fullE w ws ws.length 0).length → E.getD v 0 ≤ (fullE w ws ws.length 0).getD v 0
  | 0, h1, h2 => by
    obtain ⟨a1, a2, a3⟩ := ok_lines hE h1
    rw [full_get _ _ _ h2]
    simp only [if_true]
    exact endN_max _ _ a2 (by simpa [stN] using a3)
  | v + 1, h1, h2 => by
    have ih := full_ahead hc hE v (by omega) (by omega)
    obtain ⟨a1, a2, a3⟩ := ok_lines hE h1
    rw [full_get _ _ _ h2, if_neg (by omega), Nat.add_sub_cancel]
    have e : stN E (v + 1) = E.getD v 0 := by simp [stN]
    rw [e] at a1 a3
    have hlt : (fullE w ws ws.length 0).getD v 0 < ws.length ∨ (fullE w ws ws.length 0).getD v 0 = ws.length ∨ ws.length < (fullE w ws ws.length 0).getD v 0 := by omega
    rcases hlt with h | h | h
    · by_cases hle : (fullE w ws ws.length 0).getD v 0 ≤ E.getD (v + 1) 0
      · exact endN_mono hc ih h hle a2 a3
      · have := endN_range hc h ws.length h
        omega
    · have hb := full_get (w := w) (ws := ws) ws.length 0 (v + 1) h2
      rw [if_neg (by omega), Nat.add_sub_cancel, h] at hb
      rw [h]
      -- there is no further line
      exfalso
      have hmem : ∀ (f fr v : Nat), v + 1 < (fullE w ws f fr).length → (fullE w ws f fr).getD v 0 < ws.length := by
        intro f
        induction f with
        | zero => intro fr v h; simp [fullE] at h
        | succ f ih2 =>
          intro fr v h
          unfold fullE at h ⊢
          split at h
          · rename_i hl
            rw [if_pos hl]
            cases v with
            | zero =>
              rw [List.getD_cons_zero]
              by_cases hd : endN w ws fr ws.length < ws.length
              · exact hd
              · have := endN_range hc hl ws.length hl
                have he : endN w ws fr ws.length = ws.length := by omega
                rw [he, fullE_done] at h
                simp at h
            | succ v =>
              rw [List.getD_cons_succ]
              exact ih2 _ v (by simpa using h)
          · simp at h
      have := hmem _ _ _ h2
      omega
    · exfalso
      have hv : v < (fullE w ws ws.length 0).length := by omega
      have hb := full_get (w := w) (ws := ws) ws.length 0 v hv
      have : ∀ m i, endN w ws i m ≤ m := by
        intro m
        induction m with
        | zero => intro i; simp [endN]
        | succ m ih3 =>
          intro i
          unfold endN
          split
          · have := ih3 i; omega
          · omega
      have := this ws.length (if v = 0 then 0 else (fullE w ws ws.length 0).getD (v - 1) 0)
      omega
/-- No ends have fewer lines. -/
theorem full_fewest {w : Int} {ws : List Int} (hc : chk w ws = 0) {E : List Nat} (hE : okEnds w ws E) : (fullE w ws ws.length 0).length ≤ E.length := by
  have hn := chk_ok hc
  have hne : E ≠ [] := by
    rintro rfl
    have := hE.2.1
    simp at this
    omega
  have hl : 0 < E.length := List.length_pos_iff.2 hne
  by_cases h : (fullE w ws ws.length 0).length ≤ E.length
  · exact h
  · exfalso
    have h1 := full_ahead hc hE (E.length - 1) (by omega) (by omega)
    rw [getD_last E hne, hE.2.1] at h1
    -- a full line that ends with the last word is the last
    have hmem : ∀ (f fr v : Nat), v + 1 < (fullE w ws f fr).length → (fullE w ws f fr).getD v 0 < ws.length := by
      intro f
      induction f with
      | zero => intro fr v h; simp [fullE] at h
      | succ f ih2 =>
        intro fr v h
        unfold fullE at h ⊢
        split at h
        · rename_i hl
          rw [if_pos hl]
          cases v with
          | zero =>
            rw [List.getD_cons_zero]
            by_cases hd : endN w ws fr ws.length < ws.length
            · exact hd
            · have := endN_range hc hl ws.length hl
              have he : endN w ws fr ws.length = ws.length := by omega
              rw [he, fullE_done] at h
              simp at h
          | succ v =>
            rw [List.getD_cons_succ]
            exact ih2 _ v (by simpa using h)
        · simp at h
    have := hmem ws.length 0 (E.length - 1) (by omega)
    omega
end Line

/- The first best ends fit. -/
set_option linter.unusedVariables false
namespace Line
theorem stepR_fit {w : Int} {ws : List Int} {n : Nat} {R : Nat → Best} {i j : Nat} (hj : j ≤ n) {acc : Best} (ha : acc.2.2 = 0 ∨ 0 ≤ lf w ws i acc.2.1) : (stepR w ws n R i j acc).2.2 = 0 ∨ 0 ≤ lf w ws i (stepR w ws n R i j acc).2.1 := by
  unfold stepR
  split
  · exact ha
  · rename_i hnn
    by_cases hjn : j < n
    · simp only [hjn, if_true]
      split
      · exact .inr (Int.not_lt.1 hnn)
      · split
        · exact .inr (Int.not_lt.1 hnn)
        · exact ha
    · have : j = n := by omega
      subst this
      simp only [hjn, if_false]
      split
      · exact .inr (Int.not_lt.1 hnn)
      · split
        · exact .inr (Int.not_lt.1 hnn)
        · exact ha
theorem scanR_fit {w : Int} {ws : List Int} {n : Nat} {R : Nat → Best} {i : Nat} : ∀ (m : Nat) (acc : Best), i + m ≤ n → (acc.2.2 = 0 ∨ 0 ≤ lf w ws i acc.2.1) → (scanR w ws n R i m acc).2.2 = 0 ∨ 0 ≤ lf w ws i (scanR w ws n R i m acc).2.1
  | 0, acc, _, h => h
  | m + 1, acc, hm, h => scanR_fit m _ (by omega) (stepR_fit (by omega) h)
theorem rst_fit {w : Int} {ws : List Int} : ∀ (k : Nat), k ≤ ws.length → ∀ i, ws.length - k ≤ i → i < ws.length → ((rst w ws ws.length k).getD (i - (ws.length - k)) (0, 0, 0)).2.2 = 0 ∨ 0 ≤ lf w ws i ((rst w ws ws.length k).getD (i - (ws.length - k)) (0, 0, 0)).2.1
  | 0, _ => by intro i h1 h2; omega
  | k + 1, hk => by
    intro i h1 h2
    by_cases hi : i = ws.length - (k + 1)
    · have := scanR_fit (w := w) (ws := ws) (n := ws.length) (R := fun j => (rst w ws ws.length k).getD (j - (ws.length - k)) (0, 0, 0)) (i := i) (k + 1) (0, 0, 0) (by omega) (.inl rfl)
      rw [hi] at this ⊢
      simpa only [rst, Nat.sub_self, List.getD_cons_zero] using this
    · have := rst_fit (w := w) k (by omega) i (by omega) h2
      rw [show i - (ws.length - (k + 1)) = (i - (ws.length - k)) + 1 by omega]
      simpa only [rst, List.getD_cons_succ] using this
theorem firstE_ok {w : Int} {ws : List Int} (hc : chk w ws = 0) : ∀ (f fr : Nat) (E : List Nat), prt w ws E → E.getLastD 0 = fr → fr ≤ ws.length → ws.length - fr ≤ f → okEnds w ws (E ++ firstE (rst w ws ws.length ws.length) ws.length f fr)
  | 0, fr, E, hp, he, hn, hf => by
    rw [firstE, List.append_nil]
    exact ⟨hp.1, by omega, hp.2⟩
  | f + 1, fr, E, hp, he, hn, hf => by
    unfold firstE
    split
    · rename_i hlt
      have h1 := rst_end hc ws.length (Nat.le_refl _) fr (by omega) hlt
      have h2 := rst_fit (w := w) (ws := ws) ws.length (Nat.le_refl _) fr (by omega) hlt
      rw [Nat.sub_self, Nat.sub_zero] at h1 h2
      generalize ((rst w ws ws.length ws.length).getD fr (0, 0, 0)) = b at *
      have h3 : 0 ≤ lf w ws fr b.2.1 := by
        rcases h2 with h2 | h2
        · omega
        · exact h2
      have := firstE_ok hc f b.2.1 (E ++ [b.2.1]) (part_snoc hp (by omega) h1.2.1 (by rw [he]; exact h3)) (lastD_snoc _ _) h1.2.1 (by omega)
      rwa [List.append_assoc, List.singleton_append] at this
    · rw [List.append_nil]
      exact ⟨hp.1, by omega, hp.2⟩
end Line

/- All ends of the first words. -/
set_option linter.unusedVariables false
namespace Line
theorem lastD_one (E : List Nat) (j : Nat) : (E ++ [j]).getLastD 0 = j := by simp
/-- All ends for the first 'n' words from a place on whose lines fit, in ascending order. -/
def extM (w : Int) (ws : List Int) (n : Nat) : Nat → Nat → List (List Nat)
  | 0, fr => if fr = n then [[]] else []
  | f + 1, fr => if fr = n then [[]] else (List.range (n - fr)).flatMap fun d => if lf w ws fr (fr + 1 + d) < 0 then [] else (extM w ws n f (fr + 1 + d)).map (fun G => (fr + 1 + d) :: G)
def extMTo (w : Int) (ws : List Int) (n f fr m : Nat) : List (List Nat) := (List.range m).flatMap fun d => if lf w ws fr (fr + 1 + d) < 0 then [] else (extM w ws n f (fr + 1 + d)).map (fun G => (fr + 1 + d) :: G)
theorem extMTo_succ (w : Int) (ws : List Int) (n f fr m : Nat) : extMTo w ws n f fr (m + 1) = extMTo w ws n f fr m ++ if lf w ws fr (fr + 1 + m) < 0 then [] else (extM w ws n f (fr + 1 + m)).map (fun G => (fr + 1 + m) :: G) := by
  unfold extMTo
  rw [List.range_succ, List.flatMap_append]
  simp
theorem extM_succ {w : Int} {ws : List Int} {n f fr : Nat} (h : fr ≠ n) : extM w ws n (f + 1) fr = extMTo w ws n f fr (n - fr) := by
  rw [extM, if_neg h]; rfl
theorem extM_done {w : Int} {ws : List Int} {n f : Nat} : extM w ws n f n = [[]] := by cases f <;> simp [extM]
theorem extMTo_len {w : Int} {ws : List Int} {n f fr B : Nat} (hB : ∀ j, (extM w ws n f j).length ≤ B) : ∀ m, (extMTo w ws n f fr m).length ≤ m * B
  | 0 => by simp [extMTo]
  | m + 1 => by
    have ih := extMTo_len (fr := fr) hB m
    rw [extMTo_succ, List.length_append, Nat.add_mul, Nat.one_mul]
    split
    · simp; omega
    · have := hB (fr + 1 + m)
      simp; omega
theorem extM_len {w : Int} {ws : List Int} {n : Nat} (hn : n ≤ 10) : ∀ (f fr : Nat), (extM w ws n f fr).length ≤ 10 ^ f
  | 0, fr => by unfold extM; split <;> simp
  | f + 1, fr => by
    have hp : 1 ≤ 10 ^ (f + 1) := Nat.one_le_pow _ _ (by decide)
    by_cases h : fr = n
    · subst h; rw [extM_done]; simpa using hp
    · rw [extM_succ h]
      have := extMTo_len (w := w) (ws := ws) (n := n) (f := f) (fr := fr) (fun j => extM_len hn f j) (n - fr)
      have h2 : (n - fr) * 10 ^ f ≤ 10 * 10 ^ f := Nat.mul_le_mul_right _ (by omega)
      rw [Nat.pow_succ, Nat.mul_comm (10 ^ f) 10]
      omega
end Line

/- Chains of lines: membership, cost; what 'even' gives is what is known of the places. -/
set_option linter.unusedVariables false
namespace Line
theorem snoc_ind {P : List Nat → Prop} (h0 : P []) (h1 : ∀ G j, P G → P (G ++ [j])) (F : List Nat) : P F := by
  have : ∀ l : List Nat, P l.reverse := by
    intro l
    induction l with
    | nil => exact h0
    | cons a l ih => rw [List.reverse_cons]; exact h1 _ _ ih
  have := this F.reverse
  rwa [List.reverse_reverse] at this
/-- Lines from a place on, that fit. -/
def chn (w : Int) (ws : List Int) : Nat → List Nat → Prop
  | _, [] => True
  | fr, j :: G => fr < j ∧ 0 ≤ lf w ws fr j ∧ chn w ws j G
theorem chn_snoc {w : Int} {ws : List Int} : ∀ {G : List Nat} {fr j : Nat}, chn w ws fr (G ++ [j]) ↔ chn w ws fr G ∧ G.getLastD fr < j ∧ 0 ≤ lf w ws (G.getLastD fr) j
  | [], fr, j => by simp [chn]
  | a :: G, fr, j => by
    rw [List.cons_append, chn, chn, chn_snoc (G := G), List.getLastD_cons]
    constructor
    · rintro ⟨h1, h2, h3, h4, h5⟩; exact ⟨⟨h1, h2, h3⟩, h4, h5⟩
    · rintro ⟨⟨h1, h2, h3⟩, h4, h5⟩; exact ⟨h1, h2, h3, h4, h5⟩
theorem chn_le {w : Int} {ws : List Int} : ∀ {G : List Nat} {fr : Nat}, chn w ws fr G → fr ≤ G.getLastD fr
  | [], fr, _ => by simp
  | a :: G, fr, h => by
    rw [List.getLastD_cons]
    have := chn_le h.2.2
    have := h.1
    omega
theorem mem_extM {w : Int} {ws : List Int} {n : Nat} : ∀ (f fr : Nat) (F : List Nat), fr ≤ n → n - fr ≤ f → (F ∈ extM w ws n f fr ↔ chn w ws fr F ∧ F.getLastD fr = n)
  | 0, fr, F, hn, hf => by
    have : fr = n := by omega
    subst this
    rw [extM_done, List.mem_singleton]
    constructor
    · rintro rfl; exact ⟨trivial, rfl⟩
    · rintro ⟨h1, h2⟩
      cases F with
      | nil => rfl
      | cons a G =>
        have := chn_le h1.2.2
        have := h1.1
        rw [List.getLastD_cons] at h2
        omega
  | f + 1, fr, F, hn, hf => by
    by_cases h : fr = n
    · subst h
      rw [extM_done, List.mem_singleton]
      constructor
      · rintro rfl; exact ⟨trivial, rfl⟩
      · rintro ⟨h1, h2⟩
        cases F with
        | nil => rfl
        | cons a G =>
          have := chn_le h1.2.2
          have := h1.1
          rw [List.getLastD_cons] at h2
          omega
    · rw [extM_succ h]
      unfold extMTo
      rw [List.mem_flatMap]
      constructor
      · rintro ⟨d, hd, hF⟩
        have hd := List.mem_range.1 hd
        split at hF
        · simp at hF
        · rename_i hnn
          obtain ⟨G, hG, rfl⟩ := List.mem_map.1 hF
          obtain ⟨g1, g2⟩ := (mem_extM f (fr + 1 + d) G (by omega) (by omega)).1 hG
          refine ⟨⟨by omega, by omega, g1⟩, ?_⟩
          rw [List.getLastD_cons]; exact g2
      · rintro ⟨h1, h2⟩
        cases F with
        | nil => simp at h2; omega
        | cons a G =>
          obtain ⟨g1, g2, g3⟩ := h1
          rw [List.getLastD_cons] at h2
          have hle := chn_le g3
          refine ⟨a - fr - 1, List.mem_range.2 (by omega), ?_⟩
          rw [show fr + 1 + (a - fr - 1) = a by omega, if_neg (by omega), List.mem_map]
          exact ⟨G, (mem_extM f a G (by omega) (by omega)).2 ⟨g3, h2⟩, rfl⟩
/-- What lines cost. -/
def cst (w : Int) (ws : List Int) : Nat → List Nat → Int
  | _, [] => 0
  | fr, j :: G => sqf w ws fr j + cst w ws j G
theorem cst_snoc {w : Int} {ws : List Int} : ∀ {G : List Nat} {fr j : Nat}, cst w ws fr (G ++ [j]) = cst w ws fr G + sqf w ws (G.getLastD fr) j
  | [], fr, j => by simp [cst]
  | a :: G, fr, j => by
    rw [List.cons_append, cst, cst, cst_snoc (G := G), List.getLastD_cons]; omega
/-- The same, but for the last line. -/
def cstL (w : Int) (ws : List Int) : Nat → List Nat → Int
  | _, [] => 0
  | fr, [j] => 0
  | fr, j :: k :: G => sqf w ws fr j + cstL w ws j (k :: G)
theorem cstL_snoc {w : Int} {ws : List Int} : ∀ {G : List Nat} {fr j : Nat}, cstL w ws fr (G ++ [j]) = cst w ws fr G
  | [], fr, j => by simp [cst, cstL]
  | [a], fr, j => by simp [cst, cstL]
  | a :: b :: G, fr, j => by
    rw [List.cons_append, List.cons_append, cstL, ← List.cons_append, cstL_snoc (G := b :: G)]
    simp only [cst]
theorem wantE_append {w : Int} {ws : List Int} {G r : List Nat} {m : Nat} : ∀ i, i ≤ G.length → wantE w ws (G ++ r) m i = wantE w ws G m i
  | 0, _ => rfl
  | i + 1, h => by
    rw [wantE, wantE, wantE_append i (by omega), getD_append_lt (by omega)]
    have : stN (G ++ r) i = stN G i := by
      unfold stN
      split
      · rfl
      · rw [getD_append_lt (by omega)]
    rw [this]
theorem want_cst {w : Int} {ws : List Int} (F : List Nat) : wantE w ws F F.length F.length = cst w ws 0 F := by
  refine snoc_ind (P := fun F => wantE w ws F F.length F.length = cst w ws 0 F) rfl (fun G j ih => ?_) F
  rw [cst_snoc, ← ih, List.length_append, List.length_singleton, wantE, if_pos (by omega), stN_append, wantE_append _ (Nat.le_refl _), wantE_m (m' := G.length) (by omega) (Nat.le_refl _)]
  congr 2
  rw [List.getD_eq_getElem?_getD, List.getElem?_append_right (Nat.le_refl _)]
  simp
theorem want_cstL {w : Int} {ws : List Int} {F : List Nat} (hne : F ≠ []) : wantE w ws F (F.length - 1) (F.length - 1) = cstL w ws 0 F := by
  revert hne
  refine snoc_ind (P := fun F => F ≠ [] → wantE w ws F (F.length - 1) (F.length - 1) = cstL w ws 0 F) (fun h => absurd rfl h) (fun G j _ _ => ?_) F
  rw [cstL_snoc, List.length_append, List.length_singleton, Nat.add_sub_cancel, wantE_append _ (Nat.le_refl _), want_cst]
theorem chn_asc {w : Int} {ws : List Int} {n : Nat} (F : List Nat) : chn w ws 0 F → F.getLastD 0 ≤ n → asc n 0 (up F) := by
  refine snoc_ind (P := fun F => chn w ws 0 F → F.getLastD 0 ≤ n → asc n 0 (up F)) (fun _ _ => trivial) (fun G j ih h1 h2 => ?_) F
  obtain ⟨g1, g2, g3⟩ := chn_snoc.1 h1
  rw [lastD_one] at h2
  rw [up_snoc]
  exact asc_snoc (ih g1 (by omega)) (by rw [up_lastD]; omega) (by omega) (by omega)
theorem chn_lines {w : Int} {ws : List Int} {n : Nat} {F : List Nat} (h : chn w ws 0 F) (hl : F.getLastD 0 ≤ n) : ∀ k, k < F.length → stN F k < F.getD k 0 ∧ F.getD k 0 ≤ n ∧ stN F k ≤ n := by
  intro k hk
  have ha := chn_asc F h hl
  have h1 := stN_lt ha (k := k) (by simpa using hk)
  rw [toN_up] at h1
  have h2 : F.getD k 0 ≤ n := by
    have := asc_le ha ((F.getD k 0 : Nat) : Int) (by rw [← up_getD, List.getD_eq_getElem?_getD]; simp [hk])
    omega
  omega
theorem chn_length {w : Int} {ws : List Int} : ∀ {F : List Nat} {fr : Nat}, chn w ws fr F → F.length + fr ≤ F.getLastD fr
  | [], fr, _ => by simp
  | a :: G, fr, h => by
    have := chn_length h.2.2
    have := h.1
    rw [List.getLastD_cons, List.length_cons]; omega
/-- Where the last line begins. -/
def lastSt (F : List Nat) : Nat := stN F (F.length - 1)
theorem lastSt_snoc (G : List Nat) (j : Nat) : lastSt (G ++ [j]) = G.getLastD 0 := by
  unfold lastSt
  rw [List.length_append, List.length_singleton, Nat.add_sub_cancel, stN_append]
/-- The least cost, and the smallest start for it. -/
def lex (w : Int) (ws : List Int) (L : List (List Nat)) (r : Int × Nat) : Prop :=
  (∃ F ∈ L, cst w ws 0 F = r.1 ∧ lastSt F = r.2) ∧ ∀ F ∈ L, r.1 < cst w ws 0 F ∨ (r.1 = cst w ws 0 F ∧ r.2 ≤ lastSt F)
theorem lex_unique {w : Int} {ws : List Int} {L : List (List Nat)} {r r' : Int × Nat} (h : lex w ws L r) (h' : lex w ws L r') : r = r' := by
  obtain ⟨⟨F, a1, a2, a3⟩, a4⟩ := h
  obtain ⟨⟨F', b1, b2, b3⟩, b4⟩ := h'
  have h1 := a4 F' b1
  have h2 := b4 F a1
  rw [b2, b3] at h1
  rw [a2, a3] at h2
  exact Prod.ext (by omega) (by omega)
/-- The places know the least costs. -/
theorem pls_lex {w : Int} {ws : List Int} (hc : chk w ws = 0) : ∀ n, n ≤ ws.length → 1 ≤ n → lex w ws (extM w ws n n 0) ((pls w ws n).getD n (0, 0)) := by
  have key : ∀ n, n ≤ ws.length → (∃ F ∈ extM w ws n n 0, cst w ws 0 F = ((pls w ws n).getD n (0, 0)).1) ∧ (∀ F ∈ extM w ws n n 0, ((pls w ws n).getD n (0, 0)).1 ≤ cst w ws 0 F) ∧ (1 ≤ n → lex w ws (extM w ws n n 0) ((pls w ws n).getD n (0, 0))) := by
    intro n
    induction n using Nat.strongRecOn with
    | _ n ih =>
      intro hn
      cases n with
      | zero =>
        rw [extM_done]
        refine ⟨⟨[], by simp, rfl⟩, fun F hF => ?_, fun h => by omega⟩
        rw [List.mem_singleton] at hF; subst hF
        simp [pls, cst]
      | succ k =>
        have hb := pls_bst hc (k := k) (by omega)
        generalize (pls w ws (k + 1)).getD (k + 1) (0, 0) = r at *
        obtain ⟨b1, b2, b3, b4⟩ := hb
        have hP : ∀ s, s ≤ k → ((pls w ws k).getD s (0, 0)) = (pls w ws s).getD s (0, 0) := fun s hs => by
          have := pls_get (w := w) (ws := ws) (k := s) (m := s) (Nat.le_refl _) (k - s)
          rwa [show s + (k - s) = k by omega] at this
        have hall : ∀ F ∈ extM w ws (k + 1) (k + 1) 0, r.1 < cst w ws 0 F ∨ (r.1 = cst w ws 0 F ∧ r.2 ≤ lastSt F) := by
          intro F hF
          obtain ⟨h1, h2⟩ := (mem_extM (k + 1) 0 F (by omega) (by omega)).1 hF
          revert h1 h2
          refine snoc_ind (P := fun F => chn w ws 0 F → F.getLastD 0 = k + 1 → r.1 < cst w ws 0 F ∨ (r.1 = cst w ws 0 F ∧ r.2 ≤ lastSt F)) (fun _ h => by simp at h) (fun G j _ h1 h2 => ?_) F
          rw [lastD_one] at h2
          subst h2
          obtain ⟨g1, g2, g3⟩ := chn_snoc.1 h1
          rw [cst_snoc, lastSt_snoc]
          generalize hs : G.getLastD 0 = s at *
          have hG : G ∈ extM w ws s s 0 := (mem_extM s 0 G (by omega) (by omega)).2 ⟨g1, hs⟩
          have h3 := (ih s g2 (by omega)).2.1 G hG
          have h4 := b4 s g2 g3
          unfold costL at h4
          rw [hP s (by omega)] at h4
          by_cases hlt : s < r.2
          · have := h4.2 hlt; left; omega
          · have := h4.1
            by_cases he : r.1 = cst w ws 0 G + sqf w ws s (k + 1)
            · exact .inr ⟨he, by omega⟩
            · exact .inl (by omega)
        have hex : ∃ F ∈ extM w ws (k + 1) (k + 1) 0, cst w ws 0 F = r.1 ∧ lastSt F = r.2 := by
          obtain ⟨G, hG, hcG⟩ := (ih r.2 b1 (by omega)).1
          obtain ⟨g1, g2⟩ := (mem_extM r.2 0 G (by omega) (by omega)).1 hG
          refine ⟨G ++ [k + 1], (mem_extM (k + 1) 0 _ (by omega) (by omega)).2 ⟨chn_snoc.2 ⟨g1, by omega, by rw [g2]; exact b2⟩, lastD_one _ _⟩, ?_, ?_⟩
          · rw [cst_snoc, hcG, g2, b3]
            unfold costL
            rw [hP r.2 (by omega)]
          · rw [lastSt_snoc, g2]
        refine ⟨?_, fun F hF => ?_, fun _ => ⟨hex, hall⟩⟩
        · obtain ⟨F, h1, h2, _⟩ := hex; exact ⟨F, h1, h2⟩
        · rcases hall F hF with h | h <;> omega
  exact fun n hn h1 => (key n hn).2.2 h1
end Line

/- A greater width, one word more; chains of lines are ends that fit. -/
set_option linter.unusedVariables false
namespace Line
theorem prt_chn {w : Int} {ws : List Int} (E : List Nat) : prt w ws E ↔ chn w ws 0 E ∧ E.getLastD 0 ≤ ws.length := by
  refine snoc_ind (P := fun E => prt w ws E ↔ chn w ws 0 E ∧ E.getLastD 0 ≤ ws.length) ?_ (fun G j ih => ?_) E
  · exact ⟨fun _ => ⟨trivial, by simp⟩, fun _ => part_nil w ws⟩
  · constructor
    · rintro ⟨h1, h2⟩
      have h3 : asc ws.length 0 (up G) ∧ G.getLastD 0 < j ∧ j ≤ ws.length := by
        have key : ∀ (l : List Nat) (last : Int) (x : Nat), asc ws.length last (up (l ++ [x])) → asc ws.length last (up l) ∧ (up l).getLastD last < x ∧ x ≤ ws.length := by
          intro l
          induction l with
          | nil =>
            intro last x h
            simp only [List.nil_append, up, List.map_cons, List.map_nil, asc] at h ⊢
            refine ⟨trivial, ?_, ?_⟩
            · simp only [List.getLastD_nil]; omega
            · omega
          | cons a l ih =>
            intro last x h
            simp only [List.cons_append, up, List.map_cons, asc] at h ⊢
            obtain ⟨i1, i2, i3⟩ := ih _ x h.2.2.2
            refine ⟨⟨h.1, h.2.1, h.2.2.1, i1⟩, ?_, i3⟩
            rw [List.getLastD_cons]; exact i2
        obtain ⟨k1, k2, k3⟩ := key G 0 j h1
        rw [up_lastD] at k2
        exact ⟨k1, by omega, k3⟩
      rw [over_snoc, Bool.or_eq_false_iff, decide_eq_false_iff_not] at h2
      have h4 := ih.1 ⟨h3.1, h2.1⟩
      refine ⟨chn_snoc.2 ⟨h4.1, h3.2.1, by omega⟩, ?_⟩
      rw [lastD_one]; exact h3.2.2
    · rintro ⟨h1, h2⟩
      rw [lastD_one] at h2
      obtain ⟨c1, c2, c3⟩ := chn_snoc.1 h1
      exact part_snoc (ih.2 ⟨c1, by omega⟩) c2 h2 c3
theorem ok_chn {w : Int} {ws : List Int} {E : List Nat} : okEnds w ws E ↔ chn w ws 0 E ∧ E.getLastD 0 = ws.length := by
  constructor
  · rintro ⟨h1, h2, h3⟩
    exact ⟨((prt_chn E).1 ⟨h1, h3⟩).1, h2⟩
  · rintro ⟨h1, h2⟩
    have := (prt_chn E).2 ⟨h1, by omega⟩
    exact ⟨this.1, h2, this.2⟩
theorem full_chn {w : Int} {ws : List Int} (hc : chk w ws = 0) : ∀ (f fr : Nat), fr ≤ ws.length → ws.length - fr ≤ f → chn w ws fr (fullE w ws f fr) ∧ (fullE w ws f fr).getLastD fr = ws.length
  | 0, fr, h, hf => by
    have : fr = ws.length := by omega
    subst this
    rw [fullE_done]; exact ⟨trivial, rfl⟩
  | f + 1, fr, h, hf => by
    by_cases hlt : fr < ws.length
    · rw [fullE, if_pos hlt]
      have hr := endN_range hc hlt ws.length hlt
      have ih := full_chn hc f (endN w ws fr ws.length) hr.2 (by omega)
      refine ⟨⟨hr.1, ?_, ih.1⟩, ?_⟩
      · have key : ∀ m, fr < m → 0 ≤ lf w ws fr (endN w ws fr m) := by
          intro m
          induction m with
          | zero => intro h; omega
          | succ m ih =>
            intro h
            unfold endN
            split
            · rename_i hn
              by_cases hm : fr < m
              · exact ih hm
              · have : m = fr := by omega
                subst this
                have := lf_one hc hlt
                omega
            · omega
        exact key _ hlt
      · rw [List.getLastD_cons]; exact ih.2
    · have : fr = ws.length := by omega
      subst this
      rw [fullE_done]; exact ⟨trivial, rfl⟩
theorem full_ok {w : Int} {ws : List Int} (hc : chk w ws = 0) : okEnds w ws (fullE w ws ws.length 0) :=
  ok_chn.2 (full_chn hc _ _ (by omega) (by omega))
-- a greater width
theorem lf_wider {w : Int} {ws : List Int} {i j : Nat} : lf (w + 1) ws i j = lf w ws i j + 1 := by unfold lf leftS; omega
theorem chn_wider {w : Int} {ws : List Int} : ∀ {G : List Nat} {fr : Nat}, chn w ws fr G → chn (w + 1) ws fr G
  | [], _, _ => trivial
  | a :: G, fr, h => ⟨h.1, by have := h.2.1; rw [lf_wider]; omega, chn_wider h.2.2⟩
theorem chk_wider {w : Int} {ws : List Int} (hc : chk w ws = 0) (h : w < 40) : chk (w + 1) ws = 0 := by
  obtain ⟨w1, w2, n1, n2, hws⟩ := chk_ok hc
  unfold chk
  rw [if_neg (by omega), if_neg (by omega), if_neg (by omega), if_pos]
  intro x hx
  have := hws x hx
  omega
theorem ok_wider {w : Int} {ws : List Int} {E : List Nat} (h : okEnds w ws E) : okEnds (w + 1) ws E :=
  ok_chn.2 ⟨chn_wider (ok_chn.1 h).1, (ok_chn.1 h).2⟩
theorem full_wider {w : Int} {ws : List Int} (hc : chk w ws = 0) (h : w < 40) : (fullE (w + 1) ws ws.length 0).length ≤ (fullE w ws ws.length 0).length :=
  full_fewest (chk_wider hc h) (ok_wider (full_ok hc))
-- one word more
theorem psum_more {ws : List Int} {x : Int} {k : Nat} (h : k ≤ ws.length) : psum (ws ++ [x]) k = psum ws k := by
  unfold psum; rw [List.take_append_of_le_length h]
theorem lf_more {w : Int} {ws : List Int} {x : Int} {i j : Nat} (hi : i ≤ ws.length) (hj : j ≤ ws.length) : lf w (ws ++ [x]) i j = lf w ws i j := by
  rw [lf_eq (by simp; omega) (by simp; omega), lf_eq hi hj, psum_more hi, psum_more hj]
theorem chk_more {w : Int} {ws : List Int} {x : Int} (hc : chk w ws = 0) (hn : ws.length ≤ 9) (hx : 1 ≤ x ∧ x ≤ w) : chk w (ws ++ [x]) = 0 := by
  obtain ⟨w1, w2, n1, n2, hws⟩ := chk_ok hc
  unfold chk
  rw [if_neg (by omega), if_neg (by simp), if_neg (by simp; omega), if_pos]
  intro y hy
  rcases List.mem_append.1 hy with h | h
  · exact hws y h
  · rw [List.mem_singleton] at h; subst h; exact hx
theorem chn_more {w : Int} {ws : List Int} {x : Int} : ∀ {G : List Nat} {fr : Nat}, fr ≤ ws.length → G.getLastD fr ≤ ws.length → (chn w (ws ++ [x]) fr G ↔ chn w ws fr G)
  | [], _, _, _ => Iff.rfl
  | a :: G, fr, h1, h2 => by
    rw [List.getLastD_cons] at h2
    constructor
    · rintro ⟨g1, g2, g3⟩
      have := chn_le g3
      rw [lf_more h1 (by omega)] at g2
      exact ⟨g1, g2, (chn_more (by omega) h2).1 g3⟩
    · rintro ⟨g1, g2, g3⟩
      have := chn_le g3
      rw [← lf_more (x := x) h1 (by omega)] at g2
      exact ⟨g1, g2, (chn_more (by omega) h2).2 g3⟩
theorem full_more {w : Int} {ws : List Int} {x : Int} (hc : chk w ws = 0) (hn : ws.length ≤ 9) (hx : 1 ≤ x ∧ x ≤ w) :
    (fullE w ws ws.length 0).length ≤ (fullE w (ws ++ [x]) (ws ++ [x]).length 0).length ∧ (fullE w (ws ++ [x]) (ws ++ [x]).length 0).length ≤ (fullE w ws ws.length 0).length + 1 := by
  have hc' := chk_more hc hn hx
  have h1 := ok_chn.1 (full_ok hc)
  have h2 := ok_chn.1 (full_ok hc')
  have hl : (ws ++ [x]).length = ws.length + 1 := by simp
  constructor
  · generalize hF : fullE w (ws ++ [x]) (ws ++ [x]).length 0 = F at *
    rw [hl] at h2
    have hne : F ≠ [] := by rintro rfl; simp at h2
    obtain ⟨G, j, rfl⟩ : ∃ G j, F = G ++ [j] := ⟨F.dropLast, F.getLast hne, (List.dropLast_concat_getLast hne).symm⟩
    rw [lastD_one] at h2
    obtain ⟨⟨c1, c2, c3⟩, rfl⟩ := And.imp_left chn_snoc.1 h2
    by_cases hm : G.getLastD 0 = ws.length
    · have := full_fewest hc (ok_chn.2 ⟨(chn_more (by omega) (by omega)).1 c1, hm⟩)
      simp; omega
    · have hm2 : G.getLastD 0 < ws.length := by omega
      have h3 := lf_mono hc' (i := G.getLastD 0) (j := ws.length) (k := ws.length + 1) (by omega) (by omega) (by rw [hl]; omega)
      rw [lf_more (j := ws.length) (by omega) (by omega)] at h3
      have := full_fewest hc (E := G ++ [ws.length]) (ok_chn.2 ⟨chn_snoc.2 ⟨(chn_more (by omega) (by omega)).1 c1, hm2, by omega⟩, by rw [lastD_one]⟩)
      simpa using this
  · have := full_fewest hc' (E := fullE w ws ws.length 0 ++ [ws.length + 1]) (ok_chn.2 ⟨chn_snoc.2 ⟨(chn_more (by omega) (by omega)).2 h1.1, by omega, ?_⟩, by rw [lastD_one, hl]⟩)
    · simpa using this
    · rw [h1.2]
      exact lf_one hc' (by omega)
theorem scanB_more {w : Int} {ws : List Int} {x : Int} {P : List (Int × Nat)} {j : Nat} (hj : j ≤ ws.length) : ∀ (m : Nat) (acc : Int × Nat), m ≤ j → scanB w (ws ++ [x]) P j m acc = scanB w ws P j m acc
  | 0, _, _ => rfl
  | m + 1, acc, hm => by
    unfold scanB
    rw [lf_more (by omega) hj, scanB_more hj m _ (by omega)]
    unfold sqf
    rw [lf_more (by omega) hj]
theorem pls_more {w : Int} {ws : List Int} {x : Int} : ∀ k, k ≤ ws.length → pls w (ws ++ [x]) k = pls w ws k
  | 0, _ => rfl
  | k + 1, hk => by
    unfold pls
    rw [pls_more k (by omega), scanB_more hk _ _ (by omega)]
end Line

/- How lines run over: as little as must be. -/
set_option linter.unusedVariables false
namespace Line
theorem stN_set {E : List Nat} {v k : Nat} {e : Nat} (hv : v < E.length) : stN (E.set v e) k = if k = v + 1 then e else stN E k := by
  unfold stN
  by_cases h0 : k = 0
  · subst h0; simp
  · rw [if_neg h0, if_neg h0, List.getD_eq_getElem?_getD, List.getElem?_set]
    by_cases h1 : k = v + 1
    · rw [if_pos h1, if_pos (by omega), if_pos (by omega)]; rfl
    · rw [if_neg h1, if_neg (by omega), List.getD_eq_getElem?_getD]
theorem getD_set {E : List Nat} {v k : Nat} {e : Nat} (hv : v < E.length) : (E.set v e).getD k 0 = if k = v then e else E.getD k 0 := by
  rw [List.getD_eq_getElem?_getD, List.getElem?_set]
  by_cases h1 : k = v
  · rw [if_pos h1, if_pos h1.symm, if_pos hv]; rfl
  · rw [if_neg h1, if_neg (Ne.symm h1), List.getD_eq_getElem?_getD]
theorem stN_snoc {E : List Nat} {k n : Nat} (hk : k ≤ E.length) : stN (E ++ [n]) k = stN E k := by
  unfold stN
  by_cases h0 : k = 0
  · rw [if_pos h0, if_pos h0]
  · rw [if_neg h0, if_neg h0, getD_append_lt (by omega)]
theorem getD_snoc {E : List Nat} {n : Nat} : (E ++ [n]).getD E.length 0 = n := by
  rw [List.getD_eq_getElem?_getD, List.getElem?_append_right (Nat.le_refl _)]; simp
def inOrd (n : Nat) (E : List Nat) : Prop := (∀ k, k < E.length → stN E k < E.getD k 0) ∧ (∀ k, E.getD k 0 ≤ n)
theorem inOrd.lt {n : Nat} {E : List Nat} (h : inOrd n E) : ∀ k, k < E.length → k < E.getD k 0
  | 0, hk => by have := h.1 0 hk; omega
  | k + 1, hk => by
    have h1 := h.1 (k + 1) hk
    have h2 := h.lt k (by omega)
    have : stN E (k + 1) = E.getD k 0 := by simp [stN]
    omega
theorem inOrd.len {n : Nat} {E : List Nat} (h : inOrd n E) : E.length ≤ n := by
  by_cases h0 : E.length = 0
  · omega
  · have h1 := h.lt (E.length - 1) (by omega)
    have h2 := h.2 (E.length - 1)
    omega
theorem inOrd.mono {n : Nat} {E : List Nat} (h : inOrd n E) : ∀ j k, j < k → k ≤ E.length → E.getD j 0 ≤ stN E k := by
  intro j k
  induction k with
  | zero => intro h; omega
  | succ k ih =>
    intro h1 h2
    have e : stN E (k + 1) = E.getD k 0 := by simp [stN]
    rw [e]
    by_cases he : j = k
    · subst he; exact Nat.le_refl _
    · have := ih (by omega) (by omega)
      have := h.1 k (by omega)
      omega
theorem lineOf_eq {n : Nat} {E : List Nat} (h : inOrd n E) {word k : Nat} (hk : k < E.length) (h1 : stN E k ≤ word) (h2 : word < E.getD k 0) : lineOf E word = k := by
  unfold lineOf
  have : (spansN E E.length).findIdx? (fun p => decide (word < p.2)) = some k := by
    rw [List.findIdx?_eq_some_iff_getElem]
    refine ⟨by simpa using hk, ?_, fun j hj => ?_⟩
    · have := spansN_get (E := E) hk
      rw [List.getElem?_eq_getElem (by simpa using hk)] at this
      rw [Option.some.inj this]
      simpa [spanN] using h2
    · have := spansN_get (E := E) (show j < E.length by omega)
      rw [List.getElem?_eq_getElem (by simp; omega)] at this
      rw [Option.some.inj this]
      have hm := h.mono j k hj (by omega)
      intro hh
      have hh2 : word < E.getD j 0 := of_decide_eq_true hh
      omega
  rw [this]; rfl
theorem ok_of_lines {w : Int} {ws : List Int} (E : List Nat) : (∀ k, k < E.length → stN E k < E.getD k 0 ∧ 0 ≤ lf w ws (stN E k) (E.getD k 0)) → chn w ws 0 E := by
  refine snoc_ind (P := fun E => (∀ k, k < E.length → stN E k < E.getD k 0 ∧ 0 ≤ lf w ws (stN E k) (E.getD k 0)) → chn w ws 0 E) (fun _ => trivial) (fun G j ih h => ?_) E
  have h1 := h G.length (by simp)
  rw [stN_append, getD_snoc] at h1
  refine chn_snoc.2 ⟨ih fun k hk => ?_, h1.1, h1.2⟩
  have := h k (by simp; omega)
  rw [stN_snoc (by omega), getD_append_lt hk] at this
  exact this
theorem endN_fit {w : Int} {ws : List Int} {i : Nat} (hc : chk w ws = 0) (hi : i < ws.length) : ∀ m, i < m → 0 ≤ lf w ws i (endN w ws i m)
  | 0, h => by omega
  | m + 1, h => by
    unfold endN
    split
    · rename_i hn
      by_cases hm : i < m
      · exact endN_fit hc hi m hm
      · have : m = i := by omega
        subst this
        have := lf_one hc hi
        omega
    · omega
theorem endN_next {w : Int} {ws : List Int} {i : Nat} : ∀ m, endN w ws i m < m → lf w ws i (endN w ws i m + 1) < 0
  | 0, h => by omega
  | m + 1, h => by
    unfold endN at h ⊢
    split
    · rename_i hn
      rw [if_pos hn] at h
      by_cases he : endN w ws i m < m
      · exact endN_next m he
      · have : endN w ws i m = m := by omega
        rw [this]; exact hn
    · rename_i hn
      rw [if_neg hn] at h
      omega
/-- What grown ends are, against the old ones. -/
structure Grown (w : Int) (ws : List Int) (E0 g : List Nat) : Prop where
  ord : inOrd ws.length g
  last : g.getD (g.length - 1) 0 = ws.length
  fit : ∀ k, k < g.length → 0 ≤ lf w ws (stN g k) (g.getD k 0)
  len : E0.length ≤ g.length
  le : ∀ k, k < E0.length → g.getD k 0 ≤ E0.getD k 0
  most : ∀ L, okEnds w ws L → (∀ v, v < L.length → v < E0.length → L.getD v 0 ≤ E0.getD v 0) → ∀ v, v < L.length → v < E0.length → L.getD v 0 ≤ g.getD v 0
  full : ∀ k, E0.length ≤ k → k < g.length → g.getD k 0 = ws.length ∨ lf w ws (stN g k) (g.getD k 0 + 1) < 0
theorem gr_spec {w : Int} {ws : List Int} {E0 : List Nat} (hc : chk w ws = 0) : ∀ (f : Nat) (E : List Nat) (line : Nat), line < E.length → ws.length ≤ f + line → inOrd ws.length E → E.getD (E.length - 1) 0 = ws.length →
    (∀ k, k < E.length → k ≠ line → 0 ≤ lf w ws (stN E k) (E.getD k 0)) → (∀ k, k < E0.length → E.getD k 0 ≤ E0.getD k 0) → (∀ k, line ≤ k → k < E0.length → E.getD k 0 = E0.getD k 0) →
    (E.length = E0.length ∨ (E0.length ≤ line ∧ line + 1 = E.length)) →
    (∀ L, okEnds w ws L → (∀ v, v < L.length → v < E0.length → L.getD v 0 ≤ E0.getD v 0) → ∀ v, v < L.length → v < E0.length → L.getD v 0 ≤ E.getD v 0) →
    (∀ k, E0.length ≤ k → k < line → lf w ws (stN E k) (E.getD k 0 + 1) < 0) →
    Grown w ws E0 (gr w ws f E line (stN E line)).1 ∧ line ≤ (gr w ws f E line (stN E line)).2 ∧ (∀ k, k < line → (gr w ws f E line (stN E line)).1.getD k 0 = E.getD k 0) ∧
    (∀ k, line ≤ k → k < (gr w ws f E line (stN E line)).2 → k < E0.length → (gr w ws f E line (stN E line)).1.getD k 0 ≠ E0.getD k 0) ∧
    (((gr w ws f E line (stN E line)).2 < E0.length ∧ (gr w ws f E line (stN E line)).1.getD (gr w ws f E line (stN E line)).2 0 = E0.getD (gr w ws f E line (stN E line)).2 0) ∨
      (E0.length ≤ (gr w ws f E line (stN E line)).2 ∧ (gr w ws f E line (stN E line)).2 + 1 = (gr w ws f E line (stN E line)).1.length))
  | 0, E, line, h1, h2, h3, h4, h5, h6, h6b, h7, h8, h9 => by
    have := h3.lt line h1
    have := h3.2 line
    omega
  | f + 1, E, line, h1, h2, h3, h4, h5, h6, h6b, h7, h8, h9 => by
    have ho := h3.1 line h1
    have hle := h3.2 line
    have hfr : stN E line < ws.length := by omega
    have hr := endN_range hc hfr _ ho
    have hfit := endN_fit hc hfr _ ho
    rw [gr]
    split
    · rename_i he
      refine ⟨⟨h3, h4, fun k hk => ?_, ?_, h6, h8, fun k hk hk2 => ?_⟩, Nat.le_refl _, fun _ _ => rfl, fun k hk hk2 => ?_, ?_⟩
      · by_cases hkl : k = line
        · subst hkl; rw [he] at hfit; exact hfit
        · exact h5 k hk hkl
      · show E0.length ≤ E.length
        omega
      · have hk2' : k < E.length := hk2
        by_cases hkl : k = line
        · left
          subst hkl
          rcases h7 with h7 | h7
          · omega
          · rw [show E.length - 1 = k by omega] at h4; exact h4
        · right
          refine h9 k hk ?_
          omega
      · omega
      · rcases h7 with h7 | h7
        · exact .inl ⟨by omega, h6b line (Nat.le_refl _) (by omega)⟩
        · exact .inr ⟨h7.1, h7.2⟩
    · rename_i he
      have hlt : endN w ws (stN E line) (E.getD line 0) < E.getD line 0 := by omega
      have hnext := endN_next _ hlt
      have hmax : ∀ L, okEnds w ws L → (∀ v, v < L.length → v < E0.length → L.getD v 0 ≤ E0.getD v 0) → line < L.length → line < E0.length → L.getD line 0 ≤ endN w ws (stN E line) (E.getD line 0) := by
        intro L hL hv hl1 hl2
        have hLl := ok_lines hL hl1
        have hst : stN L line ≤ stN E line := by
          unfold stN
          split
          · exact Nat.le_refl _
          · exact h8 L hL hv (line - 1) (by omega) (by omega)
        by_cases hlow : stN E line ≤ L.getD line 0
        · refine endN_max _ _ (h8 L hL hv line hl1 hl2) ?_
          have := lf_mono2 hc hst hlow hLl.2.1
          omega
        · omega
      generalize hx : endN w ws (stN E line) (E.getD line 0) = x at *
      have hgs : ∀ k, (E.set line x).getD k 0 = if k = line then x else E.getD k 0 := fun k => getD_set h1
      have hss : ∀ k, stN (E.set line x) k = if k = line + 1 then x else stN E k := fun k => stN_set h1
      have key : ∀ k, k < E.length → stN (E.set line x) k < (E.set line x).getD k 0 := by
        intro k hk
        rw [hgs, hss]
        split
        · rename_i e
          rw [if_neg (by omega), e]
          have := h3.1 (line + 1) (by omega)
          have e2 : stN E (line + 1) = E.getD line 0 := by simp [stN]
          omega
        · split
          · rename_i e; rw [e]; exact hr.1
          · exact h3.1 k hk
      have keyf : ∀ k, k < E.length → k ≠ line + 1 → 0 ≤ lf w ws (stN (E.set line x) k) ((E.set line x).getD k 0) := by
        intro k hk hk2
        rw [hgs, hss, if_neg hk2]
        split
        · rename_i e; rw [e]; exact hfit
        · rename_i e; exact h5 k hk e
      have keyle : ∀ k, (E.set line x).getD k 0 ≤ ws.length := by
        intro k
        rw [hgs]
        split
        · omega
        · exact h3.2 k
      have keymost : ∀ L, okEnds w ws L → (∀ v, v < L.length → v < E0.length → L.getD v 0 ≤ E0.getD v 0) → ∀ v, v < L.length → v < E0.length → L.getD v 0 ≤ (E.set line x).getD v 0 := by
        intro L hL hv v h1 h2
        rw [hgs]
        split
        · rename_i e; rw [e]; rw [e] at h1 h2; exact hmax L hL hv h1 h2
        · exact h8 L hL hv v h1 h2
      have key6 : ∀ k, k < E0.length → (E.set line x).getD k 0 ≤ E0.getD k 0 := by
        intro k hk
        have := h6 k hk
        rw [hgs]
        split
        · rename_i e; rw [e] at this ⊢; omega
        · exact this
      have key9 : ∀ k, E0.length ≤ k → k < line + 1 → lf w ws (stN (E.set line x) k) ((E.set line x).getD k 0 + 1) < 0 := by
        intro k hk hk2
        rw [hgs, hss, if_neg (by omega)]
        split
        · rename_i e; rw [e]; exact hnext
        · exact h9 k hk (by omega)
      have hl : (E.set line x).length = E.length := by simp
      have hxe : line < E0.length → x < E0.getD line 0 := fun h => by have := h6 line h; omega
      split
      · rename_i hend
        have hst2 : stN (E.set line x ++ [ws.length]) (line + 1) = x := by
          rw [stN_snoc (by omega), hss, if_pos rfl]
        have hgl : ∀ k, k < E.length → (E.set line x ++ [ws.length]).getD k 0 = (E.set line x).getD k 0 := fun k hk => getD_append_lt (by omega)
        have hgL : (E.set line x ++ [ws.length]).getD E.length 0 = ws.length := by rw [← hl]; exact getD_snoc
        have ih := gr_spec hc (E0 := E0) f (E.set line x ++ [ws.length]) (line + 1) (by simp; omega) (by omega) ⟨fun k hk => ?_, fun k => ?_⟩ ?_ (fun k hk hk2 => ?_) (fun k hk => ?_) (fun k hk hk2 => ?_) ?_ (fun L hL hv v hv1 hv2 => ?_) (fun k hk hk2 => ?_)
        · rw [hst2] at ih
          obtain ⟨g1, g2, g3, g4, g5⟩ := ih
          refine ⟨g1, by omega, fun k hk => ?_, fun k hk hk2 hk3 => ?_, g5⟩
          · rw [g3 k (by omega), hgl k (by omega), hgs, if_neg (by omega)]
          · by_cases e : k = line
            · have := hxe (by omega)
              rw [g3 k (by omega), hgl k (by omega), hgs, if_pos e, e]
              omega
            · exact g4 k (by omega) hk2 hk3
        · simp at hk
          rw [stN_snoc (by omega)]
          by_cases e : k < E.length
          · rw [hgl k e]; exact key k e
          · have : k = E.length := by omega
            subst this
            rw [hgL, hss, if_pos (by omega)]; omega
        · by_cases e : k < E.length
          · rw [hgl k e]; exact keyle k
          · by_cases e2 : k = E.length
            · rw [e2, hgL]; exact Nat.le_refl _
            · rw [List.getD_eq_getElem?_getD, List.getElem?_eq_none (by simp; omega)]; simp
        · simp only [List.length_append, hl, List.length_singleton, Nat.add_sub_cancel]
          exact hgL
        · simp at hk
          rw [stN_snoc (by omega), hgl k (by omega)]
          exact keyf k (by omega) hk2
        · rw [hgl k (by omega)]; exact key6 k hk
        · omega
        · right; simp; omega
        · rw [hgl v (by omega)]; exact keymost L hL hv v hv1 hv2
        · rw [stN_snoc (by omega), hgl k (by omega)]; exact key9 k hk hk2
      · rename_i hend
        have hlen : E.length = E0.length := by omega
        have hst2 : stN (E.set line x) (line + 1) = x := by rw [hss, if_pos rfl]
        have ih := gr_spec hc (E0 := E0) f (E.set line x) (line + 1) (by omega) (by omega) ⟨fun k hk => key k (by omega), keyle⟩ (by rw [hl, hgs, if_neg (by omega)]; exact h4) (fun k hk hk2 => keyf k (by omega) hk2) key6
          (fun k hk hk2 => by rw [hgs, if_neg (by omega)]; exact h6b k (by omega) hk2) (.inl (by omega)) keymost key9
        rw [hst2] at ih
        obtain ⟨g1, g2, g3, g4, g5⟩ := ih
        refine ⟨g1, by omega, fun k hk => ?_, fun k hk hk2 hk3 => ?_, g5⟩
        · rw [g3 k (by omega), hgs, if_neg (by omega)]
        · by_cases e : k = line
          · have := hxe (by omega)
            rw [g3 k (by omega), hgs, if_pos e, e]
            omega
          · exact g4 k (by omega) hk2 hk3
end Line

/- Grown ends are the ones that are nowhere behind the old ones and as far behind as can be. -/
set_option linter.unusedVariables false
namespace Line
theorem ext_ex {w : Int} {ws : List Int} : ∀ (f fr : Nat), ext w ws f fr = extM w ws ws.length f fr
  | 0, fr => by unfold ext extM; rfl
  | f + 1, fr => by
    by_cases h : fr = ws.length
    · subst h; rw [extM_done]; unfold ext; rw [if_pos rfl]
    · rw [ext_succ h, extM_succ h]
      unfold extTo extMTo
      congr 1
      funext d
      rw [ext_ex f]
theorem mem_ext {w : Int} {ws : List Int} {F : List Nat} : F ∈ ext w ws ws.length 0 ↔ okEnds w ws F := by
  rw [ext_ex, mem_extM _ _ _ (Nat.zero_le _) (by omega), ok_chn]
theorem ok_ord {w : Int} {ws : List Int} {E : List Nat} (h : okEnds w ws E) : inOrd ws.length E := by
  refine ⟨fun k hk => (ok_lines h hk).1, fun k => ?_⟩
  by_cases hk : k < E.length
  · exact (ok_lines h hk).2.1
  · rw [List.getD_eq_getElem?_getD, List.getElem?_eq_none (by omega)]; simp
theorem ok_last {w : Int} {ws : List Int} {E : List Nat} (h : okEnds w ws E) (hne : E ≠ []) : E.getD (E.length - 1) 0 = ws.length := by
  rw [getD_last E hne]; exact h.2.1
theorem line_ex {E : List Nat} {word : Nat} : ∀ m, m < E.length → word < E.getD m 0 → ∃ k, k < E.length ∧ stN E k ≤ word ∧ word < E.getD k 0
  | 0, h1, h2 => ⟨0, h1, by simp [stN], h2⟩
  | m + 1, h1, h2 => by
    by_cases h : word < E.getD m 0
    · exact line_ex m (by omega) h
    · exact ⟨m + 1, h1, by rw [show stN E (m + 1) = E.getD m 0 from by simp [stN]]; omega, h2⟩
theorem wide_len {ws : List Int} {word : Nat} {b : Int} : (wide ws word b).length = ws.length := by simp [wide]
theorem lf_wide {w b : Int} {ws : List Int} {word i j : Nat} (hw : word < ws.length) (hi : i ≤ ws.length) (hj : j ≤ ws.length) (h : j ≤ word ∧ i ≤ word ∨ word < i ∧ word < j) : lf w (wide ws word b) i j = lf w ws i j := by
  rw [lf_eq (by rw [wide_len]; exact hi) (by rw [wide_len]; exact hj), lf_eq hi hj]
  unfold wide
  rw [psum_set hw _ hi, psum_set hw _ hj]
  rcases h with h | h
  · rw [if_neg (by omega), if_neg (by omega)]; omega
  · rw [if_pos (by omega), if_pos (by omega)]; omega
theorem grow_spec {w b : Int} {ws : List Int} {E : List Nat} {word : Nat} (hc : chk w ws = 0) (hE : okEnds w ws E) (hne : E ≠ []) (hw : word < ws.length) (hb : 1 ≤ b) (hbw : ws.getD word 0 + b ≤ w) :
    ∃ line g at', (gr w (wide ws word b) ws.length E (lineOf E word) (stN E (lineOf E word))) = (g, at') ∧ line < E.length ∧ (∀ k, k < line → E.getD k 0 ≤ word) ∧ word < E.getD line 0 ∧
      Grown w (wide ws word b) E g ∧ line ≤ at' ∧ (∀ k, line ≤ k → k < at' → k < E.length → g.getD k 0 ≠ E.getD k 0) ∧
      ((at' < E.length ∧ g.getD at' 0 = E.getD at' 0) ∨ (E.length ≤ at' ∧ at' + 1 = g.length)) := by
  have ho := ok_ord hE
  have hl := ok_last hE hne
  have hEl : 0 < E.length := List.length_pos_iff.2 hne
  obtain ⟨line, h1, h2, h3⟩ := line_ex (E := E) (word := word) (E.length - 1) (by omega) (by omega)
  rw [lineOf_eq ho h1 h2 h3]
  have hx : 1 ≤ ws.getD word 0 := by
    obtain ⟨w1, w2, n1, n2, hws⟩ := chk_ok hc
    have : ws.getD word 0 ∈ ws := by rw [List.getD_eq_getElem?_getD]; simp [hw]
    exact (hws _ this).1
  have hc' : chk w (wide ws word b) = 0 := chk_set hc ⟨by omega, hbw⟩
  have hlen := wide_len (ws := ws) (word := word) (b := b)
  have key : ∀ k, k < line → E.getD k 0 ≤ word := fun k hk => by have := ho.mono k line hk (by omega); omega
  obtain ⟨g1, g2, g3, g4, g5⟩ := gr_spec hc' (E0 := E) ws.length E line h1 (by omega) (by rw [hlen]; exact ho) (by rw [hlen]; exact hl) (fun k hk hk2 => by
      have := (ok_lines hE hk)
      rw [lf_wide hw (by omega) this.2.1 ?_]
      · exact this.2.2
      · by_cases hkl : k < line
        · left
          have := key k hkl
          omega
        · right
          have := ho.mono line k (by omega) (by omega)
          omega) (fun _ _ => Nat.le_refl _) (fun _ _ _ => rfl) (.inl rfl) (fun L hL hv => hv) (fun k hk hk2 => by omega)
  exact ⟨line, _, _, rfl, h1, key, h3, g1, g2, g4, g5⟩
/-- Ends that are nowhere behind others. -/
def nbeh (E L : List Nat) : Prop := ∀ v, v < L.length → v < E.length → L.getD v 0 ≤ E.getD v 0
instance (E L : List Nat) : Decidable (nbeh E L) := by unfold nbeh; infer_instance
def moS (v m : Nat) (L : List Nat) : Nat := if v < L.length then max m (L.getD v 0) else m
/-- The farthest of the ends that are nowhere behind. -/
def mo (E : List Nat) (done : List (List Nat)) (v : Nat) : Nat := (done.filter fun L => decide (nbeh E L)).foldl (moS v) 0
theorem mo_snoc {E L : List Nat} {done : List (List Nat)} {v : Nat} : mo E (done ++ [L]) v = if nbeh E L then moS v (mo E done v) L else mo E done v := by
  unfold mo
  rw [List.filter_append, List.foldl_append]
  by_cases h : nbeh E L
  · simp [h]
  · simp [h]
theorem foldl_mo {v B : Nat} : ∀ (l : List (List Nat)) (m : Nat), m ≤ B → (∀ L ∈ l, v < L.length → L.getD v 0 ≤ B) → l.foldl (moS v) m ≤ B ∧ m ≤ l.foldl (moS v) m ∧ ∀ L ∈ l, v < L.length → L.getD v 0 ≤ l.foldl (moS v) m
  | [], m, h, _ => ⟨h, Nat.le_refl _, by simp⟩
  | L :: l, m, h, hB => by
    have h1 : moS v m L ≤ B := by
      unfold moS
      split
      · have := hB L (by simp) (by assumption)
        omega
      · exact h
    have h2 : m ≤ moS v m L := by unfold moS; split <;> omega
    obtain ⟨i1, i2, i3⟩ := foldl_mo l (moS v m L) h1 fun L hL => hB L (by simp [hL])
    refine ⟨i1, by rw [List.foldl_cons]; omega, fun L' hL' hv => ?_⟩
    rw [List.foldl_cons]
    rcases List.mem_cons.1 hL' with rfl | h
    · have : L'.getD v 0 ≤ moS v m L' := by unfold moS; rw [if_pos hv]; omega
      omega
    · exact i3 L' h hv
theorem mo_bd {E : List Nat} {done : List (List Nat)} {v B : Nat} (h : ∀ L ∈ done, v < L.length → L.getD v 0 ≤ B) : mo E done v ≤ B :=
  (foldl_mo _ 0 (by omega) fun L hL => h L (List.mem_filter.1 hL).1).1
theorem grown_ok {w : Int} {ws : List Int} {E g : List Nat} (hg : Grown w ws E g) (hne : g ≠ []) : okEnds w ws g :=
  ok_chn.2 ⟨ok_of_lines g fun k hk => ⟨hg.ord.1 k hk, hg.fit k hk⟩, by rw [← getD_last g hne]; exact hg.last⟩
theorem mo_grown {w : Int} {ws : List Int} {E g : List Nat} (hg : Grown w ws E g) (hne : g ≠ []) : (∃ L ∈ ext w ws ws.length 0, nbeh E L) ∧ ∀ v, v < E.length → mo E (ext w ws ws.length 0) v = g.getD v 0 := by
  have hok := grown_ok hg hne
  have ha : nbeh E g := fun v h1 h2 => hg.le v h2
  have hm : g ∈ ext w ws ws.length 0 := mem_ext.2 hok
  refine ⟨⟨g, hm, ha⟩, fun v hv => ?_⟩
  have := foldl_mo (v := v) (B := g.getD v 0) ((ext w ws ws.length 0).filter fun L => decide (nbeh E L)) 0 (by omega) fun L hL hv2 => by
    obtain ⟨h1, h2⟩ := List.mem_filter.1 hL
    exact hg.most L (mem_ext.1 h1) (fun v a b => of_decide_eq_true h2 v a b) v hv2 hv
  have h3 := this.2.2 g (List.mem_filter.2 ⟨hm, decide_eq_true ha⟩) (by have := hg.len; omega)
  have h4 := this.1
  unfold mo
  omega
end Line

/- Some ends of a text: lines as full as they can be, or shorter by numbers. -/
set_option linter.unusedVariables false
namespace Line
def brT (w : Int) (ws : List Int) (st : List Nat) (fr : Nat) : Nat → Nat → Nat
  | 0, to => to
  | f + 1, to => if to < ws.length ∧ 0 ≤ lf w ws fr (to + 1) ∧ 0 < st.getD to 0 % 4 then brT w ws st fr f (to + 1) else to
def brk (w : Int) (ws : List Int) (st : List Nat) : Nat → Nat → List Nat
  | 0, _ => []
  | f + 1, fr => if fr < ws.length then brT w ws st fr ws.length (fr + 1) :: brk w ws st f (brT w ws st fr ws.length (fr + 1)) else []
theorem brk_done (w : Int) (ws : List Int) (st : List Nat) (f : Nat) : brk w ws st f ws.length = [] := by cases f <;> simp [brk]
theorem brT_stop {w : Int} {ws : List Int} {st : List Nat} {fr f to : Nat} (h : ¬ (to < ws.length ∧ 0 ≤ lf w ws fr (to + 1) ∧ 0 < st.getD to 0 % 4)) : brT w ws st fr f to = to := by
  cases f with
  | zero => rfl
  | succ f => rw [brT, if_neg h]
theorem brT_fit {w : Int} {ws : List Int} {st : List Nat} {fr : Nat} : ∀ f to, fr < to → to ≤ ws.length → 0 ≤ lf w ws fr to → fr < brT w ws st fr f to ∧ brT w ws st fr f to ≤ ws.length ∧ 0 ≤ lf w ws fr (brT w ws st fr f to)
  | 0, to, h1, h2, h3 => ⟨h1, h2, h3⟩
  | f + 1, to, h1, h2, h3 => by
    unfold brT
    split
    · rename_i h; exact brT_fit f (to + 1) (by omega) (by omega) h.2.1
    · exact ⟨h1, h2, h3⟩
theorem brk_chn {w : Int} {ws : List Int} {st : List Nat} (hc : chk w ws = 0) : ∀ f fr, fr ≤ ws.length → ws.length - fr ≤ f → chn w ws fr (brk w ws st f fr) ∧ (brk w ws st f fr).getLastD fr = ws.length
  | 0, fr, h, hf => by
    have : fr = ws.length := by omega
    subst this
    rw [brk_done]; exact ⟨trivial, rfl⟩
  | f + 1, fr, h, hf => by
    by_cases hlt : fr < ws.length
    · rw [brk, if_pos hlt]
      have hr := brT_fit (w := w) (ws := ws) (st := st) (fr := fr) ws.length (fr + 1) (by omega) (by omega) (lf_one hc hlt)
      have ih := brk_chn (st := st) hc f (brT w ws st fr ws.length (fr + 1)) hr.2.1 (by omega)
      exact ⟨⟨hr.1, hr.2.2, ih.1⟩, by rw [List.getLastD_cons]; exact ih.2⟩
    · have : fr = ws.length := by omega
      subst this
      rw [brk_done]; exact ⟨trivial, rfl⟩
theorem brk_ok {w : Int} {ws : List Int} {st : List Nat} (hc : chk w ws = 0) : okEnds w ws (brk w ws st ws.length 0) := ok_chn.2 (brk_chn hc _ _ (by omega) (by omega))
end Line

/- The farthest ends, as lists. -/
set_option linter.unusedVariables false
namespace Line
/-- The first places raised. -/
def mxk (M F : List Nat) (v : Nat) : List Nat := (List.range M.length).map fun u => if u < v then moS u (M.getD u 0) F else M.getD u 0
@[simp] theorem mxk_length (M F : List Nat) (v : Nat) : (mxk M F v).length = M.length := by simp [mxk]
theorem mxk_get {M F : List Nat} {v u : Nat} (h : u < M.length) : (mxk M F v).getD u 0 = if u < v then moS u (M.getD u 0) F else M.getD u 0 := by
  simp [mxk, List.getD_eq_getElem?_getD, h]
theorem ext_getN {l m : List Nat} (h : l.length = m.length) (h2 : ∀ k, k < l.length → l.getD k 0 = m.getD k 0) : l = m := by
  refine List.ext_getElem h fun k h3 h4 => ?_
  have := h2 k h3
  simpa [List.getD_eq_getElem?_getD, h3, h4] using this
theorem ext_getI {l m : List Int} (h : l.length = m.length) (h2 : ∀ k, k < l.length → l.getD k 0 = m.getD k 0) : l = m := by
  refine List.ext_getElem h fun k h3 h4 => ?_
  have := h2 k h3
  simpa [List.getD_eq_getElem?_getD, h3, h4] using this
theorem mxk_zero (M F : List Nat) : mxk M F 0 = M := by
  refine ext_getN (by simp) fun k hk => ?_
  rw [mxk_length] at hk
  rw [mxk_get hk, if_neg (by omega)]
theorem getN_set {l : List Nat} {i k x : Nat} (hi : i < l.length) : (l.set i x).getD k 0 = if k = i then x else l.getD k 0 := by
  rw [List.getD_eq_getElem?_getD, List.getD_eq_getElem?_getD, List.getElem?_set]
  by_cases h : i = k
  · subst h; simp [hi]
  · rw [if_neg h, if_neg (by omega)]
theorem mxk_step {M F : List Nat} {v : Nat} (h : v < M.length) : (mxk M F v).set v (moS v (M.getD v 0) F) = mxk M F (v + 1) := by
  refine ext_getN (by simp) fun k hk => ?_
  simp only [List.length_set, mxk_length] at hk
  rw [getN_set (by simp; omega), mxk_get hk, mxk_get hk]
  by_cases h1 : k = v
  · rw [if_pos h1, if_pos (by omega), h1]
  · rw [if_neg h1]
    by_cases h2 : k < v
    · rw [if_pos h2, if_pos (by omega)]
    · rw [if_neg h2, if_neg (by omega)]
theorem mxk_skip {M F : List Nat} {v : Nat} (h : F.length ≤ v) : mxk M F (v + 1) = mxk M F v := by
  unfold mxk
  refine List.map_congr_left fun u _ => ?_
  by_cases h1 : u < v
  · rw [if_pos h1, if_pos (by omega)]
  · rw [if_neg h1]
    split
    · unfold moS; rw [if_neg (by omega)]
    · rfl
theorem up_set {l : List Nat} {i x : Nat} : up (l.set i x) = (up l).set i (x : Int) := by simp [up, List.map_set]
/-- The farthest ends. -/
def moL (E : List Nat) (done : List (List Nat)) : List Nat := (List.range E.length).map (mo E done)
@[simp] theorem moL_length (E : List Nat) (done : List (List Nat)) : (moL E done).length = E.length := by simp [moL]
theorem moL_get {E : List Nat} {done : List (List Nat)} {v : Nat} (h : v < E.length) : (moL E done).getD v 0 = mo E done v := by
  simp [moL, List.getD_eq_getElem?_getD, h]
theorem moL_no {E F : List Nat} {done : List (List Nat)} (h : ¬ nbeh E F) : moL E (done ++ [F]) = moL E done := by
  unfold moL
  refine List.map_congr_left fun v _ => ?_
  rw [mo_snoc, if_neg h]
theorem moL_yes {E F : List Nat} {done : List (List Nat)} (h : nbeh E F) : moL E (done ++ [F]) = mxk (moL E done) F E.length := by
  refine ext_getN (by simp) fun k hk => ?_
  rw [moL_length] at hk
  rw [moL_get hk, mo_snoc, if_pos h, mxk_get (by simpa using hk), if_pos hk, moL_get hk]
theorem moL_nil (E : List Nat) : moL E [] = List.replicate E.length 0 := by
  refine ext_getN (by simp) fun k hk => ?_
  rw [moL_length] at hk
  rw [moL_get hk]
  simp [mo, List.getD_eq_getElem?_getD, hk]
/-- The first places zero. -/
def zr (l : List Nat) (i : Nat) : List Nat := List.replicate i 0 ++ l.drop i
theorem zr_length {l : List Nat} {i : Nat} (h : i ≤ l.length) : (zr l i).length = l.length := by simp [zr]; omega
theorem zr_step {l : List Nat} {i : Nat} (h : i < l.length) : (zr l i).set i 0 = zr l (i + 1) := by
  unfold zr
  rw [List.set_append_right _ _ (by simp), List.length_replicate, Nat.sub_self, List.drop_eq_getElem_cons h, List.set_cons_zero, List.replicate_succ', List.append_assoc]
  rfl
theorem zr_end (l : List Nat) : zr l l.length = List.replicate l.length 0 := by simp [zr]
theorem ex_snoc {E F : List Nat} {done : List (List Nat)} : (∃ L ∈ done ++ [F], nbeh E L) ↔ (∃ L ∈ done, nbeh E L) ∨ nbeh E F := by
  constructor
  · rintro ⟨L, h1, h2⟩
    rcases List.mem_append.1 h1 with h | h
    · exact .inl ⟨L, h, h2⟩
    · rw [List.mem_singleton] at h; subst h; exact .inr h2
  · rintro (⟨L, h1, h2⟩ | h)
    · exact ⟨L, by simp [h1], h2⟩
    · exact ⟨F, by simp, h⟩
end Line

namespace Go.Proofs.Ytlajhbpkogekfaa
open Go.Av Line
set_option linter.unusedVariables false
set_option linter.unusedSimpArgs false
set_option maxRecDepth 4000

theorem slc_reads {H : Heap} {v : AV} {l : List Int} {i j : Nat} (h : Reads H v l) (hij : i < j) (hj : j ≤ l.length) :
    ∃ v', slc 1 v (some (.int .i64 (i : Int))) (some (.int .i64 (j : Int))) none = some v' ∧ Reads H v' ((l.drop i).take (j - i)) := by
  have n1 : ∀ d, natOf (some (.int .i64 (i : Int))) d = some i := fun d => by simp [natOf]
  have n2 : ∀ d, natOf (some (.int .i64 (j : Int))) d = some j := fun d => by simp [natOf]
  cases v <;> simp only [Reads] at h <;> try exact h.elim
  · subst h; simp at hj; omega
  · obtain ⟨rfl, rfl⟩ := h
    simp only [slc, n1, n2, Option.bind_some]
    rw [if_pos ⟨by omega, hj⟩]
    refine ⟨_, rfl, by simp; omega, ?_⟩
    rw [Nat.mul_one, Nat.mul_one, ints_drop, ints_take]
  · rename_i s b off n cp
    obtain ⟨rfl, rfl, cells, hb, hc, ht⟩ := h
    simp only [slc, n1, n2, Option.bind_some]
    rw [if_pos ⟨by trivial, by omega, hj, by omega⟩]
    refine ⟨_, rfl, rfl, by simp; omega, cells, hb, by omega, ?_⟩
    rw [Nat.mul_one, ← ints_take, ← ints_drop, ← ht, List.drop_take, List.take_take, List.drop_drop, Nat.min_eq_left (by omega)]

/-- left, of the law -/
theorem c43 {w : Int} {v : AV} {ws : List Int} {i j : Nat} {H : Heap} {K : AV → Heap → Prop} (hv : Reads H v ws) (hc : chk w ws = 0) (hij : i < j) (hj : j ≤ ws.length) (hk : K (.int .i64 (lf w ws i j)) H) :
    ACalls Try.prog 43 [.agg [.int .i64 w, v], .int .i64 i, .int .i64 j] H K := by
  apply W43_ok
  unfold W43
  obtain ⟨w1, w2, n1, n2, hws⟩ := chk_ok hc
  obtain ⟨v', hs, hr⟩ := slc_reads hv hij hj
  have hll : ((ws.drop i).take (j - i)).length = j - i := by simp; omega
  simp only [letO_some, cellsOf?_agg, cellsOf?_int, cellsOf?_bool, cellsOf?_imm, cellsOf?_ref, cellsOf?_nils, faddr_iptr, faddr_ptr, List.drop_succ_cons, List.drop_zero, List.take_succ_cons, List.take_zero, load1_iptr, loadN_iptr, List.length_cons, List.length_nil, Nat.le_refl, if_true, List.getElem?_cons_zero, List.getElem?_cons_succ, List.getD_cons_zero, List.getD_cons_succ, extrF_tup, binF_add, binF_sub, binF_mul, binF_eql, binF_neq, binF_lss, binF_leq, binF_gtr, binF_geq, true_and, hs, hr.len]
  refine ⟨fun L H' => ∃ (k : Nat), L = [.int .i64 (psum ws (i + k) - psum ws i - 1), .int .i64 k] ∧ i + k ≤ j ∧ H' = H, fun L _ => (j - i - iv L 1).toNat, ⟨0, by simp, by omega, rfl⟩, ?_⟩
  intro L H' hI
  obtain ⟨k, rfl, hk1, rfl⟩ := hI
  simp only [letO_some, cellsOf?_agg, cellsOf?_int, cellsOf?_bool, cellsOf?_imm, cellsOf?_ref, cellsOf?_nils, faddr_iptr, faddr_ptr, List.drop_succ_cons, List.drop_zero, List.take_succ_cons, List.take_zero, load1_iptr, loadN_iptr, List.length_cons, List.length_nil, Nat.le_refl, if_true, List.getElem?_cons_zero, List.getElem?_cons_succ, List.getD_cons_zero, List.getD_cons_succ, extrF_tup, binF_add, binF_sub, binF_mul, binF_eql, binF_neq, binF_lss, binF_leq, binF_gtr, binF_geq, true_and, hll]
  have hb1 := psum_le (ws := ws) (k := i) fun x hx => by have := hws x (List.mem_of_mem_take hx); omega
  have hb2 := psum_le (ws := ws) (k := i + k) fun x hx => by have := hws x (List.mem_of_mem_take hx); omega
  refine condA_t (fun hlt => ?_) (fun hge => ?_)
  · refine hr.get (Heap.le_refl _) (by omega) (by rw [hll]; exact hlt) ?_
    have hk2 : k < j - i := by omega
    have hg : ((ws.drop i).take (j - i)).getD (k : Int).toNat 0 = ws.getD (i + k) 0 := by
      rw [Int.toNat_natCast, List.getD_eq_getElem?_getD, List.getElem?_take_of_lt hk2, List.getElem?_drop, ← List.getD_eq_getElem?_getD]
    rw [hg]
    have hm : ws.getD (i + k) 0 ∈ ws := by rw [List.getD_eq_getElem?_getD]; simp [show i + k < ws.length by omega]
    have hx := hws _ hm
    have hp := psum_succ (show i + k < ws.length by omega)
    simp only [letO_some, cellsOf?_agg, cellsOf?_int, cellsOf?_bool, cellsOf?_imm, cellsOf?_ref, cellsOf?_nils, faddr_iptr, faddr_ptr, List.drop_succ_cons, List.drop_zero, List.take_succ_cons, List.take_zero, load1_iptr, loadN_iptr, List.length_cons, List.length_nil, Nat.le_refl, if_true, List.getElem?_cons_zero, List.getElem?_cons_succ, List.getD_cons_zero, List.getD_cons_succ, extrF_tup, binF_add, binF_sub, binF_mul, binF_eql, binF_neq, binF_lss, binF_leq, binF_gtr, binF_geq, true_and]
    rw [wrap_i64 (n := ws.getD (i + k) 0 + 1) (by omega) (by omega), wrap_i64 (n := psum ws (i + k) - psum ws i - 1 + (ws.getD (i + k) 0 + 1)) (by omega) (by omega), wrap_i64 (n := (k : Int) + 1) (by omega) (by omega)]
    try simp only [true_and, and_true]
    refine ⟨⟨k + 1, ?_, by omega⟩, by simp <;> omega⟩
    have e : psum ws (i + (k + 1)) - psum ws i - 1 = psum ws (i + k) - psum ws i - 1 + (ws.getD (i + k) 0 + 1) := by
      rw [show i + (k + 1) = i + k + 1 by omega, hp]; omega
    rw [e]
    rfl
  · have : i + k = j := by omega
    rw [this] at hb2 ⊢
    rw [wrap_i64 (by omega) (by omega)]
    rw [lf_eq (by omega) hj] at hk
    refine endK_ret ?_
    have e : w - (psum ws j - psum ws i - 1) = w + 1 - (psum ws j - psum ws i) := by omega
    rw [e]; exact hk

theorem conv53 {n : Int} (h : 0 ≤ n ∧ n < 256) : convF Try.prog 5 3 (.int .u8 n) = some (.int .i64 n) := by
  have h1 : Try.prog.underlying 5 = some (.int .u8) := by kernel_rfl
  have h2 : Try.prog.underlying 3 = some (.int .i64) := by kernel_rfl
  simp only [convF, h1, h2]
  rw [wrap_i64 (by omega) (by omega)]
theorem rem_nat {k : IntKind} {t : TypeId} {a b : Nat} (hb : b ≠ 0) : binF Try.prog .rem t (.int k (a : Int)) (.int k (b : Int)) = some (.int k ((a % b : Nat) : Int)) := by
  simp only [binF]
  rw [if_pos ⟨by trivial, by omega⟩, Int.ofNat_tmod]
theorem quo_nat {t : TypeId} {a b : Nat} (hb : b ≠ 0) (ha : a < 1000000000) : binF Try.prog .quo t (.int .i64 (a : Int)) (.int .i64 (b : Int)) = some (.int .i64 ((a / b : Nat) : Int)) := by
  simp only [binF]
  rw [if_pos ⟨by trivial, by omega⟩, ← Int.ofNat_tdiv]
  have := Nat.div_le_self a b
  generalize a / b = q at *
  rw [wrap_i64 (by omega) (by omega)]
theorem b24n {x : AV} (hx : cellsOf? x = some [x]) : buildF Try.prog 24 [(0, x)] = some (.agg [x, .nils]) := by
  rw [buildF_of (show buildPlan Try.prog 24 = some ([.int .i64 0, .nils], [(0, 1), (1, 1)]) by kernel_rfl)]
  simp [fillA, hx, splice]
def u8s (l : List Nat) : List AV := l.map fun (x : Nat) => .int .u8 (x : Int)
@[simp] theorem u8s_length (l : List Nat) : (u8s l).length = l.length := by simp [u8s]

/-- made -/
theorem c34 {W M S most : Nat} {l : List Nat} {H : Heap} {K : AV → Heap → Prop} (hW : W < 256) (hM : M < 256) (hS : S < 256) (hl : l.length = 10) (hlx : ∀ x ∈ l, x < 256) (hm : 1 ≤ most ∧ most ≤ 10)
    (hk : K (.agg [.int .i64 (gw W : Nat), sl (madeL W M S l most)]) H) : ACalls Try.prog 34 [.agg (u8s (W :: M :: S :: l)), .int .i64 most] H K := by
  apply W34_ok
  unfold W34
  have hgw := gw_range W
  have hgm := gmin_range W S
  have hr40 : binF Try.prog .rem 3 (.int .i64 (W : Int)) (.int .i64 40) = some (.int .i64 ((W % 40 : Nat) : Int)) := rem_nat (b := 40) (by decide)
  simp only [letO_some, cellsOf?_agg, cellsOf?_int, cellsOf?_bool, cellsOf?_imm, cellsOf?_ref, cellsOf?_nils, faddr_iptr, faddr_ptr, List.drop_succ_cons, List.drop_zero, List.take_succ_cons, List.take_zero, load1_iptr, loadN_iptr, List.length_cons, List.length_nil, Nat.le_refl, if_true, List.getElem?_cons_zero, List.getElem?_cons_succ, List.getD_cons_zero, List.getD_cons_succ, extrF_tup, binF_add, binF_sub, binF_mul, binF_eql, binF_neq, binF_lss, binF_leq, binF_gtr, binF_geq, true_and, u8s, List.map_cons, conv53 (show (0 : Int) ≤ W ∧ (W : Int) < 256 by omega), hr40]
  intro b4 hb4
  have e1 : (1 : Int) + ((W % 40 : Nat) : Int) = ((gw W : Nat) : Int) := by unfold gw; omega
  rw [e1, wrap_i64 (by omega) (by omega)]
  simp only [b24n cellsOf?_int, letO_some]
  refine alloc_store (cs := [.int .i64 (gw W : Nat), .nils]) rfl rfl rfl rfl fun b5 hb5 => ?_
  have hne : b4 ≠ b5 := Heap.ne_of Heap.put_same hb5
  have hb5' : H b5 = none := by rwa [Heap.put_ne (Ne.symm hne)] at hb5
  generalize hH4 : (H.put b4 [.int .i64 0, .nils]).put b5 [.int .i64 (gw W : Nat), .nils] = H4
  have l50 : load1 (.ptr b5 0) H4 = some (.int .i64 (gw W : Nat)) := load1_at (by subst hH4; exact Heap.put_same) rfl
  have hr3 : binF Try.prog .rem 5 (.int .u8 (S : Int)) (.int .u8 3) = some (.int .u8 ((S % 3 : Nat) : Int)) := rem_nat (b := 3) (by decide)
  have hq2 : binF Try.prog .quo 3 (.int .i64 (gw W : Nat)) (.int .i64 2) = some (.int .i64 ((gw W / 2 : Nat) : Int)) := quo_nat (b := 2) (by decide) (by omega)
  simp only [letO_some, cellsOf?_agg, cellsOf?_int, cellsOf?_bool, cellsOf?_imm, cellsOf?_ref, cellsOf?_nils, faddr_iptr, faddr_ptr, List.drop_succ_cons, List.drop_zero, List.take_succ_cons, List.take_zero, load1_iptr, loadN_iptr, List.length_cons, List.length_nil, Nat.le_refl, if_true, List.getElem?_cons_zero, List.getElem?_cons_succ, List.getD_cons_zero, List.getD_cons_succ, extrF_tup, binF_add, binF_sub, binF_mul, binF_eql, binF_neq, binF_lss, binF_leq, binF_gtr, binF_geq, true_and, Nat.zero_add, l50, hr3, hq2]
  refine ⟨fun L h => L = [.int .i64 (glong W S : Nat)] ∧ h = H4, ?_, ?_⟩
  · refine condA_t (fun hgt => ?_) (fun hle => ?_)
    · have : glong W S = 1 + gw W / 2 := by unfold glong; rw [if_pos (by omega)]
      rw [this, wrap_i64 (by omega) (by omega)]
      exact ⟨by simp, rfl⟩
    · have : glong W S = gw W := by unfold glong; rw [if_neg (by omega)]
      rw [this]
      exact ⟨rfl, rfl⟩
  rintro L h ⟨rfl, rfl⟩
  have hrm : binF Try.prog .rem 3 (.int .i64 (M : Int)) (.int .i64 (most : Int)) = some (.int .i64 ((M % most : Nat) : Int)) := rem_nat (by omega)
  have hmm := Nat.mod_lt M (show most > 0 by omega)
  simp only [letO_some, cellsOf?_agg, cellsOf?_int, cellsOf?_bool, cellsOf?_imm, cellsOf?_ref, cellsOf?_nils, faddr_iptr, faddr_ptr, List.drop_succ_cons, List.drop_zero, List.take_succ_cons, List.take_zero, load1_iptr, loadN_iptr, List.length_cons, List.length_nil, Nat.le_refl, if_true, List.getElem?_cons_zero, List.getElem?_cons_succ, List.getD_cons_zero, List.getD_cons_succ, extrF_tup, binF_add, binF_sub, binF_mul, binF_eql, binF_neq, binF_lss, binF_leq, binF_gtr, binF_geq, true_and, conv53 (show (0 : Int) ≤ M ∧ (M : Int) < 256 by omega), hrm]
  have e2 : (1 : Int) + ((M % most : Nat) : Int) = ((1 + M % most : Nat) : Int) := by omega
  rw [e2, wrap_i64 (by omega) (by omega)]
  generalize hn : 1 + M % most = n at *
  have hsl : slcArr 10 1 (.iptr (l.map fun (x : Nat) => AV.int .u8 (x : Int))) none (some (.int .i64 (n : Int))) none = some (.imm n (n == 10) (u8s (l.take n))) := by
    have e : natOf (some (.int .i64 (n : Int))) 10 = some n := by simp [natOf]
    have e3 : natOf none 0 = some 0 := rfl
    simp only [slcArr, e, e3, Option.bind_some]
    rw [if_pos ⟨by omega, by omega⟩]
    simp [u8s, List.map_take]
  simp only [hsl, letO_some, lenA]
  have hws : ∀ x ∈ madeL W M S l most, 1 ≤ x ∧ x ≤ 40 := fun x hx => by
    have := (chk_ok (chk_made (W := W) (M := M) (S := S) hl hm)).2.2.2.2 x hx
    omega
  let T : AV → List AV := fun X => [.int .i64 (gw W : Nat), X]
  refine ⟨fun L H' => ∃ (i : Nat) (X : AV), L = [.int .i64 i] ∧ i ≤ n ∧ Grow 1 ((H.put b4 [.int .i64 0, .nils]).put b5 (T X)) H' X i (ints (gwords W S (l.take i))), fun L _ => (n - iv L 0).toNat,
    ⟨0, .nils, rfl, by omega, by subst hH4; exact Grow.nils 1 _⟩, ?_⟩
  intro L H' hI
  obtain ⟨i, X, rfl, hi, hg⟩ := hI
  simp only [letO_some, cellsOf?_agg, cellsOf?_int, cellsOf?_bool, cellsOf?_imm, cellsOf?_ref, cellsOf?_nils, faddr_iptr, faddr_ptr, List.drop_succ_cons, List.drop_zero, List.take_succ_cons, List.take_zero, load1_iptr, loadN_iptr, List.length_cons, List.length_nil, Nat.le_refl, if_true, List.getElem?_cons_zero, List.getElem?_cons_succ, List.getD_cons_zero, List.getD_cons_succ, extrF_tup, binF_add, binF_sub, binF_mul, binF_eql, binF_neq, binF_lss, binF_leq, binF_gtr, binF_geq, true_and]
  have hHb : H' b5 = some (T X) := hg.le _ _ Heap.put_same
  refine condA_t (fun hlt => ?_) (fun hge => ?_)
  · have hin : i < n := by omega
    have hil : i < l.length := by omega
    have hx : ((u8s (l.take n)).drop (i * 1))[0]? = some (.int .u8 (l[i] : Nat)) := by
      rw [List.getElem?_drop, Nat.mul_one, Nat.add_zero]
      simp [u8s, hil, hin]
    have hxl : l[i] < 256 := hlx _ (by simp)
    have l1 : load1 (.ptr b5 (0 + 1)) H' = some X := load1_at hHb rfl
    have l0 : load1 (.ptr b5 0) H' = some (.int .i64 (gw W : Nat)) := load1_at hHb rfl
    have hmin : min2F (.int .i64 (glong W S : Nat)) (.int .i64 (gw W : Nat)) = some (.int .i64 (gmin W S : Nat)) := by
      simp only [min2F]
      unfold gmin
      split <;> split <;> first | rfl | omega
    have hrx : binF Try.prog .rem 3 (.int .i64 ((l[i] : Nat) : Int)) (.int .i64 (gmin W S : Nat)) = some (.int .i64 ((l[i] % gmin W S : Nat) : Int)) := rem_nat (by omega)
    simp only [idx_imm hin, letO_some, cellsOf?_agg, cellsOf?_int, cellsOf?_bool, cellsOf?_imm, cellsOf?_ref, cellsOf?_nils, faddr_iptr, faddr_ptr, List.drop_succ_cons, List.drop_zero, List.take_succ_cons, List.take_zero, load1_iptr, loadN_iptr, List.length_cons, List.length_nil, Nat.le_refl, if_true, List.getElem?_cons_zero, List.getElem?_cons_succ, List.getD_cons_zero, List.getD_cons_succ, extrF_tup, binF_add, binF_sub, binF_mul, binF_eql, binF_neq, binF_lss, binF_leq, binF_gtr, binF_geq, true_and, hx, conv53 (show (0 : Int) ≤ (l[i] : Nat) ∧ ((l[i] : Nat) : Int) < 256 by omega), l1, l0, hmin, hrx]
    have hmx := Nat.mod_lt l[i] (show gmin W S > 0 by omega)
    have e3 : (1 : Int) + ((l[i] % gmin W S : Nat) : Int) = ((1 + l[i] % gmin W S : Nat) : Int) := by omega
    rw [e3, wrap_i64 (by omega) (by omega)]
    simp only [l22 cellsOf?_int, letO_some]
    refine appendA_one hg (by omega) fun v' H'' hg' => ?_
    refine storeA_of (cs := [v']) (hg'.le _ _ Heap.put_same) hg'.cells (by simp [hg'.scalar]) rfl (by simp [T]) ?_
    rw [wrap_i64 (by omega) (by omega)]
    refine ⟨⟨i + 1, v', by simp, by omega, ?_⟩, by simp <;> omega⟩
    have e4 : gwords W S (l.take (i + 1)) = gwords W S (l.take i) ++ [((1 + l[i] % gmin W S : Nat) : Int)] := by
      unfold gwords
      rw [List.take_add_one, List.getElem?_eq_getElem hil, List.map_append]
      rfl
    rw [e4]
    have := hg'.put (y := T v') Heap.put_same
    rw [Heap.put_put] at this
    simpa [splice, T] using this
  · have hin : i = n := by omega
    subst hin
    have hL : loadN 2 (.ptr b5 0) H' = some (.agg [.int .i64 (gw W : Nat), X]) := loadN_at hHb
    have hb4H : H' b4 = some [.int .i64 0, .nils] := hg.le _ _ (by rw [Heap.put_ne hne]; exact Heap.put_same)
    simp only [hL, letO_some]
    refine storeA_of (cs := [.int .i64 (gw W : Nat), X]) hb4H rfl (by simp only [List.all_cons, hg.scalar]; rfl) rfl (by simp) ?_
    have e5 : splice [.int .i64 0, .nils] 0 [.int .i64 (gw W : Nat), X] = [.int .i64 (gw W : Nat), X] := rfl
    rw [e5]
    rw [show loadN 2 (.ptr b4 0) (Heap.put H' b4 [.int .i64 (gw W : Nat), X]) = some (.agg [.int .i64 (gw W : Nat), X]) from loadN_at (cells := [.int .i64 (gw W : Nat), X]) Heap.put_same]
    simp only [letO_some]
    have hg1 := hg.put (c := b4) (x := [.int .i64 0, .nils]) (y := [.int .i64 (gw W : Nat), X]) (by rw [Heap.put_ne hne]; exact Heap.put_same)
    obtain ⟨H2, hl2, hg2⟩ := hg1.shrink (H := H) (Heap.le_put (Heap.le_put (Heap.le_put_self hb4) hb5') hb4)
    refine endK_pub (r' := .agg [.int .i64 (gw W : Nat), X]) (Pub.drop hl2) ?_
    refine hg2.endG (f := fun v => .agg [.int .i64 (gw W : Nat), v]) (fun b => ⟨fun e => by subst e; rfl, fun e => by subst e; rfl, fun e => by subst e; have := Grow.frz hg2.1 b; simp only [lift, List.map, this]; rfl⟩) ?_
    have hlen := made_len (W := W) (M := M) (S := S) hl hm
    rw [sl, hlen, hn] at hk
    rw [madeL, hn] at hk
    exact hk
theorem shr_ex {t : TypeId} {k k' : IntKind} {a b : Int} (hb : 0 ≤ b) : ∃ y, binF Try.prog .shr t (.int k a) (.int k' b) = some (.int k y) := by
  simp only [binF]
  rw [if_neg (by omega)]
  exact ⟨_, rfl⟩
theorem and_ex {t : TypeId} {k : IntKind} {a b : Int} : ∃ y, binF Try.prog .and t (.int k a) (.int k b) = some (.int k y) := by
  simp only [binF, if_true]
  exact ⟨_, rfl⟩
theorem slc_pre {H : Heap} {v : AV} {l : List Int} {k : Nat} (h : Reads H v l) (hk : k ≤ l.length) : ∃ v', slc 1 v none (some (.int .i64 (k : Int))) none = some v' ∧ Reads H v' (l.take k) := by
  have n1 : ∀ d, natOf none d = some d := fun d => rfl
  have n2 : ∀ d, natOf (some (.int .i64 (k : Int))) d = some k := fun d => by simp [natOf]
  cases v <;> simp only [Reads] at h <;> try exact h.elim
  · subst h
    have : k = 0 := by simpa using hk
    subst this
    simp only [slc, n1, n2, Option.bind_some]
    exact ⟨_, rfl, rfl⟩
  · obtain ⟨rfl, rfl⟩ := h
    simp only [slc, n1, n2, Option.bind_some]
    rw [if_pos ⟨by omega, hk⟩]
    refine ⟨_, rfl, by simp; omega, ?_⟩
    rw [Nat.mul_one, Nat.zero_mul, List.drop_zero, Nat.sub_zero, ints_take]
  · rename_i s b off n cp
    obtain ⟨rfl, rfl, cells, hb, hc, ht⟩ := h
    simp only [slc, n1, n2, Option.bind_some]
    rw [if_pos ⟨by trivial, by omega, hk, by simp⟩]
    refine ⟨_, rfl, rfl, by simp; omega, cells, hb, by omega, ?_⟩
    rw [Nat.zero_mul, Nat.add_zero, Nat.sub_zero, ← ints_take, ← ht, List.take_take, Nat.min_eq_left hk]

theorem any_succ (F : List Nat) (i : Nat) (g : Nat × Nat → Bool) : (spansN F (i + 1)).any g = ((spansN F i).any g || g (stN F i, F.getD i 0)) := by
  rw [spansN_succ, List.any_append]
  simp [spanN]

@[simp] theorem iv_three {k : IntKind} {n : Int} {x y z : AV} {L : List AV} : iv (x :: y :: z :: .int k n :: L) 3 = n := rfl
theorem wantE_bd {w : Int} {ws : List Int} (hc : chk w ws = 0) (E : List Nat) (m : Nat) : ∀ i, 0 ≤ wantE w ws E m i ∧ wantE w ws E m i ≤ 40000000000 * i
  | 0 => by simp [wantE]
  | i + 1 => by
    have := wantE_bd hc E m i
    have := sqf_bnd hc (stN E i) (E.getD i 0)
    rw [wantE]
    split <;> omega
theorem leftL_get {w : Int} {ws : List Int} {E : List Nat} {n k : Nat} (h : k < n) : (leftL w ws E n).getD k 0 = lf w ws (stN E k) (E.getD k 0) := by
  rw [List.getD_eq_getElem?_getD]
  simp only [leftL, List.getElem?_map]
  rw [List.getElem?_range h]
  rfl
theorem sum_take_succ {ws : List Int} {k : Nat} (h : k < ws.length) : (ws.take (k + 1)).sum = (ws.take k).sum + ws.getD k 0 := by
  rw [List.take_add_one, List.sum_append, List.getD_eq_getElem?_getD, List.getElem?_eq_getElem h]
  simp

end Go.Proofs.Ytlajhbpkogekfaa

namespace Go.Proofs.Ytlajhbpkogekfaa
open Go.Av Line
set_option linter.unusedVariables false
set_option linter.unusedSimpArgs false
set_option maxRecDepth 4000

/-- broken: which ends -/
theorem c39e {w : Int} {v : AV} {ws : List Int} {st : List Nat} {H : Heap} {K : AV → Heap → Prop} (hv : Reads H v ws) (hc : chk w ws = 0) (hst : st.length = 10) (hsx : ∀ x ∈ st, x < 256)
    (hk : endedE w ws (up (brk w ws st ws.length 0)) = 0 → K (sl (up (brk w ws st ws.length 0))) H) : ACalls Try.prog 39 [.agg [.int .i64 w, v], .agg (u8s st)] H K := by
  apply W39_ok
  unfold W39
  obtain ⟨w1, w2, n1, n2, hws⟩ := chk_ok hc
  simp only [letO_some, cellsOf?_agg, cellsOf?_int, cellsOf?_bool, cellsOf?_imm, cellsOf?_ref, cellsOf?_nils, faddr_iptr, faddr_ptr, List.drop_succ_cons, List.drop_zero, List.take_succ_cons, List.take_zero, load1_iptr, loadN_iptr, List.length_cons, List.length_nil, Nat.le_refl, if_true, List.getElem?_cons_zero, List.getElem?_cons_succ, List.getD_cons_zero, List.getD_cons_succ, extrF_tup, binF_add, binF_sub, binF_mul, binF_eql, binF_neq, binF_lss, binF_leq, binF_gtr, binF_geq, true_and]
  refine ⟨fun L H' => ∃ (E : List Nat) (X : AV), L = [X, .int .i64 (E.getLastD 0 : Nat)] ∧ Grow 1 H H' X E.length (ints (up E)) ∧ asc ws.length 0 (up E) ∧ E.length ≤ E.getLastD 0 ∧ E.getLastD 0 ≤ ws.length ∧ over w ws E = false ∧ ∃ f, ws.length ≤ f + E.getLastD 0 ∧ E ++ brk w ws st f (E.getLastD 0) = brk w ws st ws.length 0, fun L _ => (ws.length - iv L 1).toNat,
    ⟨[], .nils, rfl, Grow.nils 1 H, trivial, by simp, by simp, rfl, ws.length, by simp, rfl⟩, ?_⟩
  intro L H' hI
  obtain ⟨E, X, rfl, hg, ha, hlen, hle, ho, f, hf, hbr⟩ := hI
  have hv' := hv.le hg.le
  simp only [letO_some, cellsOf?_agg, cellsOf?_int, cellsOf?_bool, cellsOf?_imm, cellsOf?_ref, cellsOf?_nils, faddr_iptr, faddr_ptr, List.drop_succ_cons, List.drop_zero, List.take_succ_cons, List.take_zero, load1_iptr, loadN_iptr, List.length_cons, List.length_nil, Nat.le_refl, if_true, List.getElem?_cons_zero, List.getElem?_cons_succ, List.getD_cons_zero, List.getD_cons_succ, extrF_tup, binF_add, binF_sub, binF_mul, binF_eql, binF_neq, binF_lss, binF_leq, binF_gtr, binF_geq, true_and, hv.len]
  generalize hfr : E.getLastD 0 = fr at *
  refine condA_t (fun hlt => ?_) (fun hge => ?_)
  · have hlt : fr < ws.length := by omega
    rw [wrap_i64 (by omega) (by omega)]
    obtain ⟨f, rfl⟩ : ∃ g, f = g + 1 := ⟨f - 1, by omega⟩
    rw [brk, if_pos hlt] at hbr
    generalize hT : brT w ws st fr ws.length (fr + 1) = T at *
    refine ⟨fun L H'' => ∃ to : Nat, L = [.int .i64 to] ∧ fr < to ∧ to ≤ ws.length ∧ 0 ≤ lf w ws fr to ∧ H'' = H' ∧ ∃ g, ws.length ≤ g + to ∧ brT w ws st fr g to = T, fun L _ => (ws.length - iv L 0).toNat, ⟨fr + 1, by simp, by omega, by omega, lf_one hc hlt, rfl, ws.length, by omega, hT⟩, ?_⟩
    intro L H'' hJ
    obtain ⟨to, rfl, h1, h2, h3, rfl, g, hgf, hgT⟩ := hJ
    simp only [letO_some, cellsOf?_agg, cellsOf?_int, cellsOf?_bool, cellsOf?_imm, cellsOf?_ref, cellsOf?_nils, faddr_iptr, faddr_ptr, List.drop_succ_cons, List.drop_zero, List.take_succ_cons, List.take_zero, load1_iptr, loadN_iptr, List.length_cons, List.length_nil, Nat.le_refl, if_true, List.getElem?_cons_zero, List.getElem?_cons_succ, List.getD_cons_zero, List.getD_cons_succ, extrF_tup, binF_add, binF_sub, binF_mul, binF_eql, binF_neq, binF_lss, binF_leq, binF_gtr, binF_geq, true_and]
    -- the line ends here
    have stop : T = to → appendA 1 8 X (.imm 1 true [.int .i64 to]) (fun t40 H15 => (∃ (E' : List Nat) (X' : AV), [t40, .int .i64 to] = [X', .int .i64 (E'.getLastD 0 : Nat)] ∧ Grow 1 H H15 X' E'.length (ints (up E')) ∧ asc ws.length 0 (up E') ∧ E'.length ≤ E'.getLastD 0 ∧ E'.getLastD 0 ≤ ws.length ∧ over w ws E' = false ∧ ∃ f, ws.length ≤ f + E'.getLastD 0 ∧ E' ++ brk w ws st f (E'.getLastD 0) = brk w ws st ws.length 0) ∧
        (ws.length - iv [t40, .int .i64 to] 1).toNat < (ws.length - iv [X, .int .i64 fr] 1).toNat) H'' := by
      intro hTo
      refine appendA_one hg (by omega) fun v' H7 hg7 => ⟨⟨E ++ [to], v', by simp, ?_, ?_, by simp; omega, by simp; omega, ?_, f, by simp; omega, by rw [← hbr, hTo]; simp⟩, by simp; omega⟩
      · rw [up_snoc]; simpa using hg7
      · rw [up_snoc]
        exact asc_snoc ha (by rw [up_lastD]; omega) (by omega) (by omega)
      · rw [over_snoc, ho, hfr]; simpa using h3
    by_cases ht : to < ws.length
    · have e1 : decide ((to : Int) < (ws.length : Int)) = true := by simp; omega
      have hto1 : IntKind.i64.wrap ((to : Int) + 1) = ((to + 1 : Nat) : Int) := by rw [wrap_i64 (by omega) (by omega)]; simp
      simp only [e1, gval_bool, if_true, letO_some, hto1, binF_add]
      refine exJc ?_
      refine c43 hv' hc (show fr < to + 1 by omega) (by omega) ?_
      simp only [letO_some, cellsOf?_agg, cellsOf?_int, cellsOf?_bool, cellsOf?_imm, cellsOf?_ref, cellsOf?_nils, faddr_iptr, faddr_ptr, List.drop_succ_cons, List.drop_zero, List.take_succ_cons, List.take_zero, load1_iptr, loadN_iptr, List.length_cons, List.length_nil, Nat.le_refl, if_true, List.getElem?_cons_zero, List.getElem?_cons_succ, List.getD_cons_zero, List.getD_cons_succ, extrF_tup, binF_add, binF_sub, binF_mul, binF_eql, binF_neq, binF_lss, binF_leq, binF_gtr, binF_geq, true_and, pickF_true]
      have hx : st[to]? = some (st[to]'(by omega)) := by simp [show to < st.length by omega]
      have hxb : st[to]'(by omega) < 256 := hsx _ (by simp)
      by_cases hn : 0 ≤ lf w ws fr (to + 1)
      · have hia : idxArr 10 1 (.iptr (u8s st)) (.int .i64 (to : Int)) = some (.iptr ((u8s st).drop to)) := by
          simp [idxArr]; omega
        have hla : ((u8s st).drop to)[0]? = some (.int .u8 ((st[to]'(by omega) : Nat) : Int)) := by
          rw [List.getElem?_drop, Nat.add_zero]; simp [u8s, hx]
        have hr4 : binF Try.prog .rem 5 (.int .u8 ((st[to]'(by omega) : Nat) : Int)) (.int .u8 4) = some (.int .u8 ((st[to]'(by omega) % 4 : Nat) : Int)) := rem_nat (b := 4) (by decide)
        simp only [hn, decide_true, gval_bool, if_true, letO_some, hia, load1_iptr, hla, hr4, binF_gtr, pickF_true]
        refine condA_t (fun hgt => ?_) (fun hle4 => ?_)
        · refine ⟨⟨to + 1, rfl, by omega, by omega, hn, g - 1, by omega, ?_⟩, by simp; omega⟩
          obtain ⟨g, rfl⟩ : ∃ k, g = k + 1 := ⟨g - 1, by omega⟩
          rw [brT, if_pos ⟨ht, hn, by rw [List.getD_eq_getElem?_getD, hx]; simp only [Option.getD_some]; omega⟩] at hgT
          exact hgT
        · simp only [l22 cellsOf?_int, letO_some]
          refine stop ?_
          rw [← hgT, brT_stop]
          rintro ⟨_, _, hb⟩
          rw [List.getD_eq_getElem?_getD, hx] at hb
          simp only [Option.getD_some] at hb
          omega
      · simp only [hn, decide_false, gval_bool, Bool.false_eq_true, if_false, letO_some, pickF_false]
        simp only [condA_bool, condG_bool]
        refine ⟨fun h => by simp at h, fun _ => ?_⟩
        simp only [l22 cellsOf?_int, letO_some]
        refine stop ?_
        rw [← hgT, brT_stop]
        rintro ⟨_, hb, _⟩
        omega
    · have e1 : decide ((to : Int) < (ws.length : Int)) = false := by simp; omega
      simp only [e1, gval_bool, Bool.false_eq_true, if_false, letO_some]
      refine ⟨fun r h => r = .tup [] ∧ h = H'', ?_, ?_⟩
      · simp only [condA_bool, condG_bool]
        exact ⟨fun h => by simp at h, fun _ => by simp⟩
      rintro t25 H13 ⟨rfl, rfl⟩
      simp only [pickF_false, gval_bool, Bool.false_eq_true, if_false, letO_some, condA_bool, condG_bool]
      refine ⟨fun h => by simp at h, fun _ => ?_⟩
      simp only [l22 cellsOf?_int, letO_some]
      refine stop ?_
      rw [← hgT, brT_stop]
      rintro ⟨hb, _⟩
      omega
  · have : fr = ws.length := by omega
    have he := ended_mk hc ha (by rw [hfr]; exact this) ho
    rw [this, brk_done, List.append_nil] at hbr
    subst hbr
    have := hk he
    refine hg.end1 ?_
    simpa [sl] using this
end Go.Proofs.Ytlajhbpkogekfaa

namespace Go.Proofs.Ytlajhbpkogekfaa
open Go.Av Line
set_option linter.unusedVariables false
set_option linter.unusedSimpArgs false
set_option maxRecDepth 4000

def eqt {α : Type} (a b : α) : Prop := a = b
theorem frz_sl {b n : Nat} {l : List Int} (hn : n = l.length) : frz1 b (ints l) (.ref 1 b 0 n none) = sl l := by
  subst hn
  have h : (0 : Nat) + l.length * 1 ≤ (ints l).length := by simp
  show (if b = b ∧ 0 + l.length * 1 ≤ (ints l).length then AV.imm l.length false (((ints l).drop 0).take (l.length * 1)) else .ref 1 b 0 l.length none) = sl l
  rw [if_pos ⟨rfl, h⟩, List.drop_zero, List.take_of_length_le (by simp)]
  rfl
/-- each$1: the ends that begin so, in order, are handed to a function -/
theorem c80v {w : Int} {v : AV} {ws : List Int} {g : FuncId} {caps : List AV} {b4 : Nat} (hc : chk w ws = 0) (Inv : List (List Nat) → Heap → Prop) (hrd : ∀ done H, Inv done H → Reads H v ws)
    (hput : ∀ done H, Inv done H → H b4 = some [.fn 80 [.iptr [.int .i64 w, v], .iptr [.fn g caps], .ptr b4 0]])
    (hvis : ∀ done H F, okEnds w ws F → Inv done H → ∀ K : AV → Heap → Prop, (∀ r H', Inv (done ++ [F]) H' → K r H') → ACalls Try.prog g ([sl (up F), sl (leftL w ws F F.length)] ++ caps) H K) :
    ∀ (f fr : Nat) (E : List Nat) (done : List (List Nat)) (H : Heap) (K : AV → Heap → Prop), prt w ws E → E.getLastD 0 = fr → fr ≤ ws.length → ws.length - fr ≤ f → E.length ≤ fr → Inv done H → (∀ H', Inv (done ++ (ext w ws f fr).map (fun G => E ++ G)) H' → K (.tup []) H') →
      ACalls Try.prog 80 [sl (up E), sl (leftL w ws E E.length), .int .i64 fr, .iptr [.int .i64 w, v], .iptr [.fn g caps], .ptr b4 0] H K := by
  obtain ⟨w1, w2, n1, n2, hws⟩ := chk_ok hc
  intro f
  induction f with
  | zero =>
    intro fr E done H K hp he hn hf hel hI hk
    apply W80_ok
    unfold W80
    have hvl := (hrd done H hI).len
    have hfr : fr = ws.length := by omega
    have e1 : ((fr : Int) == (ws.length : Int)) = true := by rw [hfr]; exact beq_self_eq_true _
    simp only [letO_some, cellsOf?_agg, cellsOf?_int, cellsOf?_bool, cellsOf?_imm, cellsOf?_ref, cellsOf?_nils, faddr_iptr, faddr_ptr, List.drop_succ_cons, List.drop_zero, List.take_succ_cons, List.take_zero, load1_iptr, loadN_iptr, List.length_cons, List.length_nil, Nat.le_refl, if_true, List.getElem?_cons_zero, List.getElem?_cons_succ, List.getD_cons_zero, List.getD_cons_succ, extrF_tup, binF_add, binF_sub, binF_mul, binF_eql, binF_neq, binF_lss, binF_leq, binF_gtr, binF_geq, true_and, hvl, e1, condA_tt, callA_fn]
    refine hvis done H E ⟨hp.1, by omega, hp.2⟩ hI _ fun r H' hI' => ?_
    refine endK_ret (hk _ ?_)
    rw [ext, if_pos hfr]
    simpa using hI'
  | succ f ih =>
    intro fr E done H K hp he hn hf hel hI hk
    apply W80_ok
    unfold W80
    have hvl : ∀ _ : Heap, lenA v = some (.int .i64 ws.length) := fun _ => (hrd done H hI).len
    by_cases hfr : fr = ws.length
    · have e1 : ((fr : Int) == (ws.length : Int)) = true := by rw [hfr]; exact beq_self_eq_true _
      simp only [letO_some, cellsOf?_agg, cellsOf?_int, cellsOf?_bool, cellsOf?_imm, cellsOf?_ref, cellsOf?_nils, faddr_iptr, faddr_ptr, List.drop_succ_cons, List.drop_zero, List.take_succ_cons, List.take_zero, load1_iptr, loadN_iptr, List.length_cons, List.length_nil, Nat.le_refl, if_true, List.getElem?_cons_zero, List.getElem?_cons_succ, List.getD_cons_zero, List.getD_cons_succ, extrF_tup, binF_add, binF_sub, binF_mul, binF_eql, binF_neq, binF_lss, binF_leq, binF_gtr, binF_geq, true_and, hvl H, e1, condA_tt, callA_fn]
      refine hvis done H E ⟨hp.1, by omega, hp.2⟩ hI _ fun r H' hI' => ?_
      refine endK_ret (hk _ ?_)
      rw [ext, if_pos hfr]
      simpa using hI'
    · have e1 : ((fr : Int) == (ws.length : Int)) = false := by simp; omega
      have hEl : lenA (sl (up E)) = some (.int .i64 E.length) := by have := (Reads.sl H (up E)).len; simpa using this
      simp only [letO_some, cellsOf?_agg, cellsOf?_int, cellsOf?_bool, cellsOf?_imm, cellsOf?_ref, cellsOf?_nils, faddr_iptr, faddr_ptr, List.drop_succ_cons, List.drop_zero, List.take_succ_cons, List.take_zero, load1_iptr, loadN_iptr, List.length_cons, List.length_nil, Nat.le_refl, if_true, List.getElem?_cons_zero, List.getElem?_cons_succ, List.getD_cons_zero, List.getD_cons_succ, extrF_tup, binF_add, binF_sub, binF_mul, binF_eql, binF_neq, binF_lss, binF_leq, binF_gtr, binF_geq, true_and, hvl H, hEl, e1, condA_ff]
      rw [wrap_i64 (by omega) (by omega)]
      rw [ext_succ hfr] at hk
      refine ⟨fun L H' => ∃ m : Nat, eqt L [.int .i64 ((fr + 1 + m : Nat) : Int)] ∧ fr + 1 + m ≤ ws.length + 1 ∧ Inv (done ++ (extTo w ws f fr m).map (fun G => E ++ G)) H', fun L _ => (ws.length + 1 - iv L 0).toNat, ⟨0, by unfold eqt; congr 2, by omega, by simpa [extTo] using hI⟩, ?_⟩
      intro L H' hJ
      obtain ⟨m, rfl, hm, hI'⟩ := hJ
      simp only [letO_some, cellsOf?_agg, cellsOf?_int, cellsOf?_bool, cellsOf?_imm, cellsOf?_ref, cellsOf?_nils, faddr_iptr, faddr_ptr, List.drop_succ_cons, List.drop_zero, List.take_succ_cons, List.take_zero, load1_iptr, loadN_iptr, List.length_cons, List.length_nil, Nat.le_refl, if_true, List.getElem?_cons_zero, List.getElem?_cons_succ, List.getD_cons_zero, List.getD_cons_succ, extrF_tup, binF_add, binF_sub, binF_mul, binF_eql, binF_neq, binF_lss, binF_leq, binF_gtr, binF_geq, true_and, hvl H']
      refine condA_t (fun hle => ?_) (fun hgt => ?_)
      · generalize hj : fr + 1 + m = j at *
        have hjn : j ≤ ws.length := by omega
        refine ⟨fun _ H'' => Inv (done ++ (extTo w ws f fr (m + 1)).map (fun G => E ++ G)) H'', ?_, ?_⟩
        · refine c43 (hrd _ _ hI') hc (show fr < j by omega) hjn ?_
          simp only [letO_some, cellsOf?_agg, cellsOf?_int, cellsOf?_bool, cellsOf?_imm, cellsOf?_ref, cellsOf?_nils, faddr_iptr, faddr_ptr, List.drop_succ_cons, List.drop_zero, List.take_succ_cons, List.take_zero, load1_iptr, loadN_iptr, List.length_cons, List.length_nil, Nat.le_refl, if_true, List.getElem?_cons_zero, List.getElem?_cons_succ, List.getD_cons_zero, List.getD_cons_succ, extrF_tup, binF_add, binF_sub, binF_mul, binF_eql, binF_neq, binF_lss, binF_leq, binF_gtr, binF_geq, true_and]
          refine condA_t (fun hnn => ?_) (fun hneg => ?_)
          · have hb4 := hput _ _ hI'
            have lp : load1 (.ptr b4 0) H' = some (.fn 80 [.iptr [.int .i64 w, v], .iptr [.fn g caps], .ptr b4 0]) := load1_at hb4 rfl
            have hs : ∀ l : List Int, l.length = E.length → slc 1 (sl l) none (some (.int .i64 (E.length : Int))) (some (.int .i64 (E.length : Int))) = some (.imm E.length true (ints l)) := by
              intro l hl
              have e : ∀ d, natOf (some (.int .i64 (E.length : Int))) d = some E.length := fun d => by simp [natOf]
              have e2 : natOf none 0 = some 0 := rfl
              simp only [slc, sl, e, e2, Option.bind_some, hl]
              rw [if_pos ⟨by omega, by omega, by omega⟩]
              simp
              rw [List.take_of_length_le (by simp [hl])]
            simp only [lp, hs (up E) (by simp), hs (leftL w ws E E.length) (by simp), letO_some, l22 cellsOf?_int]
            refine ⟨rfl, ?_⟩
            refine appendA_oneR (H0 := H') (Grow.imm (by simp)) (by omega) fun A H10 gA oA => ⟨rfl, ?_⟩
            refine appendA_oneR (H0 := H10) (Grow.imm (by simp)) (by omega) fun B H11 gB oB => ?_
            obtain ⟨b10, hb10, rfl, rfl⟩ := gA.own oA
            obtain ⟨b11, hb11, rfl, rfl⟩ := gB.own oB
            have hne : b10 ≠ b11 := Heap.ne_of Heap.put_same hb11
            simp only [callA_fn, List.cons_append, List.nil_append]
            have hp1 : (up E ++ [(j : Int)]) = up (E ++ [j]) := by simp [up]
            have hp2 : leftL w ws E E.length ++ [lf w ws fr j] = leftL w ws (E ++ [j]) (E ++ [j]).length := by
              rw [List.length_append, List.length_singleton, leftL_snoc, he]
            rw [hp1] at hb11
            rw [hp1, hp2]
            let rest : List AV := [.int .i64 j, .iptr [.int .i64 w, v], .iptr [.fn g caps], .ptr b4 0]
            have q1 : Pub (.tup (.ref 1 b10 0 (E.length + 1) none :: .ref 1 b11 0 (E.length + 1) none :: rest)) ((H'.put b10 (ints (up (E ++ [j])))).put b11 (ints (leftL w ws (E ++ [j]) (E ++ [j]).length))) (.tup (.ref 1 b10 0 (E.length + 1) none :: sl (leftL w ws (E ++ [j]) (E ++ [j]).length) :: rest)) (H'.put b10 (ints (up (E ++ [j])))) := by
              have := Pub.freeze (r := .tup (.ref 1 b10 0 (E.length + 1) none :: .ref 1 b11 0 (E.length + 1) none :: rest)) (H := (H'.put b10 (ints (up (E ++ [j])))).put b11 (ints (leftL w ws (E ++ [j]) (E ++ [j]).length))) (b := b11) (cells := ints (leftL w ws (E ++ [j]) (E ++ [j]).length)) Heap.put_same
              have f1 : frz1 b11 (ints (leftL w ws (E ++ [j]) (E ++ [j]).length)) (.ref 1 b10 0 (E.length + 1) none) = .ref 1 b10 0 (E.length + 1) none := by simp [frz1, hne]
              have f2 : frz1 b11 (ints (leftL w ws (E ++ [j]) (E ++ [j]).length)) (.ref 1 b11 0 (E.length + 1) none) = sl (leftL w ws (E ++ [j]) (E ++ [j]).length) := frz_sl (by simp)
              have f3 : lift (lift (frz1 b11 (ints (leftL w ws (E ++ [j]) (E ++ [j]).length)))) (.tup (.ref 1 b10 0 (E.length + 1) none :: .ref 1 b11 0 (E.length + 1) none :: rest)) = .tup (.ref 1 b10 0 (E.length + 1) none :: sl (leftL w ws (E ++ [j]) (E ++ [j]).length) :: rest) := by
                simp only [lift, List.map, f1, f2, rest]
                rfl
              rwa [f3, Heap.put_del hb11] at this
            have q2 : Pub (.tup (.ref 1 b10 0 (E.length + 1) none :: sl (leftL w ws (E ++ [j]) (E ++ [j]).length) :: rest)) (H'.put b10 (ints (up (E ++ [j])))) (.tup (sl (up (E ++ [j])) :: sl (leftL w ws (E ++ [j]) (E ++ [j]).length) :: rest)) H' := by
              have := Pub.freeze (r := .tup (.ref 1 b10 0 (E.length + 1) none :: sl (leftL w ws (E ++ [j]) (E ++ [j]).length) :: rest)) (H := H'.put b10 (ints (up (E ++ [j])))) (b := b10) (cells := ints (up (E ++ [j]))) Heap.put_same
              have f2 : frz1 b10 (ints (up (E ++ [j]))) (.ref 1 b10 0 (E.length + 1) none) = sl (up (E ++ [j])) := frz_sl (by simp)
              have f3 : lift (lift (frz1 b10 (ints (up (E ++ [j]))))) (.tup (.ref 1 b10 0 (E.length + 1) none :: sl (leftL w ws (E ++ [j]) (E ++ [j]).length) :: rest)) = .tup (sl (up (E ++ [j])) :: sl (leftL w ws (E ++ [j]) (E ++ [j]).length) :: rest) := by
                simp only [lift, List.map, f2, rest]
                rfl
              rwa [f3, Heap.put_del hb10] at this
            refine ACalls.pubArgs (q1.trans q2) ?_
            refine ih j (E ++ [j]) _ H' _ (part_snoc hp (by omega) hjn (by rw [he]; exact hnn)) (lastD_snoc _ _) hjn (by omega) (by simp; omega) hI' fun H12 hI12 => ?_
            have hx := extTo_succ w ws f fr m
            rw [hj, if_neg (by omega)] at hx
            rw [hx, List.map_append, ← List.append_assoc, List.map_map]
            have : ((fun G => E ++ G) ∘ fun G => j :: G) = fun G => E ++ [j] ++ G := by funext G; simp
            rw [this]
            exact hI12
          · have hx := extTo_succ w ws f fr m
            rw [hj, if_pos (by omega), List.append_nil] at hx
            rw [hx]
            exact hI'
        · intro L H'' hI''
          try simp only [letO_some, cellsOf?_agg, cellsOf?_int, cellsOf?_bool, cellsOf?_imm, cellsOf?_ref, cellsOf?_nils, faddr_iptr, faddr_ptr, List.drop_succ_cons, List.drop_zero, List.take_succ_cons, List.take_zero, load1_iptr, loadN_iptr, List.length_cons, List.length_nil, Nat.le_refl, if_true, List.getElem?_cons_zero, List.getElem?_cons_succ, List.getD_cons_zero, List.getD_cons_succ, extrF_tup, binF_add, binF_sub, binF_mul, binF_eql, binF_neq, binF_lss, binF_leq, binF_gtr, binF_geq, true_and]
          rw [wrap_i64 (by omega) (by omega)]
          exact ⟨⟨m + 1, by unfold eqt; congr 2; omega, by omega, hI''⟩, by simp <;> omega⟩
      · have hm' : m = ws.length - fr := by omega
        subst hm'
        exact endK_ret (hk _ hI')

/-- each -/
theorem c37v {w : Int} {v : AV} {ws : List Int} {g : FuncId} {caps : List AV} {H : Heap} {K : AV → Heap → Prop} (hc : chk w ws = 0) (Inv : Nat → List (List Nat) → Heap → Prop) (hrd : ∀ b done H, Inv b done H → Reads H v ws)
    (h0 : ∀ b, H b = none → Inv b [] (H.put b [.fn 80 [.iptr [.int .i64 w, v], .iptr [.fn g caps], .ptr b 0]]))
    (hput : ∀ b done H, Inv b done H → H b = some [.fn 80 [.iptr [.int .i64 w, v], .iptr [.fn g caps], .ptr b 0]])
    (hvis : ∀ b done H F, okEnds w ws F → Inv b done H → ∀ K : AV → Heap → Prop, (∀ r H', Inv b (done ++ [F]) H' → K r H') → ACalls Try.prog g ([sl (up F), sl (leftL w ws F F.length)] ++ caps) H K)
    (hk : ∀ b H', H b = none → Inv b (ext w ws ws.length 0) H' → K (.tup []) H') : ACalls Try.prog 37 [.agg [.int .i64 w, v], .fn g caps] H K := by
  apply W37_ok
  unfold W37
  simp only [letO_some, cellsOf?_agg, cellsOf?_int, cellsOf?_bool, cellsOf?_imm, cellsOf?_ref, cellsOf?_nils, faddr_iptr, faddr_ptr, List.drop_succ_cons, List.drop_zero, List.take_succ_cons, List.take_zero, load1_iptr, loadN_iptr, List.length_cons, List.length_nil, Nat.le_refl, if_true, List.getElem?_cons_zero, List.getElem?_cons_succ, List.getD_cons_zero, List.getD_cons_succ, extrF_tup, binF_add, binF_sub, binF_mul, binF_eql, binF_neq, binF_lss, binF_leq, binF_gtr, binF_geq, true_and, cellsOf?_fn]
  obtain ⟨w1, w2, n1, n2, hws⟩ := chk_ok hc
  intro b hb
  refine storeA_of (cs := [.fn 80 [.iptr [.int .i64 w, v], .iptr [.fn g caps], .ptr b 0]]) Heap.put_same rfl rfl rfl (by simp) ?_
  rw [Heap.put_put]
  have hsp : splice [AV.nilf] 0 [.fn 80 [.iptr [.int .i64 w, v], .iptr [.fn g caps], .ptr b 0]] = [.fn 80 [.iptr [.int .i64 w, v], .iptr [.fn g caps], .ptr b 0]] := rfl
  rw [hsp]
  rw [show load1 (.ptr b 0) (H.put b [.fn 80 [.iptr [.int .i64 w, v], .iptr [.fn g caps], .ptr b 0]]) = some (.fn 80 [.iptr [.int .i64 w, v], .iptr [.fn g caps], .ptr b 0]) from load1_at Heap.put_same rfl]
  simp only [letO_some, callA_fn, List.cons_append, List.nil_append]
  have hw : Pub (.tup [.nils, .nils, .int .i64 0, .iptr [.int .i64 w, v], .iptr [.fn g caps], .ptr b 0]) (H.put b [.fn 80 [.iptr [.int .i64 w, v], .iptr [.fn g caps], .ptr b 0]]) (.tup [sl (up []), sl (leftL w ws [] ([] : List Nat).length), .int .i64 (0 : Nat), .iptr [.int .i64 w, v], .iptr [.fn g caps], .ptr b 0]) (H.put b [.fn 80 [.iptr [.int .i64 w, v], .iptr [.fn g caps], .ptr b 0]]) := Pub.weak
  refine ACalls.pubArgs hw ?_
  refine c80v hc (Inv b) (hrd b) (hput b) (hvis b) ws.length 0 [] [] _ _ (part_nil w ws) rfl (by omega) (by omega) (by simp) (h0 b hb) fun H' hI => ?_
  refine endK_ret (hk b H' hb ?_)
  simpa using hI
end Go.Proofs.Ytlajhbpkogekfaa

namespace Go.Proofs.Ytlajhbpkogekfaa
open Go.Av Line
set_option linter.unusedVariables false
set_option linter.unusedSimpArgs false

theorem max2 {x y : Int} : max2F (.int .i64 x) (.int .i64 y) = some (.int .i64 (if y > x then y else x)) := rfl
/-- the visitor of LineGrown -/
theorem c41 {F E M : List Nat} {R : AV} {b10 b19 b17 bm : Nat} {fnd : Bool} {H : Heap} {K : AV → Heap → Prop} (h10 : H b10 = some [sl (up E)]) (h19 : H b19 = some [.bool fnd]) (h17 : H b17 = some [.ref 1 bm 0 E.length none]) (hm : H bm = some (ints (up M)))
    (hM : M.length = E.length) (hF : F.length < 1000) (hE : E.length < 1000) (hno : ¬ nbeh E F → K (.tup []) H)
    (hyes : nbeh E F → ∀ H', (∀ x, x ≠ b19 → x ≠ bm → H' x = H x) → H' b19 = some [.bool true] → H' bm = some (ints (up (mxk M F E.length))) → K (.tup []) H') :
    ACalls Try.prog 41 [sl (up F), R, .ptr b10 0, .ptr b19 0, .ptr b17 0] H K := by
  apply W41_ok
  unfold W41
  have n1 : b19 ≠ bm := by
    rintro rfl
    rw [h19] at hm
    simp only [ints, Option.some.injEq] at hm
    cases hM2 : up M with
    | nil => rw [hM2] at hm; cases hm
    | cons a l => rw [hM2] at hm; cases hm
  have n2 : b17 ≠ bm := by
    rintro rfl
    rw [h17] at hm
    simp only [ints, Option.some.injEq] at hm
    cases hM2 : up M with
    | nil => rw [hM2] at hm; cases hm
    | cons a l => rw [hM2] at hm; cases hm
  have n3 : b17 ≠ b19 := by
    rintro rfl
    rw [h17] at h19
    cases h19
  have u1 : ∀ F : List Nat, (up F).length = F.length := fun F => by simp [up]
  have q1 : ∀ (l : List Int), lenA (sl l) = some (.int .i64 l.length) := fun l => (Reads.sl H l).len
  have l10 : load1 (.ptr b10 0) H = some (sl (up E)) := load1_at h10 rfl
  simp only [letO_some, cellsOf?_agg, cellsOf?_int, cellsOf?_bool, cellsOf?_imm, cellsOf?_ref, cellsOf?_nils, faddr_iptr, faddr_ptr, List.drop_succ_cons, List.drop_zero, List.take_succ_cons, List.take_zero, load1_iptr, loadN_iptr, List.length_cons, List.length_nil, Nat.le_refl, if_true, List.getElem?_cons_zero, List.getElem?_cons_succ, List.getD_cons_zero, List.getD_cons_succ, extrF_tup, binF_add, binF_sub, binF_mul, binF_eql, binF_neq, binF_lss, binF_leq, binF_gtr, binF_geq, true_and, q1, u1]
  refine ⟨fun L H' => ∃ v : Nat, L = [.int .i64 v] ∧ v ≤ F.length ∧ (∀ u, u < v → u < E.length → F.getD u 0 ≤ E.getD u 0) ∧ H' = H, fun L _ => (F.length - iv L 0).toNat, ⟨0, rfl, by omega, fun u hu => by omega, rfl⟩, ?_⟩
  intro L H' hI
  obtain ⟨v, rfl, hv, hle, rfl⟩ := hI
  simp only [letO_some, cellsOf?_agg, cellsOf?_int, cellsOf?_bool, cellsOf?_imm, cellsOf?_ref, cellsOf?_nils, faddr_iptr, faddr_ptr, List.drop_succ_cons, List.drop_zero, List.take_succ_cons, List.take_zero, load1_iptr, loadN_iptr, List.length_cons, List.length_nil, Nat.le_refl, if_true, List.getElem?_cons_zero, List.getElem?_cons_succ, List.getD_cons_zero, List.getD_cons_succ, extrF_tup, binF_add, binF_sub, binF_mul, binF_eql, binF_neq, binF_lss, binF_leq, binF_gtr, binF_geq, true_and]
  refine condA_t (fun hlt => ?_) (fun hge => ?_)
  · have hvF : v < F.length := by omega
    refine (Reads.sl H' (up F)).get (Heap.le_refl _) (by omega) (by rw [u1]; omega) ?_
    rw [Int.toNat_natCast, up_getD]
    simp only [l10, q1, u1, letO_some, cellsOf?_agg, cellsOf?_int, cellsOf?_bool, cellsOf?_imm, cellsOf?_ref, cellsOf?_nils, faddr_iptr, faddr_ptr, List.drop_succ_cons, List.drop_zero, List.take_succ_cons, List.take_zero, load1_iptr, loadN_iptr, List.length_cons, List.length_nil, Nat.le_refl, if_true, List.getElem?_cons_zero, List.getElem?_cons_succ, List.getD_cons_zero, List.getD_cons_succ, extrF_tup, binF_add, binF_sub, binF_mul, binF_eql, binF_neq, binF_lss, binF_leq, binF_gtr, binF_geq, true_and]
    by_cases hvE : v < E.length
    · have e1 : decide ((v : Int) < (E.length : Int)) = true := by simp; omega
      have hi : idx 1 (sl (up E)) (.int .i64 (v : Int)) = some (.iptr ((ints (up E)).drop (v * 1))) := by
        unfold sl
        rw [u1]
        exact idx_imm (by omega)
      have hl : ((ints (up E)).drop (v * 1))[0]? = some (.int .i64 (E.getD v 0 : Nat)) := by
        rw [List.getElem?_drop, Nat.mul_one, Nat.add_zero, ints_getElem?]
        have := up_getD E v
        rw [List.getD_eq_getElem?_getD, List.getElem?_eq_getElem (by rw [u1]; omega)] at this
        rw [List.getElem?_eq_getElem (by rw [u1]; omega)]
        simp only [Option.getD_some] at this
        rw [← this]; rfl
      simp only [e1, gval_bool, Int.reduceBNe, Int.reduceBEq, pickF_true, pickF_false, reduceIte, Bool.true_eq_false, Bool.false_eq_true, if_false, condA_tt, condA_ff, condG_tt, condG_ff, condG_tt', condG_ff', condG_undef, gval_undef, letO_some, hi, load1_iptr, hl, binF_gtr]
      refine condA_t (fun hgt => ?_) (fun hle2 => ?_)
      · refine endK_ret (hno fun ha => ?_)
        have := ha v hvF hvE
        omega
      · rw [wrap_i64 (by omega) (by omega)]
        refine ⟨⟨v + 1, rfl, by omega, fun u hu hu2 => ?_, by trivial⟩, by simp <;> omega⟩
        by_cases e : u = v
        · subst e; omega
        · exact hle u (by omega) hu2
    · have e1 : decide ((v : Int) < (E.length : Int)) = false := by simp; omega
      simp only [e1, gval_bool, Int.reduceBNe, Int.reduceBEq, pickF_true, pickF_false, reduceIte, Bool.true_eq_false, Bool.false_eq_true, if_false, condA_tt, condA_ff, condG_tt, condG_ff, condG_tt', condG_ff', condG_undef, gval_undef, letO_some]
      rw [wrap_i64 (by omega) (by omega)]
      exact ⟨⟨v + 1, rfl, by omega, fun u hu hu2 => hle u (by omega) hu2, by trivial⟩, by simp <;> omega⟩
  · have ha : nbeh E F := fun u h1 h2 => hle u (by omega) h2
    refine storeA_of (cs := [.bool true]) h19 rfl rfl rfl (by simp) ?_
    have hsp : splice [AV.bool fnd] 0 [.bool true] = [.bool true] := rfl
    rw [hsp]
    have hH1 : ∀ x, x ≠ b19 → (H'.put b19 [.bool true]) x = H' x := fun x hx => Heap.put_ne hx
    have h19' : (H'.put b19 [.bool true]) b19 = some [.bool true] := Heap.put_same
    generalize H'.put b19 [.bool true] = H1 at *
    have h17' : H1 b17 = some [.ref 1 bm 0 E.length none] := by rw [hH1 _ n3]; exact h17
    have l17 : load1 (.ptr b17 0) H1 = some (.ref 1 bm 0 E.length none) := load1_at h17' rfl
    have qr : lenA (.ref 1 bm 0 E.length none) = some (.int .i64 E.length) := rfl
    have hm1 : H1 bm = some (ints (up M)) := by rw [hH1 _ (Ne.symm n1)]; exact hm
    have hd : (H1.del bm) bm = none := by simp [Heap.del]
    have hput : H1 = (H1.del bm).put bm (ints (up M)) := by
      rw [Heap.del_put]
      funext x
      simp only [Heap.put]
      split
      · rename_i e; rw [e, hm1]
      · rfl
    have hg0 : Grow 1 (H1.del bm) H1 (.ref 1 bm 0 E.length none) E.length (ints (up (mxk M F 0))) := by
      have := Grow.ref (sz := 1) (H := H1.del bm) (b := bm) (n := E.length) (cells := ints (up (mxk M F 0))) hd (by simp [u1, hM])
      rw [mxk_zero] at this ⊢
      rw [← hput] at this
      exact this
    simp only [l17, qr, letO_some]
    refine ⟨fun L H' => ∃ v : Nat, L = [.int .i64 v] ∧ v ≤ E.length ∧ Grow 1 (H1.del bm) H' (.ref 1 bm 0 E.length none) E.length (ints (up (mxk M F v))), fun L _ => (E.length - iv L 0).toNat, ⟨0, rfl, by omega, hg0⟩, ?_⟩
    intro L H2 hJ
    obtain ⟨v, rfl, hv, hg⟩ := hJ
    have hdl : (H1.del bm) b17 = some [.ref 1 bm 0 E.length none] := by simp only [Heap.del, if_neg n2]; exact h17'
    have l17' : load1 (.ptr b17 0) H2 = some (.ref 1 bm 0 E.length none) := load1_at (hg.le _ _ hdl) rfl
    simp only [letO_some, cellsOf?_agg, cellsOf?_int, cellsOf?_bool, cellsOf?_imm, cellsOf?_ref, cellsOf?_nils, faddr_iptr, faddr_ptr, List.drop_succ_cons, List.drop_zero, List.take_succ_cons, List.take_zero, load1_iptr, loadN_iptr, List.length_cons, List.length_nil, Nat.le_refl, if_true, List.getElem?_cons_zero, List.getElem?_cons_succ, List.getD_cons_zero, List.getD_cons_succ, extrF_tup, binF_add, binF_sub, binF_mul, binF_eql, binF_neq, binF_lss, binF_leq, binF_gtr, binF_geq, true_and]
    refine condA_t (fun hlt => ?_) (fun hge => ?_)
    · have hvE : v < E.length := by omega
      have hbm : ∀ u, M.getD u 0 = M.getD u 0 := fun _ => rfl
      refine ⟨fun L h => L = [] ∧ Grow 1 (H1.del bm) h (.ref 1 bm 0 E.length none) E.length (ints (up (mxk M F (v + 1)))), ?_, ?_⟩
      · refine condA_t (fun hlt2 => ?_) (fun hge2 => ⟨rfl, ?_⟩)
        · have hvF : v < F.length := by omega
          obtain ⟨b3, hb3, hidx, hld, hst⟩ := grow_at hg (by trivial) hvE
          simp only [l17', letO_some, hidx, hld _ (Heap.le_refl _)]
          refine (Reads.sl H2 (up F)).get (Heap.le_refl _) (by omega) (by rw [u1]; omega) ?_
          rw [Int.toNat_natCast, up_getD, up_getD, mxk_get (by omega), if_neg (by omega)]
          simp only [max2, letO_some]
          refine hst _ _ fun H5 hg5 _ => ⟨by trivial, ?_⟩
          have e : (if ((F.getD v 0 : Nat) : Int) > ((M.getD v 0 : Nat) : Int) then ((F.getD v 0 : Nat) : Int) else ((M.getD v 0 : Nat) : Int)) = ((moS v (M.getD v 0) F : Nat) : Int) := by
            unfold moS
            rw [if_pos hvF]
            split <;> omega
          rw [e, ← up_set, mxk_step (by omega)] at hg5
          exact hg5
        · rw [mxk_skip (by omega)]; exact hg
      · rintro L H5 ⟨rfl, hg5⟩
        try simp only [letO_some, cellsOf?_agg, cellsOf?_int, cellsOf?_bool, cellsOf?_imm, cellsOf?_ref, cellsOf?_nils, faddr_iptr, faddr_ptr, List.drop_succ_cons, List.drop_zero, List.take_succ_cons, List.take_zero, load1_iptr, loadN_iptr, List.length_cons, List.length_nil, Nat.le_refl, if_true, List.getElem?_cons_zero, List.getElem?_cons_succ, List.getD_cons_zero, List.getD_cons_succ, extrF_tup, binF_add, binF_sub, binF_mul, binF_eql, binF_neq, binF_lss, binF_leq, binF_gtr, binF_geq, true_and]
        rw [wrap_i64 (by omega) (by omega)]
        exact ⟨⟨v + 1, rfl, by omega, hg5⟩, by simp <;> omega⟩
    · have hvE : v = E.length := by omega
      subst hvE
      obtain ⟨b3, hb3, he, hH2⟩ := hg.own (by trivial)
      cases he
      refine endK_ret (hyes ha _ (fun x h1 h2 => ?_) ?_ ?_)
      · rw [hH2, Heap.put_ne h2]
        simp only [Heap.del, if_neg h2]
        exact hH1 x h1
      · rw [hH2, Heap.put_ne n1]
        simp only [Heap.del, if_neg n1]
        exact h19'
      · rw [hH2]; exact Heap.put_same
end Go.Proofs.Ytlajhbpkogekfaa

namespace Go.Proofs.Ytlajhbpkogekfaa
open Go.Av Line
set_option linter.unusedVariables false
set_option linter.unusedSimpArgs false
set_option maxRecDepth 4000

theorem not_v {b : Bool} : unF .not (.bool b) = some (.bool !b) := rfl
theorem alloc_grow {sz : Nat} {H0 H : Heap} {v : AV} {n b : Nat} {cells cs : List AV} (h : Grow sz H0 H v n cells) (hb : H b = none) : Grow sz (H0.put b cs) (H.put b cs) v n cells := by
  refine ⟨h.1, ?_⟩
  rcases h.2 with ⟨e, e2, rfl⟩ | ⟨e, rfl⟩ | ⟨b3, hb3, e, rfl⟩
  · exact .inl ⟨e, e2, rfl⟩
  · exact .inr (.inl ⟨e, rfl⟩)
  · have hne : b3 ≠ b := Heap.ne_of (Heap.put_same) hb
    exact .inr (.inr ⟨b3, by rw [Heap.put_ne hne]; exact hb3, e, Heap.put_comm hne⟩)
theorem alloc_store_le {n : Nat} {z cs : List AV} {x : AV} {k : AV → Heap → Prop} {H H0 : Heap} (h0 : H0.le H) (hx : cellsOf? x = some cs) (hs : cs.all isScalar = true) (hl : cs.length = n) (hz : z.length = n)
    (hk : ∀ b, H b = none → k (.ptr b 0) (H.put b cs)) : allocA z (fun t H3 => H0.le H3 ∧ storeA n t x (fun H4 => H0.le H4 ∧ k t H4) H3) H := by
  intro b hb
  refine ⟨Heap.le_trans h0 (Heap.le_new hb), ?_⟩
  refine storeA_of Heap.put_same hx hs hl (by simp [hl, hz]) ?_
  have : splice z 0 cs = cs := by simp [splice, hl, hz]
  rw [this, Heap.put_put]
  exact ⟨Heap.le_trans h0 (Heap.le_new hb), hk b hb⟩
theorem none_of_le {H H' : Heap} (h : H.le H') {b : Nat} (hb : H' b = none) : H b = none := by
  cases hx : H b with
  | none => rfl
  | some c => rw [h _ _ hx] at hb; cases hb
theorem slc_suf {H : Heap} {l : List Int} {k : Nat} (hk : k ≤ l.length) : ∃ v', slc 1 (sl l) (some (.int .i64 (k : Int))) none none = some v' ∧ Reads H v' (l.drop k) := by
  have n1 : ∀ d, natOf none d = some d := fun d => rfl
  have n2 : ∀ d, natOf (some (.int .i64 (k : Int))) d = some k := fun d => by simp [natOf]
  simp only [sl, slc, n1, n2, Option.bind_some]
  rw [if_pos ⟨hk, Nat.le_refl _⟩]
  refine ⟨_, rfl, by simp, ?_⟩
  rw [Nat.mul_one, Nat.mul_one, ints_drop, List.take_of_length_le (by simp)]

/-- LineGrown -/
theorem c7 {W M S X Y : Nat} {l st : List Nat} {H : Heap} {K : AV → Heap → Prop} (hW : W < 256) (hM : M < 256) (hS : S < 256) (hl : l.length = 10) (hlx : ∀ x ∈ l, x < 256) (hst : st.length = 10) (hsx : ∀ x ∈ st, x < 256) (hX : X < 256) (hY : Y < 256) (hk : ∀ r H', r = .bool true → K r H') :
    ACalls Try.prog 7 [.agg (u8s (W :: M :: S :: l)), .agg (u8s st), .int .u8 (X : Int), .int .u8 (Y : Int)] H K := by
  apply W7_ok
  unfold W7
  have hc := chk_made (W := W) (M := M) (S := S) (most := 8) hl (by omega)
  have hL13 : loadN 13 (.iptr (u8s (W :: M :: S :: l))) H = some (.agg (u8s (W :: M :: S :: l))) := by
    rw [loadN_iptr, if_pos (by simp [hl]), List.take_of_length_le (by simp [hl])]
  simp only [cellsOf?_agg, letO_some, hL13]
  refine c34 (most := 8) hW hM hS hl hlx (by omega) ?_
  generalize madeL W M S l 8 = ws at *
  generalize ((gw W : Nat) : Int) = w at *
  obtain ⟨w1, w2, n1, n2, hws⟩ := chk_ok hc
  refine alloc_store (cs := [.int .i64 w, sl ws]) rfl rfl rfl rfl fun b9 hb9 => ?_
  have hb : (H.put b9 [.int .i64 w, sl ws]) b9 = some [.int .i64 w, sl ws] := Heap.put_same
  generalize H.put b9 [.int .i64 w, sl ws] = H5 at *
  have hL5 : ∀ {X : Heap}, X b9 = some [.int .i64 w, sl ws] → loadN 2 (.ptr b9 0) X = some (.agg [.int .i64 w, sl ws]) := fun h => loadN_at (cells := [.int .i64 w, sl ws]) h
  have hlw : ws.length < 2 ^ 60 := by omega
  have u1 : ∀ F : List Nat, (up F).length = F.length := fun F => by simp [up]
  have ht10 : List.take 10 (u8s st) = u8s st := List.take_of_length_le (by simp [hst])
  simp only [letO_some, cellsOf?_agg, cellsOf?_int, cellsOf?_bool, cellsOf?_imm, cellsOf?_ref, cellsOf?_nils, faddr_iptr, faddr_ptr, List.drop_succ_cons, List.drop_zero, List.take_succ_cons, List.take_zero, load1_iptr, loadN_iptr, List.length_cons, List.length_nil, Nat.le_refl, if_true, List.getElem?_cons_zero, List.getElem?_cons_succ, List.getD_cons_zero, List.getD_cons_succ, extrF_tup, binF_add, binF_sub, binF_mul, binF_eql, binF_neq, binF_lss, binF_leq, binF_gtr, binF_geq, true_and, gval_bool, Int.reduceBNe, Int.reduceBEq, pickF_true, pickF_false, reduceIte, Bool.true_eq_false, Bool.false_eq_true, if_false, condA_tt, condA_ff, condG_tt, condG_ff, condG_tt', condG_ff', condG_undef, gval_undef, hL5 hb, u8s_length, hst, ht10]
  refine c39e (Reads.sl _ _) hc hst hsx fun he => ?_
  have hok := brk_ok (st := st) hc
  generalize hE : brk w ws st ws.length 0 = E at *
  have hEl := (ended_short he)
  rw [u1] at hEl
  have hne : E ≠ [] := by rintro rfl; simp at hEl
  refine alloc_store (cs := [sl (up E)]) rfl rfl rfl rfl fun b10 hb10 => ?_
  have h9a : (H5.put b10 [sl (up E)]) b9 = some [.int .i64 w, sl ws] := Heap.le_new hb10 _ _ hb
  have h10a : (H5.put b10 [sl (up E)]) b10 = some [sl (up E)] := Heap.put_same
  generalize H5.put b10 [sl (up E)] = H8 at *
  have hkm := Nat.mod_lt X (show ws.length > 0 by omega)
  have hrem := rem_nat (k := .i64) (t := 3) (a := X) (b := ws.length) (by omega)
  have hrem6 : binF Try.prog .rem 3 (.int .i64 (Y : Int)) (.int .i64 6) = some (.int .i64 ((Y % 6 : Nat) : Int)) := rem_nat (k := .i64) (t := 3) (a := Y) (b := 6) (by decide)
  have hm6 := Nat.mod_lt Y (show 6 > 0 by omega)
  have l1a : load1 (.ptr b9 (0 + 1)) H8 = some (sl ws) := load1_at h9a rfl
  have l0a : load1 (.ptr b9 0) H8 = some (.int .i64 w) := load1_at h9a rfl
  have l10a : load1 (.ptr b10 0) H8 = some (sl (up E)) := load1_at h10a rfl
  have q1 : ∀ (l : List Int), lenA (sl l) = some (.int .i64 l.length) := fun l => (Reads.sl H8 l).len
  simp only [letO_some, cellsOf?_agg, cellsOf?_int, cellsOf?_bool, cellsOf?_imm, cellsOf?_ref, cellsOf?_nils, faddr_iptr, faddr_ptr, List.drop_succ_cons, List.drop_zero, List.take_succ_cons, List.take_zero, load1_iptr, loadN_iptr, List.length_cons, List.length_nil, Nat.le_refl, if_true, List.getElem?_cons_zero, List.getElem?_cons_succ, List.getD_cons_zero, List.getD_cons_succ, extrF_tup, binF_add, binF_sub, binF_mul, binF_eql, binF_neq, binF_lss, binF_leq, binF_gtr, binF_geq, true_and, conv53 (n := (X : Int)) (by omega), conv53 (n := (Y : Int)) (by omega), l1a, q1, hrem, hrem6]
  rw [wrap_i64 (n := 1 + ((Y % 6 : Nat) : Int)) (by omega) (by omega)]
  generalize hk0 : X % ws.length = k at *
  generalize hx0 : (1 : Int) + ((Y % 6 : Nat) : Int) = x at *
  have hx2 : 1 ≤ x ∧ x ≤ 6 := by omega
  simp only [hL5 h9a, l10a, letO_some]
  refine c32 (Reads.sl _ _) (Reads.sl _ _) hlw (by rw [u1]; omega) ?_
  have hgo : growO w ws (up E) k x = if w < ws.getD k 0 + x then ([], 0, 12) else (up (growE w ws (up E) k x).1, ((growE w ws (up E) k x).2 : Int), 0) := by
    rw [growO, if_neg (by rw [he]; omega), if_neg (by omega), if_neg (by omega), Int.toNat_natCast]
  have hmem : ws.getD k 0 ∈ ws := by rw [List.getD_eq_getElem?_getD]; simp [hkm]
  have hwk := hws _ hmem
  simp only [letO_some, cellsOf?_agg, cellsOf?_int, cellsOf?_bool, cellsOf?_imm, cellsOf?_ref, cellsOf?_nils, faddr_iptr, faddr_ptr, List.drop_succ_cons, List.drop_zero, List.take_succ_cons, List.take_zero, load1_iptr, loadN_iptr, List.length_cons, List.length_nil, Nat.le_refl, if_true, List.getElem?_cons_zero, List.getElem?_cons_succ, List.getD_cons_zero, List.getD_cons_succ, extrF_tup, binF_add, binF_sub, binF_mul, binF_eql, binF_neq, binF_lss, binF_leq, binF_gtr, binF_geq, true_and, l1a]
  refine (Reads.sl H8 ws).get (Heap.le_refl _) (by omega) (by omega) ?_
  rw [Int.toNat_natCast]
  simp only [letO_some, cellsOf?_agg, cellsOf?_int, cellsOf?_bool, cellsOf?_imm, cellsOf?_ref, cellsOf?_nils, faddr_iptr, faddr_ptr, List.drop_succ_cons, List.drop_zero, List.take_succ_cons, List.take_zero, load1_iptr, loadN_iptr, List.length_cons, List.length_nil, Nat.le_refl, if_true, List.getElem?_cons_zero, List.getElem?_cons_succ, List.getD_cons_zero, List.getD_cons_succ, extrF_tup, binF_add, binF_sub, binF_mul, binF_eql, binF_neq, binF_lss, binF_leq, binF_gtr, binF_geq, true_and, l0a]
  rw [wrap_i64 (n := ws.getD k 0 + x) (by omega) (by omega)]
  refine condA_t (fun hlost => ?_) (fun hfit => ?_)
  · rw [hgo, if_pos hlost]
    have q0 : lenA (sl []) = some (.int .i64 0) := rfl
    simp only [letO_some, cellsOf?_agg, cellsOf?_int, cellsOf?_bool, cellsOf?_imm, cellsOf?_ref, cellsOf?_nils, faddr_iptr, faddr_ptr, List.drop_succ_cons, List.drop_zero, List.take_succ_cons, List.take_zero, load1_iptr, loadN_iptr, List.length_cons, List.length_nil, Nat.le_refl, if_true, List.getElem?_cons_zero, List.getElem?_cons_succ, List.getD_cons_zero, List.getD_cons_succ, extrF_tup, binF_add, binF_sub, binF_mul, binF_eql, binF_neq, binF_lss, binF_leq, binF_gtr, binF_geq, true_and, gval_bool, Int.reduceBNe, Int.reduceBEq, pickF_true, pickF_false, reduceIte, Bool.true_eq_false, Bool.false_eq_true, if_false, condA_tt, condA_ff, condG_tt, condG_ff, condG_tt', condG_ff', condG_undef, gval_undef, beq_self_eq_true, q0]
    refine exJ ?_
    refine c16 ?_
    try simp only [letO_some, cellsOf?_agg, cellsOf?_int, cellsOf?_bool, cellsOf?_imm, cellsOf?_ref, cellsOf?_nils, faddr_iptr, faddr_ptr, List.drop_succ_cons, List.drop_zero, List.take_succ_cons, List.take_zero, load1_iptr, loadN_iptr, List.length_cons, List.length_nil, Nat.le_refl, if_true, List.getElem?_cons_zero, List.getElem?_cons_succ, List.getD_cons_zero, List.getD_cons_succ, extrF_tup, binF_add, binF_sub, binF_mul, binF_eql, binF_neq, binF_lss, binF_leq, binF_gtr, binF_geq, true_and, gval_bool, Int.reduceBNe, Int.reduceBEq, pickF_true, pickF_false, reduceIte, Bool.true_eq_false, Bool.false_eq_true, if_false, condA_tt, condA_ff, condG_tt, condG_ff, condG_tt', condG_ff', condG_undef, gval_undef]
    exact endK_ret (hk _ _ rfl)
  rw [hgo, if_neg hfit]
  have hfit2 : ws.getD k 0 + x ≤ w := by omega
  obtain ⟨line, g, at', hgr, hline, hlow, hup, hG, hat1, hat2, hat3⟩ := grow_spec hc hok hne hkm hx2.1 hfit2
  have hgE : growE w ws (up E) k x = (g, at') := by rw [growE, toN_up]; exact hgr
  rw [hgE]
  have hcW : chk w (wide ws k x) = 0 := chk_set hc ⟨by omega, hfit2⟩
  have hWl : (wide ws k x).length = ws.length := wide_len
  have hgl := hG.len
  have hgn : g ≠ [] := by rintro rfl; simp at hgl; exact hne hgl
  have hgok := grown_ok hG hgn
  have hgord := hG.ord.len
  rw [hWl] at hgord
  obtain ⟨hfound, hmost⟩ := mo_grown hG hgn
  simp only [letO_some, cellsOf?_agg, cellsOf?_int, cellsOf?_bool, cellsOf?_imm, cellsOf?_ref, cellsOf?_nils, faddr_iptr, faddr_ptr, List.drop_succ_cons, List.drop_zero, List.take_succ_cons, List.take_zero, load1_iptr, loadN_iptr, List.length_cons, List.length_nil, Nat.le_refl, if_true, List.getElem?_cons_zero, List.getElem?_cons_succ, List.getD_cons_zero, List.getD_cons_succ, extrF_tup, binF_add, binF_sub, binF_mul, binF_eql, binF_neq, binF_lss, binF_leq, binF_gtr, binF_geq, true_and, l0a, l1a]
  refine c40 (Reads.sl _ _) (by rintro rfl; simp at n1) (by omega) fun v1 H13 hg13 ho13 => ⟨hg13.le, ?_⟩
  simp only [b24 cellsOf?_int hg13.cells, letO_some]
  refine alloc_store_le (cs := [.int .i64 w, v1]) hg13.le rfl (by simp only [List.all_cons, hg13.scalar]; rfl) rfl rfl fun b16 hb16 => ?_
  have hg15 := alloc_grow (cs := [.int .i64 w, v1]) hg13 hb16
  have hn16 := none_of_le hg13.le hb16
  have h9b : (H8.put b16 [.int .i64 w, v1]) b9 = some [.int .i64 w, sl ws] := Heap.le_new hn16 _ _ h9a
  have h10b : (H8.put b16 [.int .i64 w, v1]) b10 = some [sl (up E)] := Heap.le_new hn16 _ _ h10a
  have h16b : (H8.put b16 [.int .i64 w, v1]) b16 = some [.int .i64 w, v1] := Heap.put_same
  generalize H13.put b16 [.int .i64 w, v1] = H15 at *
  generalize H8.put b16 [.int .i64 w, v1] = G1 at *
  have l16 : load1 (.ptr b16 (0 + 1)) H15 = some v1 := load1_at (hg15.le _ _ h16b) rfl
  obtain ⟨bv, hbv, hidx, hld, hst2⟩ := grow_at hg15 ho13 (i := k) hkm
  simp only [letO_some, cellsOf?_agg, cellsOf?_int, cellsOf?_bool, cellsOf?_imm, cellsOf?_ref, cellsOf?_nils, faddr_iptr, faddr_ptr, List.drop_succ_cons, List.drop_zero, List.take_succ_cons, List.take_zero, load1_iptr, loadN_iptr, List.length_cons, List.length_nil, Nat.le_refl, if_true, List.getElem?_cons_zero, List.getElem?_cons_succ, List.getD_cons_zero, List.getD_cons_succ, extrF_tup, binF_add, binF_sub, binF_mul, binF_eql, binF_neq, binF_lss, binF_leq, binF_gtr, binF_geq, true_and, l16, hidx, hld _ (Heap.le_refl _)]
  rw [wrap_i64 (n := ws.getD k 0 + x) (by omega) (by omega)]
  refine hst2 _ _ fun H16 hg16 _ => ?_
  have hwd : ws.set k (ws.getD k 0 + x) = wide ws k x := rfl
  rw [hwd] at hg16
  have l10c : load1 (.ptr b10 0) H16 = some (sl (up E)) := load1_at (hg16.le _ _ h10b) rfl
  simp only [l10c, letO_some]
  refine c40 (Reads.sl _ _) (by intro h; have := congrArg List.length h; rw [u1] at this; simp at this; exact hne this) (by rw [u1]; omega) fun v87 H17 hg17 ho17 => ?_
  refine alloc_store (cs := [v87]) hg17.cells (by simp only [List.all_cons, hg17.scalar]; rfl) rfl rfl fun b17 hb17 => ?_
  have hg19 := alloc_grow (cs := [v87]) hg17 hb17
  have hn17 := none_of_le hg17.le hb17
  have hle17 : H16.le (H16.put b17 [v87]) := Heap.le_new hn17
  have h17d : (H16.put b17 [v87]) b17 = some [v87] := Heap.put_same
  generalize H17.put b17 [v87] = H19 at *
  generalize H16.put b17 [v87] = G2 at *
  have l17 : load1 (.ptr b17 0) H19 = some v87 := load1_at (hg19.le _ _ h17d) rfl
  rw [u1] at hg19
  simp only [l17, hg19.len, letO_some]
  refine ⟨fun L H' => ∃ i : Nat, L = [.int .i64 i] ∧ i ≤ E.length ∧ Grow 1 G2 H' v87 E.length (ints (up (zr E i))), fun L _ => (E.length - iv L 0).toNat, ⟨0, rfl, by omega, hg19⟩, ?_⟩
  intro L H20 hI
  obtain ⟨i, rfl, hi, hg20⟩ := hI
  simp only [letO_some, cellsOf?_agg, cellsOf?_int, cellsOf?_bool, cellsOf?_imm, cellsOf?_ref, cellsOf?_nils, faddr_iptr, faddr_ptr, List.drop_succ_cons, List.drop_zero, List.take_succ_cons, List.take_zero, load1_iptr, loadN_iptr, List.length_cons, List.length_nil, Nat.le_refl, if_true, List.getElem?_cons_zero, List.getElem?_cons_succ, List.getD_cons_zero, List.getD_cons_succ, extrF_tup, binF_add, binF_sub, binF_mul, binF_eql, binF_neq, binF_lss, binF_leq, binF_gtr, binF_geq, true_and]
  refine condA_t (fun hlt => ?_) (fun hge => ?_)
  · obtain ⟨b3, hb3, hidx3, hld3, hst3⟩ := grow_at hg20 ho17 (i := i) (by omega)
    have l17' : load1 (.ptr b17 0) H20 = some v87 := load1_at (hg20.le _ _ h17d) rfl
    simp only [l17', hidx3, letO_some]
    refine hst3 _ _ fun H21 hg21 _ => ?_
    rw [wrap_i64 (by omega) (by omega)]
    refine ⟨⟨i + 1, rfl, by omega, ?_⟩, by simp <;> omega⟩
    have := up_set (l := zr E i) (i := i) (x := 0)
    rw [zr_step (by omega)] at this
    rw [this]; exact hg21
  have hiE : i = E.length := by omega
  subst hiE
  rw [zr_end, ← moL_nil] at hg20
  refine alloc_store (cs := [.bool false]) rfl rfl rfl rfl fun b19 hb19 => ?_
  have hg26 := alloc_grow (cs := [.bool false]) hg20 hb19
  have hn19 := none_of_le hg20.le hb19
  have hle19 : G2.le (G2.put b19 [.bool false]) := Heap.le_new hn19
  have h19d : (G2.put b19 [.bool false]) b19 = some [.bool false] := Heap.put_same
  generalize H20.put b19 [.bool false] = H26 at *
  generalize hG3 : G2.put b19 [.bool false] = G3 at *
  obtain ⟨bm, hbm, hv87, hH26⟩ := hg26.own ho17
  subst hv87
  -- what stays
  have hHs : ∀ x c, G2 x = some c → ((H26.del b19).del bm) x = some c := by
    intro x c hx
    have n1 : x ≠ b19 := by rintro rfl; rw [hn19] at hx; cases hx
    have n2 : x ≠ bm := by rintro rfl; rw [hle19 _ _ hx] at hbm; cases hbm
    simp only [Heap.del, if_neg n1, if_neg n2]
    rw [hH26, Heap.put_ne n2]; exact hle19 _ _ hx
  have hG16 : H16.le ((H26.del b19).del bm) := fun x c hx => hHs x c (hle17 _ _ hx)
  have hG1s : G1.le ((H26.del b19).del bm) := Heap.le_trans hg16.le hG16
  have hnb : b19 ≠ bm := by rintro rfl; rw [h19d] at hbm; cases hbm
  have hrv := hg16.reads.le hG16
  have h9s := hG1s _ _ h9b
  have h10s := hG1s _ _ h10b
  have h16s := hG1s _ _ h16b
  have h17s := hHs _ _ h17d
  have hsle : ((H26.del b19).del bm).le H26 := fun x c hx => by
    simp only [Heap.del] at hx
    split at hx
    · cases hx
    · split at hx
      · cases hx
      · exact hx
  have h19e : H26 b19 = some [.bool false] := by rw [hH26, Heap.put_ne hnb]; exact h19d
  have hbme : H26 bm = some (ints (up (moL E []))) := by rw [hH26]; exact Heap.put_same
  have hs19 : ((H26.del b19).del bm) b19 = none := by simp only [Heap.del, if_neg hnb, if_true]
  have hsbm : ((H26.del b19).del bm) bm = none := by simp only [Heap.del, if_true]
  have hkeep : ∀ {Ha Hb : Heap}, ((H26.del b19).del bm).le Ha → (∀ x, x ≠ b19 → x ≠ bm → Hb x = Ha x) → ((H26.del b19).del bm).le Hb := by
    intro Ha Hb h1 h2 x c hx
    have n1 : x ≠ b19 := by rintro rfl; rw [hs19] at hx; cases hx
    have n2 : x ≠ bm := by rintro rfl; rw [hsbm] at hx; cases hx
    rw [h2 x n1 n2]; exact h1 x c hx
  generalize hHs2 : (H26.del b19).del bm = Hs at *
  have l16e : loadN 2 (.ptr b16 0) H26 = some (.agg [.int .i64 w, v1]) := loadN_at (cells := [.int .i64 w, v1]) (hsle _ _ h16s)
  simp only [l16e, letO_some]
  refine c37v hcW (fun b done Hh => Hs.le Hh ∧ Hh b = some [.fn 80 [.iptr [.int .i64 w, v1], .iptr [.fn 41 [.ptr b10 0, .ptr b19 0, .ptr b17 0]], .ptr b 0]] ∧ Hh b19 = some [.bool (decide (∃ L ∈ done, nbeh E L))] ∧ Hh bm = some (ints (up (moL E done))))
    (fun b done Hh h => hrv.le h.1) (fun b hbf => ?_) (fun b done Hh h => h.2.1) (fun b done Hh F hF hI K' hK' => ?_) (fun b H27 hbf hI => ?_)
  · have e1 : b ≠ b19 := by rintro rfl; rw [h19e] at hbf; cases hbf
    have e2 : b ≠ bm := by rintro rfl; rw [hbme] at hbf; cases hbf
    refine ⟨Heap.le_trans hsle (Heap.le_new hbf), Heap.put_same, ?_, ?_⟩
    · rw [Heap.put_ne (Ne.symm e1), h19e]; simp
    · rw [Heap.put_ne (Ne.symm e2), hbme]
  · obtain ⟨i1, i2, i3, i4⟩ := hI
    have hFl : F.length ≤ ws.length := by
      have := (ok_ord hF).len
      rwa [hWl] at this
    have e1 : b ≠ b19 := by
      rintro rfl
      rw [i2] at i3; cases i3
    have e2 : b ≠ bm := by
      rintro rfl
      rw [i2] at i4
      simp only [ints, Option.some.injEq] at i4
      cases hM2 : up (moL E done) with
      | nil => rw [hM2] at i4; cases i4
      | cons a l => rw [hM2] at i4; cases i4
    refine c41 (i1 _ _ h10s) i3 (i1 _ _ h17s) i4 (by simp) (by omega) (by omega) (fun ha => hK' _ _ ⟨i1, i2, ?_, ?_⟩) (fun ha H' hx1 hx2 hx3 => hK' _ _ ⟨hkeep i1 hx1, ?_, ?_, ?_⟩)
    · rw [i3]
      congr 3
      simp only [decide_eq_decide, ex_snoc]
      exact ⟨.inl, fun h => h.elim id fun h => absurd h ha⟩
    · rw [i4, moL_no ha]
    · rw [hx1 _ e1 e2]; exact i2
    · rw [hx2, decide_eq_true (ex_snoc.2 (.inr ha))]
    · rw [hx3, moL_yes ha]
  obtain ⟨i1, i2, i3, i4⟩ := hI
  rw [decide_eq_true hfound] at i3
  have l19 : load1 (.ptr b19 0) H27 = some (.bool true) := load1_at i3 rfl
  have l16f : loadN 2 (.ptr b16 0) H27 = some (.agg [.int .i64 w, v1]) := loadN_at (cells := [.int .i64 w, v1]) (i1 _ _ h16s)
  have l10f : load1 (.ptr b10 0) H27 = some (sl (up E)) := load1_at (i1 _ _ h10s) rfl
  have l17f : load1 (.ptr b17 0) H27 = some (.ref 1 bm 0 E.length none) := load1_at (i1 _ _ h17s) rfl
  have l9f : load1 (.ptr b9 (0 + 1)) H27 = some (sl ws) := load1_at (i1 _ _ h9s) rfl
  have hrW := hrv.le i1
  have hge : endedE w (wide ws k x) (up g) = 0 := ok_ended hcW hgok
  simp only [letO_some, cellsOf?_agg, cellsOf?_int, cellsOf?_bool, cellsOf?_imm, cellsOf?_ref, cellsOf?_nils, faddr_iptr, faddr_ptr, List.drop_succ_cons, List.drop_zero, List.take_succ_cons, List.take_zero, load1_iptr, loadN_iptr, List.length_cons, List.length_nil, Nat.le_refl, if_true, List.getElem?_cons_zero, List.getElem?_cons_succ, List.getD_cons_zero, List.getD_cons_succ, extrF_tup, binF_add, binF_sub, binF_mul, binF_eql, binF_neq, binF_lss, binF_leq, binF_gtr, binF_geq, true_and, l19, not_v, Bool.not_true, gval_bool, Int.reduceBNe, Int.reduceBEq, pickF_true, pickF_false, reduceIte, Bool.true_eq_false, Bool.false_eq_true, if_false, condA_tt, condA_ff, condG_tt, condG_ff, condG_tt', condG_ff', condG_undef, gval_undef, bne_self_eq_false, l16f]
  refine exJ ?_
  refine c42 hrW (Reads.sl _ _) (by rw [hWl]; omega) (by rw [u1]; omega) ?_
  rw [hge]
  obtain ⟨y, hy, hry⟩ := slc_pre (Reads.sl H27 (up g)) (k := E.length) (by rw [u1]; omega)
  have elt : decide (((g.length : Nat) : Int) < ((E.length : Nat) : Int)) = false := by simp; omega
  simp only [letO_some, cellsOf?_agg, cellsOf?_int, cellsOf?_bool, cellsOf?_imm, cellsOf?_ref, cellsOf?_nils, faddr_iptr, faddr_ptr, List.drop_succ_cons, List.drop_zero, List.take_succ_cons, List.take_zero, load1_iptr, loadN_iptr, List.length_cons, List.length_nil, Nat.le_refl, if_true, List.getElem?_cons_zero, List.getElem?_cons_succ, List.getD_cons_zero, List.getD_cons_succ, extrF_tup, binF_add, binF_sub, binF_mul, binF_eql, binF_neq, binF_lss, binF_leq, binF_gtr, binF_geq, true_and, gval_bool, Int.reduceBNe, Int.reduceBEq, pickF_true, pickF_false, reduceIte, Bool.true_eq_false, Bool.false_eq_true, if_false, condA_tt, condA_ff, condG_tt, condG_ff, condG_tt', condG_ff', condG_undef, gval_undef, bne_self_eq_false, l10f, q1, u1, elt, l17f, hy]
  refine exJ ?_
  have hpre : (up g).take E.length = up (moL E (ext w (wide ws k x) (wide ws k x).length 0)) := by
    refine ext_getI (by simp; omega) fun v hv => ?_
    have hvE : v < E.length := by simp at hv; omega
    rw [List.getD_eq_getElem?_getD, List.getElem?_take_of_lt hvE, ← List.getD_eq_getElem?_getD, up_getD, up_getD, moL_get hvE, hmost v hvE]
  refine c25p hry (w := .ref 1 bm 0 E.length none) (m := up (moL E (ext w (wide ws k x) (wide ws k x).length 0))) ⟨rfl, by simp, _, i4, by simp, by rw [List.drop_zero, List.take_of_length_le (by simp)]⟩ (by simp; omega) ?_
  rw [decide_eq_true hpre]
  simp only [letO_some, cellsOf?_agg, cellsOf?_int, cellsOf?_bool, cellsOf?_imm, cellsOf?_ref, cellsOf?_nils, faddr_iptr, faddr_ptr, List.drop_succ_cons, List.drop_zero, List.take_succ_cons, List.take_zero, load1_iptr, loadN_iptr, List.length_cons, List.length_nil, Nat.le_refl, if_true, List.getElem?_cons_zero, List.getElem?_cons_succ, List.getD_cons_zero, List.getD_cons_succ, extrF_tup, binF_add, binF_sub, binF_mul, binF_eql, binF_neq, binF_lss, binF_leq, binF_gtr, binF_geq, true_and, gval_bool, Int.reduceBNe, Int.reduceBEq, pickF_true, pickF_false, reduceIte, Bool.true_eq_false, Bool.false_eq_true, if_false, condA_tt, condA_ff, condG_tt, condG_ff, condG_tt', condG_ff', condG_undef, gval_undef, not_v, Bool.not_true, l10f, q1, u1]
  rw [wrap_i64 (n := (E.length : Int) - 1) (by omega) (by omega)]
  refine (Reads.sl H27 (up g)).get (Heap.le_refl _) (by omega) (by rw [u1]; omega) ?_
  obtain ⟨z, hz, hrz⟩ := slc_suf (H := H27) (l := up g) (k := E.length) (by rw [u1]; omega)
  have ez : ((up g).drop E.length).length = g.length - E.length := by simp
  rw [show ((E.length : Int) - 1).toNat = E.length - 1 by omega, up_getD]
  simp only [letO_some, cellsOf?_agg, cellsOf?_int, cellsOf?_bool, cellsOf?_imm, cellsOf?_ref, cellsOf?_nils, faddr_iptr, faddr_ptr, List.drop_succ_cons, List.drop_zero, List.take_succ_cons, List.take_zero, load1_iptr, loadN_iptr, List.length_cons, List.length_nil, Nat.le_refl, if_true, List.getElem?_cons_zero, List.getElem?_cons_succ, List.getD_cons_zero, List.getD_cons_succ, extrF_tup, binF_add, binF_sub, binF_mul, binF_eql, binF_neq, binF_lss, binF_leq, binF_gtr, binF_geq, true_and, l10f, q1, u1, hz, hrz.len, ez]
  -- behind the old lines
  refine ⟨fun L H' => ∃ i : Nat, L = [.int .i64 (stN g (E.length + i) : Nat), .int .i64 i] ∧ i ≤ g.length - E.length ∧ H' = H27, fun L _ => (g.length - E.length - iv L 1).toNat, ⟨0, by simp only [stN, if_neg (show ¬ E.length + 0 = 0 by omega)]; rfl, by omega, rfl⟩, ?_⟩
  intro L H28 hI2
  obtain ⟨i, rfl, hi, rfl⟩ := hI2
  simp only [letO_some, cellsOf?_agg, cellsOf?_int, cellsOf?_bool, cellsOf?_imm, cellsOf?_ref, cellsOf?_nils, faddr_iptr, faddr_ptr, List.drop_succ_cons, List.drop_zero, List.take_succ_cons, List.take_zero, load1_iptr, loadN_iptr, List.length_cons, List.length_nil, Nat.le_refl, if_true, List.getElem?_cons_zero, List.getElem?_cons_succ, List.getD_cons_zero, List.getD_cons_succ, extrF_tup, binF_add, binF_sub, binF_mul, binF_eql, binF_neq, binF_lss, binF_leq, binF_gtr, binF_geq, true_and]
  refine condA_t (fun hlt => ?_) (fun hge2 => ?_)
  · have hil : E.length + i < g.length := by omega
    refine hrz.get (Heap.le_refl _) (by omega) (by rw [ez]; omega) ?_
    have ed : ((up g).drop E.length).getD (i : Int).toNat 0 = (g.getD (E.length + i) 0 : Nat) := by
      rw [Int.toNat_natCast, ← up_getD, List.getD_eq_getElem?_getD, List.getD_eq_getElem?_getD, List.getElem?_drop]
    rw [ed]
    have ho1 := hG.ord.1 _ hil
    have ho2 := hG.ord.2 (E.length + i)
    rw [hWl] at ho2
    have hfl := hG.full (E.length + i) (by omega) hil
    rw [hWl] at hfl
    have hnext : stN g (E.length + (i + 1)) = g.getD (E.length + i) 0 := by
      unfold stN
      rw [if_neg (by omega)]
      congr 1
    simp only [letO_some, cellsOf?_agg, cellsOf?_int, cellsOf?_bool, cellsOf?_imm, cellsOf?_ref, cellsOf?_nils, faddr_iptr, faddr_ptr, List.drop_succ_cons, List.drop_zero, List.take_succ_cons, List.take_zero, load1_iptr, loadN_iptr, List.length_cons, List.length_nil, Nat.le_refl, if_true, List.getElem?_cons_zero, List.getElem?_cons_succ, List.getD_cons_zero, List.getD_cons_succ, extrF_tup, binF_add, binF_sub, binF_mul, binF_eql, binF_neq, binF_lss, binF_leq, binF_gtr, binF_geq, true_and, l9f, q1]
    by_cases hend : g.getD (E.length + i) 0 = ws.length
    · have e1 : (((g.getD (E.length + i) 0 : Nat) : Int) != ((ws.length : Nat) : Int)) = false := by rw [hend]; simp
      simp only [e1, letO_some, cellsOf?_agg, cellsOf?_int, cellsOf?_bool, cellsOf?_imm, cellsOf?_ref, cellsOf?_nils, faddr_iptr, faddr_ptr, List.drop_succ_cons, List.drop_zero, List.take_succ_cons, List.take_zero, load1_iptr, loadN_iptr, List.length_cons, List.length_nil, Nat.le_refl, if_true, List.getElem?_cons_zero, List.getElem?_cons_succ, List.getD_cons_zero, List.getD_cons_succ, extrF_tup, binF_add, binF_sub, binF_mul, binF_eql, binF_neq, binF_lss, binF_leq, binF_gtr, binF_geq, true_and, gval_bool, Int.reduceBNe, Int.reduceBEq, pickF_true, pickF_false, reduceIte, Bool.true_eq_false, Bool.false_eq_true, if_false, condA_tt, condA_ff, condG_tt, condG_ff, condG_tt', condG_ff', condG_undef, gval_undef]
      refine exU ?_
      simp only [letO_some, cellsOf?_agg, cellsOf?_int, cellsOf?_bool, cellsOf?_imm, cellsOf?_ref, cellsOf?_nils, faddr_iptr, faddr_ptr, List.drop_succ_cons, List.drop_zero, List.take_succ_cons, List.take_zero, load1_iptr, loadN_iptr, List.length_cons, List.length_nil, Nat.le_refl, if_true, List.getElem?_cons_zero, List.getElem?_cons_succ, List.getD_cons_zero, List.getD_cons_succ, extrF_tup, binF_add, binF_sub, binF_mul, binF_eql, binF_neq, binF_lss, binF_leq, binF_gtr, binF_geq, true_and, gval_bool, Int.reduceBNe, Int.reduceBEq, pickF_true, pickF_false, reduceIte, Bool.true_eq_false, Bool.false_eq_true, if_false, condA_tt, condA_ff, condG_tt, condG_ff, condG_tt', condG_ff', condG_undef, gval_undef]
      rw [wrap_i64 (by omega) (by omega)]
      exact ⟨⟨i + 1, by rw [hnext]; rfl, by omega, by trivial⟩, by simp <;> omega⟩
    · have e1 : (((g.getD (E.length + i) 0 : Nat) : Int) != ((ws.length : Nat) : Int)) = true := by rw [bne_iff_ne]; omega
      have hneg := hfl.resolve_left hend
      simp only [e1, letO_some, cellsOf?_agg, cellsOf?_int, cellsOf?_bool, cellsOf?_imm, cellsOf?_ref, cellsOf?_nils, faddr_iptr, faddr_ptr, List.drop_succ_cons, List.drop_zero, List.take_succ_cons, List.take_zero, load1_iptr, loadN_iptr, List.length_cons, List.length_nil, Nat.le_refl, if_true, List.getElem?_cons_zero, List.getElem?_cons_succ, List.getD_cons_zero, List.getD_cons_succ, extrF_tup, binF_add, binF_sub, binF_mul, binF_eql, binF_neq, binF_lss, binF_leq, binF_gtr, binF_geq, true_and, gval_bool, Int.reduceBNe, Int.reduceBEq, pickF_true, pickF_false, reduceIte, Bool.true_eq_false, Bool.false_eq_true, if_false, condA_tt, condA_ff, condG_tt, condG_ff, condG_tt', condG_ff', condG_undef, gval_undef, l16f]
      rw [wrap_i64 (n := ((g.getD (E.length + i) 0 : Nat) : Int) + 1) (by omega) (by omega)]
      refine exJ ?_
      refine c43 (j := g.getD (E.length + i) 0 + 1) hrW hcW (by omega) (by rw [hWl]; omega) ?_
      have e2 : decide ((0 : Int) ≤ lf w (wide ws k x) (stN g (E.length + i)) (g.getD (E.length + i) 0 + 1)) = false := decide_eq_false (by omega)
      simp only [letO_some, cellsOf?_agg, cellsOf?_int, cellsOf?_bool, cellsOf?_imm, cellsOf?_ref, cellsOf?_nils, faddr_iptr, faddr_ptr, List.drop_succ_cons, List.drop_zero, List.take_succ_cons, List.take_zero, load1_iptr, loadN_iptr, List.length_cons, List.length_nil, Nat.le_refl, if_true, List.getElem?_cons_zero, List.getElem?_cons_succ, List.getD_cons_zero, List.getD_cons_succ, extrF_tup, binF_add, binF_sub, binF_mul, binF_eql, binF_neq, binF_lss, binF_leq, binF_gtr, binF_geq, true_and, gval_bool, Int.reduceBNe, Int.reduceBEq, pickF_true, pickF_false, reduceIte, Bool.true_eq_false, Bool.false_eq_true, if_false, condA_tt, condA_ff, condG_tt, condG_ff, condG_tt', condG_ff', condG_undef, gval_undef, e2]
      rw [wrap_i64 (by omega) (by omega)]
      exact ⟨⟨i + 1, by rw [hnext]; rfl, by omega, by trivial⟩, by simp <;> omega⟩
  -- the line of the word
  refine ⟨fun L H' => ∃ v : Nat, L = [.int .i64 v] ∧ v ≤ line ∧ H' = H28, fun L _ => (line - iv L 0).toNat, ⟨0, rfl, by omega, rfl⟩, ?_⟩
  intro L H29 hI3
  obtain ⟨v, rfl, hv, rfl⟩ := hI3
  simp only [letO_some, cellsOf?_agg, cellsOf?_int, cellsOf?_bool, cellsOf?_imm, cellsOf?_ref, cellsOf?_nils, faddr_iptr, faddr_ptr, List.drop_succ_cons, List.drop_zero, List.take_succ_cons, List.take_zero, load1_iptr, loadN_iptr, List.length_cons, List.length_nil, Nat.le_refl, if_true, List.getElem?_cons_zero, List.getElem?_cons_succ, List.getD_cons_zero, List.getD_cons_succ, extrF_tup, binF_add, binF_sub, binF_mul, binF_eql, binF_neq, binF_lss, binF_leq, binF_gtr, binF_geq, true_and, l10f]
  refine (Reads.sl H29 (up E)).get (Heap.le_refl _) (by omega) (by rw [u1]; omega) ?_
  rw [Int.toNat_natCast, up_getD]
  simp only [letO_some, cellsOf?_agg, cellsOf?_int, cellsOf?_bool, cellsOf?_imm, cellsOf?_ref, cellsOf?_nils, faddr_iptr, faddr_ptr, List.drop_succ_cons, List.drop_zero, List.take_succ_cons, List.take_zero, load1_iptr, loadN_iptr, List.length_cons, List.length_nil, Nat.le_refl, if_true, List.getElem?_cons_zero, List.getElem?_cons_succ, List.getD_cons_zero, List.getD_cons_succ, extrF_tup, binF_add, binF_sub, binF_mul, binF_eql, binF_neq, binF_lss, binF_leq, binF_gtr, binF_geq, true_and]
  refine condA_t (fun hle => ?_) (fun hgt => ?_)
  · have hvl : v ≠ line := by rintro rfl; omega
    rw [wrap_i64 (by omega) (by omega)]
    exact ⟨⟨v + 1, rfl, by omega, by trivial⟩, by simp <;> omega⟩
  have hvl : v = line := by
    by_cases h : v < line
    · have := hlow v h; omega
    · omega
  subst hvl
  -- the line that fits at the end
  refine ⟨fun L H' => ∃ u : Nat, L = [.int .i64 u] ∧ v ≤ u ∧ u ≤ at' ∧ u ≤ E.length ∧ H' = H29, fun L _ => (E.length - iv L 0).toNat, ⟨v, rfl, by omega, hat1, by omega, rfl⟩, ?_⟩
  intro L H30 hI4
  obtain ⟨u, rfl, hvu, huat, huE, rfl⟩ := hI4
  simp only [letO_some, cellsOf?_agg, cellsOf?_int, cellsOf?_bool, cellsOf?_imm, cellsOf?_ref, cellsOf?_nils, faddr_iptr, faddr_ptr, List.drop_succ_cons, List.drop_zero, List.take_succ_cons, List.take_zero, load1_iptr, loadN_iptr, List.length_cons, List.length_nil, Nat.le_refl, if_true, List.getElem?_cons_zero, List.getElem?_cons_succ, List.getD_cons_zero, List.getD_cons_succ, extrF_tup, binF_add, binF_sub, binF_mul, binF_eql, binF_neq, binF_lss, binF_leq, binF_gtr, binF_geq, true_and, l10f, q1, u1]
  have fin : ∀ a : Nat, a = at' → K (.bool true) H30 := fun _ _ => hk _ _ rfl
  by_cases huE2 : u < E.length
  · have e1 : decide ((u : Int) < (E.length : Int)) = true := by simp; omega
    have hi1 : ∀ {F : List Nat}, u < F.length → idx 1 (sl (up F)) (.int .i64 (u : Int)) = some (.iptr ((ints (up F)).drop (u * 1))) := fun {F} h => by
      unfold sl
      rw [u1]
      exact idx_imm h
    have hl1 : ∀ {F : List Nat}, u < F.length → ((ints (up F)).drop (u * 1))[0]? = some (.int .i64 (F.getD u 0 : Nat)) := fun {F} h => by
      rw [List.getElem?_drop, Nat.mul_one, Nat.add_zero, ints_getElem?]
      have := up_getD F u
      rw [List.getD_eq_getElem?_getD, List.getElem?_eq_getElem (by rw [u1]; omega)] at this
      rw [List.getElem?_eq_getElem (by rw [u1]; omega)]
      simp only [Option.getD_some] at this
      rw [← this]; rfl
    simp only [e1, gval_bool, Int.reduceBNe, Int.reduceBEq, pickF_true, pickF_false, reduceIte, Bool.true_eq_false, Bool.false_eq_true, if_false, condA_tt, condA_ff, condG_tt, condG_ff, condG_tt', condG_ff', condG_undef, gval_undef, letO_some, hi1 (F := g) (by omega), hi1 huE2, load1_iptr, hl1 (F := g) (by omega), hl1 huE2, binF_neq]
    by_cases heq : g.getD u 0 = E.getD u 0
    · have e2 : (((g.getD u 0 : Nat) : Int) != ((E.getD u 0 : Nat) : Int)) = false := by rw [heq]; simp
      simp only [e2, gval_bool, Int.reduceBNe, Int.reduceBEq, pickF_true, pickF_false, reduceIte, Bool.true_eq_false, Bool.false_eq_true, if_false, condA_tt, condA_ff, condG_tt, condG_ff, condG_tt', condG_ff', condG_undef, gval_undef]
      have hua : u = at' := by
        by_cases h : u < at'
        · exact absurd heq (hat2 u hvu h huE2)
        · omega
      refine ⟨fun L h => L = [.int .i64 at'] ∧ h = H30, ?_, ?_⟩
      · have e3 : ((u : Int) == (E.length : Int)) = false := by simp; omega
        simp only [letO_some, cellsOf?_agg, cellsOf?_int, cellsOf?_bool, cellsOf?_imm, cellsOf?_ref, cellsOf?_nils, faddr_iptr, faddr_ptr, List.drop_succ_cons, List.drop_zero, List.take_succ_cons, List.take_zero, load1_iptr, loadN_iptr, List.length_cons, List.length_nil, Nat.le_refl, if_true, List.getElem?_cons_zero, List.getElem?_cons_succ, List.getD_cons_zero, List.getD_cons_succ, extrF_tup, binF_add, binF_sub, binF_mul, binF_eql, binF_neq, binF_lss, binF_leq, binF_gtr, binF_geq, true_and, e3, gval_bool, Int.reduceBNe, Int.reduceBEq, pickF_true, pickF_false, reduceIte, Bool.true_eq_false, Bool.false_eq_true, if_false, condA_tt, condA_ff, condG_tt, condG_ff, condG_tt', condG_ff', condG_undef, gval_undef]
        exact ⟨by rw [hua], by trivial⟩
      · rintro L H31 ⟨rfl, rfl⟩
        simp only [letO_some, cellsOf?_agg, cellsOf?_int, cellsOf?_bool, cellsOf?_imm, cellsOf?_ref, cellsOf?_nils, faddr_iptr, faddr_ptr, List.drop_succ_cons, List.drop_zero, List.take_succ_cons, List.take_zero, load1_iptr, loadN_iptr, List.length_cons, List.length_nil, Nat.le_refl, if_true, List.getElem?_cons_zero, List.getElem?_cons_succ, List.getD_cons_zero, List.getD_cons_succ, extrF_tup, binF_add, binF_sub, binF_mul, binF_eql, binF_neq, binF_lss, binF_leq, binF_gtr, binF_geq, true_and, beq_self_eq_true, gval_bool, Int.reduceBNe, Int.reduceBEq, pickF_true, pickF_false, reduceIte, Bool.true_eq_false, Bool.false_eq_true, if_false, condA_tt, condA_ff, condG_tt, condG_ff, condG_tt', condG_ff', condG_undef, gval_undef]
        refine exJ ?_
        refine c16 ?_
        try simp only [letO_some, cellsOf?_agg, cellsOf?_int, cellsOf?_bool, cellsOf?_imm, cellsOf?_ref, cellsOf?_nils, faddr_iptr, faddr_ptr, List.drop_succ_cons, List.drop_zero, List.take_succ_cons, List.take_zero, load1_iptr, loadN_iptr, List.length_cons, List.length_nil, Nat.le_refl, if_true, List.getElem?_cons_zero, List.getElem?_cons_succ, List.getD_cons_zero, List.getD_cons_succ, extrF_tup, binF_add, binF_sub, binF_mul, binF_eql, binF_neq, binF_lss, binF_leq, binF_gtr, binF_geq, true_and, gval_bool, Int.reduceBNe, Int.reduceBEq, pickF_true, pickF_false, reduceIte, Bool.true_eq_false, Bool.false_eq_true, if_false, condA_tt, condA_ff, condG_tt, condG_ff, condG_tt', condG_ff', condG_undef, gval_undef]
        exact endK_ret (hk _ _ rfl)
    · have e2 : (((g.getD u 0 : Nat) : Int) != ((E.getD u 0 : Nat) : Int)) = true := by rw [bne_iff_ne]; omega
      simp only [e2, gval_bool, Int.reduceBNe, Int.reduceBEq, pickF_true, pickF_false, reduceIte, Bool.true_eq_false, Bool.false_eq_true, if_false, condA_tt, condA_ff, condG_tt, condG_ff, condG_tt', condG_ff', condG_undef, gval_undef]
      have hua : u ≠ at' := by
        rintro rfl
        rcases hat3 with h | h
        · exact heq h.2
        · omega
      rw [wrap_i64 (by omega) (by omega)]
      exact ⟨⟨u + 1, rfl, by omega, by omega, by omega, by trivial⟩, by simp <;> omega⟩
  · have e1 : decide ((u : Int) < (E.length : Int)) = false := by simp; omega
    have huE3 : u = E.length := by omega
    have hae : at' + 1 = g.length := by
      rcases hat3 with h | h
      · omega
      · exact h.2
    simp only [e1, gval_bool, Int.reduceBNe, Int.reduceBEq, pickF_true, pickF_false, reduceIte, Bool.true_eq_false, Bool.false_eq_true, if_false, condA_tt, condA_ff, condG_tt, condG_ff, condG_tt', condG_ff', condG_undef, gval_undef, letO_some]
    refine ⟨fun L h => L = [.int .i64 at'] ∧ h = H30, ?_, ?_⟩
    · have e3 : ((u : Int) == (E.length : Int)) = true := by simp; omega
      simp only [letO_some, cellsOf?_agg, cellsOf?_int, cellsOf?_bool, cellsOf?_imm, cellsOf?_ref, cellsOf?_nils, faddr_iptr, faddr_ptr, List.drop_succ_cons, List.drop_zero, List.take_succ_cons, List.take_zero, load1_iptr, loadN_iptr, List.length_cons, List.length_nil, Nat.le_refl, if_true, List.getElem?_cons_zero, List.getElem?_cons_succ, List.getD_cons_zero, List.getD_cons_succ, extrF_tup, binF_add, binF_sub, binF_mul, binF_eql, binF_neq, binF_lss, binF_leq, binF_gtr, binF_geq, true_and, e3, gval_bool, Int.reduceBNe, Int.reduceBEq, pickF_true, pickF_false, reduceIte, Bool.true_eq_false, Bool.false_eq_true, if_false, condA_tt, condA_ff, condG_tt, condG_ff, condG_tt', condG_ff', condG_undef, gval_undef, q1, u1]
      rw [wrap_i64 (by omega) (by omega)]
      refine ⟨?_, by trivial⟩
      congr 2
      omega
    · rintro L H31 ⟨rfl, rfl⟩
      simp only [letO_some, cellsOf?_agg, cellsOf?_int, cellsOf?_bool, cellsOf?_imm, cellsOf?_ref, cellsOf?_nils, faddr_iptr, faddr_ptr, List.drop_succ_cons, List.drop_zero, List.take_succ_cons, List.take_zero, load1_iptr, loadN_iptr, List.length_cons, List.length_nil, Nat.le_refl, if_true, List.getElem?_cons_zero, List.getElem?_cons_succ, List.getD_cons_zero, List.getD_cons_succ, extrF_tup, binF_add, binF_sub, binF_mul, binF_eql, binF_neq, binF_lss, binF_leq, binF_gtr, binF_geq, true_and, beq_self_eq_true, gval_bool, Int.reduceBNe, Int.reduceBEq, pickF_true, pickF_false, reduceIte, Bool.true_eq_false, Bool.false_eq_true, if_false, condA_tt, condA_ff, condG_tt, condG_ff, condG_tt', condG_ff', condG_undef, gval_undef]
      refine exJ ?_
      refine c16 ?_
      try simp only [letO_some, cellsOf?_agg, cellsOf?_int, cellsOf?_bool, cellsOf?_imm, cellsOf?_ref, cellsOf?_nils, faddr_iptr, faddr_ptr, List.drop_succ_cons, List.drop_zero, List.take_succ_cons, List.take_zero, load1_iptr, loadN_iptr, List.length_cons, List.length_nil, Nat.le_refl, if_true, List.getElem?_cons_zero, List.getElem?_cons_succ, List.getD_cons_zero, List.getD_cons_succ, extrF_tup, binF_add, binF_sub, binF_mul, binF_eql, binF_neq, binF_lss, binF_leq, binF_gtr, binF_geq, true_and, gval_bool, Int.reduceBNe, Int.reduceBEq, pickF_true, pickF_false, reduceIte, Bool.true_eq_false, Bool.false_eq_true, if_false, condA_tt, condA_ff, condG_tt, condG_ff, condG_tt', condG_ff', condG_undef, gval_undef]
      exact endK_ret (hk _ _ rfl)
theorem lineGrown.law {W M S X Y : Nat} {l st : List Nat} (hW : W < 256) (hM : M < 256) (hS : S < 256) (hl : l.length = 10) (hlx : ∀ x ∈ l, x < 256) (hst : st.length = 10) (hsx : ∀ x ∈ st, x < 256) (hX : X < 256) (hY : Y < 256) :
    ACalls Try.prog 7 [.agg (u8s (W :: M :: S :: l)), .agg (u8s st), .int .u8 (X : Int), .int .u8 (Y : Int)] Heap.none fun r _ => r = .bool true := c7 hW hM hS hl hlx hst hsx hX hY fun _ _ h => h
end Go.Proofs.Ytlajhbpkogekfaa

/- MADE BY PROGRAM (row.py): the row of LineGrown. -/
namespace Go.Proofs.Ytlajhbpkogekfaa.lineGrown
open Go.ChangeShapes Go.WideShapes Go.ChangeAt Go.RowKit Go.Av
set_option linter.unusedVariables false

theorem own : ownKnob Try.prog.godebug = none := by kernel_rfl
theorem laidOut : laidOutB Try.prog = true := by kernel_rfl
theorem split13 {g : List Nat} (h : g.length = 13) : ∃ a b c l, g = a :: b :: c :: l ∧ l.length = 10 := by
  match g, h with
  | a :: b :: c :: l, h => exact ⟨a, b, c, l, rfl, by simpa using h⟩

set_option maxRecDepth 100000 in
theorem lifted (os : Os) (started : os.Started) (H : Type) (enc : TypeId × Value → H) :
    ReturnsInHanded {} Try.checked os 7 .any (Rows.lineGrownSpec.pre6 enc Try.prog Try.f7 Rows.lineGrownRow.domain false) (Rows.lineGrownSpec.post enc Try.prog Try.f7 false true false false) := by
  refine returnsInHanded_of_change (C := Try.checked) own started (by kernel_rfl) Try.func7
    (ChangeSpec.witness6 (enc := enc) (C := Try.checked) false ⟨#[], #[.agg #[.int .u8 0, .int .u8 0, .int .u8 0, .int .u8 0, .int .u8 0, .int .u8 0, .int .u8 0, .int .u8 0, .int .u8 0, .int .u8 0, .int .u8 0, .int .u8 0, .int .u8 0], .agg #[.int .u8 0, .int .u8 0, .int .u8 0, .int .u8 0, .int .u8 0, .int .u8 0, .int .u8 0, .int .u8 0, .int .u8 0, .int .u8 0], .int .u8 0, .int .u8 0], []⟩ 8 (by kernel_rfl) (by kernel_rfl) (by kernel_rfl) (by kernel_rfl)) ?_
  intro W base args ds gs before hval0 hW hcnd _
  have hval : ∀ (j : Nat) t v, Try.f7.params[j]? = some t → args[j]? = some v → Value.okWide Try.prog W .any base t v := hval0
  have hW' := hW
  obtain ⟨p, q, hA0, hV, rfl, hfz, hnd⟩ := hW
  have hA : DataW.TrodAll enc Try.prog W 0 (fun _ => true) true Try.f7.params.toList args.toList ds p := hA0
  have hA1 := hA
  rw [Try.params7] at hA hval
  obtain ⟨rfl, rfl⟩ := trodVars_none hV
  clear hA0 hval0
  simp only [List.append_nil] at hW'
  have hlt : ∀ x ∈ p, x.block < W.heap.size := fun x hx => by simpa using hW'.lt x hx
  obtain ⟨v0, v1, v2, v3, d0, d1, d2, d3, p0, p1, p2, p3, rfl, rfl, rfl, h0, h1, h2, h3⟩ := trodAll_four hA
  obtain ⟨g0, gl0, gx0, r0⟩ := rep_row (E := E0 W) (n := 13) (u := 5) (.inl ⟨_, Try.underlying47⟩) (by kernel_rfl) (by kernel_rfl) Try.underlying5 (hval 0 47 v0 rfl rfl)
  obtain ⟨W0, M0, S0, l0, rfl, hl0⟩ := split13 gl0
  obtain ⟨a1, al1, ax1, r1⟩ := rep_row (E := E0 W) (n := 10) (u := 5) (.inr ⟨_, _, Try.underlying45⟩) (by kernel_rfl) (by kernel_rfl) Try.underlying5 (hval 1 45 v1 rfl rfl)
  obtain ⟨b2, rfl, bx2⟩ := rep_u8 Try.underlying5 (hval 2 5 v2 rfl rfl)
  obtain ⟨b3, rfl, bx3⟩ := rep_u8 Try.underlying5 (hval 3 5 v3 rfl rfl)
  refine ((law (gx0 _ (by simp)) (gx0 _ (by simp)) (gx0 _ (by simp)) hl0 (fun x hx => gx0 x (by simp [hx])) al1 ax1 bx2 bx3).2 (E0 W) W [v0, v1, .int .u8 (b2 : Int), .int .u8 (b3 : Int)] (st0 W) (RepL.cons r0 (RepL.cons r1 (RepL.cons (.int _ _) (RepL.cons (.int _ _) (RepL.nil _)))))).mono ?_
  rintro e W' ⟨r, v, E', H', rfl, hr, _, hx, rfl⟩
  cases hr
  exact ⟨_, rfl, _, _, _, [], _, [], hW', trodAll_cons_mk (shut_bool Try.underlying4 _) trodAll_mk0, hx.trodAll laidOut (by kernel_rfl) hA1 hlt, rfl, hx.kept _, fun h => by cases h⟩

theorem over : Rows.lineGrownRow.holds Try.pinned (OpenSpec.ofChange Rows.lineGrownSpec) :=
  OpenClaim.holds_of_wide 7 Try.f7 rfl rfl rfl rfl rfl rfl rfl ⟨rfl, rfl, rfl, rfl, rfl⟩ rfl rfl rfl rfl rfl (by kernel_rfl) Try.func7 (by kernel_rfl)
    (of_decide_eq_true (by kernel_rfl)) (by unfold Func.isWrapper; first | (rw [if_pos (by decide +kernel)]; kernel_rfl) | (rw [if_neg (by decide +kernel)]; exact ⟨rfl, rfl⟩))
    (fun os started H enc _ => lifted os started H enc)

theorem proved : Rows.LineGrownSaid := over
#print axioms proved
end Go.Proofs.Ytlajhbpkogekfaa.lineGrown
