import Derived.Test.YtlajhbpkogekfaaCon
import Derived.Test.YtlajhbpkogekfaaAvB
import Derived.Test.YtlajhbpkogekfaaLProvedW
/- The contracts that LineProved uses. Conditions: each theorem names its own. -/
/- Texts by numbers. -/
set_option linter.unusedVariables false
namespace Line
def gw (W : Nat) : Nat := 1 + W % 40
def glong (W S : Nat) : Nat := if S % 3 > 0 then 1 + gw W / 2 else gw W
def gmin (W S : Nat) : Nat := if gw W < glong W S then gw W else glong W S
def gwords (W S : Nat) (l : List Nat) : List Int := l.map fun x => ((1 + x % gmin W S : Nat) : Int)
def madeL (W M S : Nat) (l : List Nat) (most : Nat) : List Int := gwords W S (l.take (1 + M % most))
theorem gw_range (W : Nat) : 1 ≤ gw W ∧ gw W ≤ 40 := by unfold gw; omega
theorem gmin_range (W S : Nat) : 1 ≤ gmin W S ∧ gmin W S ≤ gw W := by
  have := gw_range W
  unfold gmin glong
  split <;> split <;> omega
theorem made_len {W M S : Nat} {l : List Nat} {most : Nat} (hl : l.length = 10) (hm : 1 ≤ most ∧ most ≤ 10) : (madeL W M S l most).length = 1 + M % most := by
  have := Nat.mod_lt M (show most > 0 by omega)
  simp [madeL, gwords]; omega
theorem chk_made {W M S : Nat} {l : List Nat} {most : Nat} (hl : l.length = 10) (hm : 1 ≤ most ∧ most ≤ 10) : chk (gw W) (madeL W M S l most) = 0 := by
  have h1 := gw_range W
  have h2 := made_len (W := W) (M := M) (S := S) hl hm
  have h3 := Nat.mod_lt M (show most > 0 by omega)
  unfold chk
  rw [if_neg (by omega), if_neg (by omega), if_neg (by omega), if_pos]
  intro x hx
  simp only [madeL, gwords, List.mem_map] at hx
  obtain ⟨y, _, rfl⟩ := hx
  have h4 := gmin_range W S
  have := Nat.mod_lt y (show gmin W S > 0 by omega)
  omega
end Line

/- Ends in order. -/
set_option linter.unusedVariables false
namespace Line
/-- Ends that ascend, behind one, up to a last place. -/
def asc (n : Int) : Int → List Int → Prop
  | _, [] => True
  | last, e :: r => last < e ∧ 1 ≤ e ∧ e ≤ n ∧ asc n e r
theorem scan_asc {n : Int} : ∀ {l : List Int} {last : Int} (r : List Int), asc n last l → scan n last (l ++ r) = scan n (l.getLastD last) r
  | [], last, r, _ => rfl
  | e :: l, last, r, h => by
    obtain ⟨h1, h2, h3, h4⟩ := h
    rw [List.cons_append, scan, if_neg (by omega), if_neg (by omega), scan_asc r h4, List.getLastD_cons]
theorem asc_snoc {n : Int} : ∀ {l : List Int} {last x : Int}, asc n last l → l.getLastD last < x → 1 ≤ x → x ≤ n → asc n last (l ++ [x])
  | [], last, x, _, h1, h2, h3 => ⟨by simpa using h1, h2, h3, trivial⟩
  | e :: l, last, x, h, h1, h2, h3 => by
    obtain ⟨g1, g2, g3, g4⟩ := h
    rw [List.getLastD_cons] at h1
    exact ⟨g1, g2, g3, asc_snoc g4 h1 h2 h3⟩
theorem asc_of_scan {n : Int} : ∀ {l : List Int} {last : Int}, scan n last l = 0 → asc n last l
  | [], _, _ => trivial
  | e :: r, last, h => by
    rw [scan] at h
    split at h; · omega
    split at h; · omega
    exact ⟨by omega, by omega, by omega, asc_of_scan h⟩
/-- A line begins before it ends. -/
theorem stN_lt {n : Int} {l : List Int} (h : asc n 0 l) {k : Nat} (hk : k < l.length) : stN (toN l) k < (toN l).getD k 0 := by
  have key : ∀ {l : List Int} {last : Int}, 0 ≤ last → asc n last l → ∀ k, k < l.length → (if k = 0 then last.toNat else (toN l).getD (k - 1) 0) < (toN l).getD k 0 := by
    intro l
    induction l with
    | nil => intro last _ _ k hk; simp at hk
    | cons e r ih =>
      intro last hl h k hk
      obtain ⟨h1, h2, h3, h4⟩ := h
      cases k with
      | zero => simp [toN]; omega
      | succ k =>
        have := ih (last := e) (by omega) h4 k (by simpa using hk)
        cases k with
        | zero => simpa [toN] using this
        | succ k => simpa [toN] using this
  have := key (Int.le_refl 0) h k hk
  unfold stN
  simpa using this
theorem asc_le {n : Int} : ∀ {l : List Int} {last : Int}, asc n last l → ∀ e ∈ l, 1 ≤ e ∧ e ≤ n
  | [], _, _ => by simp
  | e :: r, last, h => by
    obtain ⟨h1, h2, h3, h4⟩ := h
    intro x hx
    rcases List.mem_cons.1 hx with rfl | hx
    · exact ⟨h2, h3⟩
    · exact asc_le h4 x hx
theorem up_append (a b : List Nat) : up (a ++ b) = up a ++ up b := by simp [up]
theorem up_snoc (a : List Nat) (q : Nat) : up (a ++ [q]) = up a ++ [(q : Int)] := by simp [up]
theorem toN_up (E : List Nat) : toN (up E) = E := by
  simp only [toN, up, List.map_map]
  conv => rhs; rw [← List.map_id E]
  exact List.map_congr_left fun x _ => by simp
end Line

/- Lines of ends, one by one. -/
set_option linter.unusedVariables false
set_option linter.unusedSimpArgs false
namespace Line
theorem getD_append_lt {E r : List Nat} {k : Nat} (h : k < E.length) : (E ++ r).getD k 0 = E.getD k 0 := by
  rw [List.getD_eq_getElem?_getD, List.getElem?_append_left h, ← List.getD_eq_getElem?_getD]
theorem getD_last (E : List Nat) (h : E ≠ []) : E.getD (E.length - 1) 0 = E.getLastD 0 := by
  rw [List.getLastD_eq_getLast?, List.getD_eq_getElem?_getD, List.getLast?_eq_getElem?]
theorem stN_append {E r : List Nat} : stN (E ++ r) E.length = E.getLastD 0 := by
  unfold stN
  split
  · rename_i h
    have : E = [] := List.eq_nil_of_length_eq_zero h
    subst this; rfl
  · rename_i h
    rw [getD_append_lt (by omega), getD_last E (by rintro rfl; simp at h)]
theorem spansN_append (E r : List Nat) : spansN (E ++ r) E.length = spansN E E.length := by
  unfold spansN
  refine List.map_congr_left fun k hk => ?_
  have hk := List.mem_range.1 hk
  unfold spanN stN
  rw [getD_append_lt hk]
  split
  · rfl
  · rw [getD_append_lt (by omega)]
theorem spansN_snoc (E : List Nat) (x : Nat) : spansN (E ++ [x]) (E.length + 1) = spansN E E.length ++ [(E.getLastD 0, x)] := by
  rw [spansN_succ, spansN_append]
  unfold spanN
  rw [stN_append, List.getD_eq_getElem?_getD, List.getElem?_append_right (Nat.le_refl _)]
  simp
theorem over_snoc (w : Int) (ws : List Int) (E : List Nat) (x : Nat) : over w ws (E ++ [x]) = (over w ws E || decide (lf w ws (E.getLastD 0) x < 0)) := by
  unfold over
  rw [List.length_append, List.length_singleton, spansN_snoc, List.any_append]
  simp
theorem up_lastD (E : List Nat) : (up E).getLastD 0 = (E.getLastD 0 : Nat) := by
  cases E with
  | nil => rfl
  | cons a l => simp [up, List.getLastD_eq_getLast?, List.getLast?_map, List.getLast?_cons]
/-- Ends that ascend, end with the last word, and fit. -/
theorem ended_mk {w : Int} {ws : List Int} {E : List Nat} (hc : chk w ws = 0) (ha : asc ws.length 0 (up E)) (hl : E.getLastD 0 = ws.length) (ho : over w ws E = false) : endedE w ws (up E) = 0 := by
  have hs : scan ws.length 0 (up E) = 0 := by
    have := scan_asc [] ha
    rw [List.append_nil] at this
    rw [this, up_lastD, hl]; simp [scan]
  rw [endedE, hc, hs, toN_up, ho]; simp

/-- What the first lines cost, but for those from a number on. -/
def wantE (w : Int) (ws : List Int) (E : List Nat) (m : Nat) : Nat → Int
  | 0 => 0
  | i + 1 => wantE w ws E m i + if i < m then sqf w ws (stN E i) (E.getD i 0) else 0
theorem costS_append {w : Int} {ws : List Int} {last p : Nat × Nat} {l : List (Nat × Nat)} : costS w ws last (l ++ [p]) = costS w ws last l + if p = last then 0 else sqf w ws p.1 p.2 := by
  simp [costS]
theorem costE_eq {w : Int} {ws : List Int} {E : List Nat} {n : Int} (ha : asc n 0 (up E)) (hne : E ≠ []) : ∀ i, i ≤ E.length → costS w ws (spanN E (E.length - 1)) (spansN E i) = wantE w ws E (E.length - 1) i
  | 0, _ => rfl
  | i + 1, h => by
    have hlen : 0 < E.length := List.length_pos_iff.2 hne
    rw [spansN_succ, costS_append, costE_eq ha hne i (by omega), wantE]
    congr 1
    by_cases hi : i < E.length - 1
    · rw [if_neg, if_pos hi]
      · rfl
      · intro he
        have h1 := congrArg Prod.snd he
        simp only [spanN] at h1
        have mono : ∀ d k, k + d + 1 < E.length → E.getD k 0 < E.getD (k + d + 1) 0 := by
          intro d
          induction d with
          | zero =>
            intro k hk
            have := stN_lt ha (k := k + 1) (by simpa using hk)
            rw [toN_up] at this
            simpa [stN] using this
          | succ d ih =>
            intro k hk
            have a1 := ih k (by omega)
            have := stN_lt ha (k := k + d + 1 + 1) (by simp; omega)
            rw [toN_up] at this
            simp only [stN, Nat.add_one_sub_one] at this
            rw [if_neg (by omega)] at this
            have e : k + (d + 1) + 1 = k + d + 1 + 1 := by omega
            rw [e]
            omega
        have := mono (E.length - 1 - i - 1) i (by omega)
        rw [show i + (E.length - 1 - i - 1) + 1 = E.length - 1 by omega] at this
        omega
    · have : i = E.length - 1 := by omega
      subst this
      rw [if_pos rfl, if_neg (by omega)]
theorem psum_len (ws : List Int) : psum ws ws.length = ws.sum + ws.length := by simp [psum]
theorem ended_up {w : Int} {ws es : List Int} (h : endedE w ws es = 0) : up (toN es) = es := by
  obtain ⟨h1, h2, h3⟩ : chk w ws = 0 ∧ scan ws.length 0 es = 0 ∧ over w ws (toN es) = false := by
    unfold endedE at h
    by_cases h1 : chk w ws = 0 <;> simp only [h1, ne_eq, not_true, not_false_eq_true, if_true, if_false] at h
    · by_cases h2 : scan ws.length 0 es = 0 <;> simp only [h2, ne_eq, not_true, not_false_eq_true, if_true, if_false] at h
      · refine ⟨h1, h2, ?_⟩
        cases h3 : over w ws (toN es) <;> simp [h3] at h ⊢
  exact up_toN fun e he => (scan_range h2 e he).1
end Line

/- Full lines, and lines that get longer. -/
set_option linter.unusedVariables false
namespace Line
theorem psum_mono {ws : List Int} (h : ∀ x ∈ ws, 1 ≤ x) {i j : Nat} (hij : i ≤ j) (hj : j ≤ ws.length) : psum ws i + 2 * ((j : Int) - i) ≤ psum ws j := by
  induction j with
  | zero => have : i = 0 := by omega
            subst this; omega
  | succ j ih =>
    by_cases he : i = j + 1
    · subst he; omega
    · have := ih (by omega) (by omega)
      rw [psum_succ (by omega)]
      have hm : ws.getD j 0 ∈ ws := by rw [List.getD_eq_getElem?_getD]; simp [show j < ws.length by omega]
      have := h _ hm
      omega
theorem lf_mono {w : Int} {ws : List Int} (hc : chk w ws = 0) {i j k : Nat} (hij : i ≤ j) (hjk : j ≤ k) (hk : k ≤ ws.length) : lf w ws i k ≤ lf w ws i j := by
  have := psum_mono (ws := ws) (fun x hx => ((chk_ok hc).2.2.2.2 x hx).1) hjk hk
  rw [lf_eq (by omega) (by omega), lf_eq (by omega) (by omega)]
  omega
theorem endN_eq {w : Int} {ws : List Int} {i m : Nat} (h1 : 1 ≤ m) (h2 : 0 ≤ lf w ws i m) : ∀ d, (∀ j, m < j → j ≤ m + d → lf w ws i j < 0) → endN w ws i (m + d) = m
  | 0, _ => by
    obtain ⟨m, rfl⟩ : ∃ m', m = m' + 1 := ⟨m - 1, by omega⟩
    rw [Nat.add_zero, endN, if_neg (by omega)]
  | d + 1, h => by
    rw [← Nat.add_assoc, endN, if_pos (h _ (by omega) (by omega))]
    exact endN_eq h1 h2 d fun j hj hj2 => h j hj (by omega)
theorem endN_greedy {w : Int} {ws : List Int} (hc : chk w ws = 0) {i m : Nat} (h1 : i < m) (h2 : 0 ≤ lf w ws i m) (hm : m ≤ ws.length) (h3 : m = ws.length ∨ lf w ws i (m + 1) < 0) : endN w ws i ws.length = m := by
  have := endN_eq (w := w) (ws := ws) (i := i) (m := m) (by omega) h2 (ws.length - m) fun j hj hj2 => by
    rcases h3 with h3 | h3
    · omega
    · have := lf_mono hc (i := i) (j := m + 1) (k := j) (by omega) (by omega) (by omega)
      omega
  rwa [show m + (ws.length - m) = ws.length by omega] at this
theorem fullE_done (w : Int) (ws : List Int) (f : Nat) : fullE w ws f ws.length = [] := by cases f <;> simp [fullE]
theorem wantE_m {w : Int} {ws : List Int} {E : List Nat} {m : Nat} : ∀ {i m' : Nat}, i ≤ m → i ≤ m' → wantE w ws E m i = wantE w ws E m' i
  | 0, _, _, _ => rfl
  | i + 1, m', h1, h2 => by
    rw [wantE, wantE, wantE_m (m' := m') (by omega) (by omega), if_pos (by omega), if_pos (by omega)]
end Line

/- The best of the last lines to a place. -/
set_option linter.unusedVariables false
namespace Line
def costL (w : Int) (ws : List Int) (P : List (Int × Nat)) (j i : Nat) : Int := (P.getD i (0, 0)).1 + sqf w ws i j
/-- The least cost of a last line to a place, and the first place where it begins. -/
def bst (w : Int) (ws : List Int) (P : List (Int × Nat)) (j : Nat) (r : Int × Nat) : Prop :=
  r.2 < j ∧ 0 ≤ lf w ws r.2 j ∧ r.1 = costL w ws P j r.2 ∧ ∀ i, i < j → 0 ≤ lf w ws i j → r.1 ≤ costL w ws P j i ∧ (i < r.2 → r.1 < costL w ws P j i)
theorem bst_unique {w : Int} {ws : List Int} {P : List (Int × Nat)} {j : Nat} {r r' : Int × Nat} (h : bst w ws P j r) (h' : bst w ws P j r') : r = r' := by
  obtain ⟨a1, a2, a3, a4⟩ := h
  obtain ⟨b1, b2, b3, b4⟩ := h'
  have h1 := a4 _ b1 b2
  have h2 := b4 _ a1 a2
  rw [← b3] at h1
  rw [← a3] at h2
  have e1 : r.1 = r'.1 := by omega
  have e2 : r.2 = r'.2 := by
    rcases Nat.lt_trichotomy r.2 r'.2 with h | h | h
    · have := h2.2 h; omega
    · exact h
    · have := h1.2 h; omega
  exact Prod.ext e1 e2
theorem lf_mono2 {w : Int} {ws : List Int} (hc : chk w ws = 0) {i j k : Nat} (hij : i ≤ j) (hjk : j ≤ k) (hk : k ≤ ws.length) : lf w ws i k ≤ lf w ws j k := by
  have := psum_mono (ws := ws) (fun x hx => ((chk_ok hc).2.2.2.2 x hx).1) hij (by omega)
  rw [lf_eq (by omega) (by omega), lf_eq (by omega) (by omega)]
  omega
theorem scanB_bst {w : Int} {ws : List Int} {P : List (Int × Nat)} {j : Nat} (hc : chk w ws = 0) (hj : 1 ≤ j) (hjn : j ≤ ws.length) : ∀ (m : Nat) (acc : Int × Nat), m ≤ j →
    (m < j → m ≤ acc.2 ∧ acc.2 < j ∧ 0 ≤ lf w ws acc.2 j ∧ acc.1 = costL w ws P j acc.2 ∧ ∀ i, m ≤ i → i < j → acc.1 ≤ costL w ws P j i ∧ (i < acc.2 → acc.1 < costL w ws P j i)) → bst w ws P j (scanB w ws P j m acc)
  | 0, acc, _, h => by
    obtain ⟨_, h2, h3, h4, h5⟩ := h (by omega)
    exact ⟨h2, h3, h4, fun i hi _ => h5 i (by omega) hi⟩
  | m + 1, acc, hm, h => by
    rw [scanB]
    split
    · rename_i hneg
      have hm1 : m + 1 < j := by
        by_cases he : m + 1 = j
        · exfalso
          have := lf_one hc (show m < ws.length by omega)
          rw [he] at this
          omega
        · omega
      obtain ⟨_, h2, h3, h4, h5⟩ := h hm1
      refine ⟨h2, h3, h4, fun i hi hf => ?_⟩
      by_cases hmi : m + 1 ≤ i
      · exact h5 i hmi hi
      · have := lf_mono2 hc (i := i) (j := m) (k := j) (by omega) (by omega) hjn
        omega
    · rename_i hnn
      refine scanB_bst hc hj hjn m _ (by omega) fun _ => ?_
      by_cases hmj : m + 1 = j
      · rw [if_pos (.inl hmj)]
        refine ⟨Nat.le_refl _, by omega, Int.not_lt.1 hnn, rfl, fun i h1 h2 => ?_⟩
        have : i = m := by omega
        subst this
        exact ⟨Int.le_refl _, fun h => absurd h (Nat.lt_irrefl _)⟩
      · obtain ⟨h1, h2, h3, h4, h5⟩ := h (by omega)
        have hcm : (P.getD m (0, 0)).1 + sqf w ws m j = costL w ws P j m := rfl
        rw [hcm]
        by_cases hle : costL w ws P j m ≤ acc.1
        · rw [if_pos (.inr hle)]
          refine ⟨Nat.le_refl _, by omega, Int.not_lt.1 hnn, rfl, fun i g1 g2 => ?_⟩
          by_cases him : i = m
          · subst him
            exact ⟨Int.le_refl _, fun h => absurd h (Nat.lt_irrefl _)⟩
          · have := h5 i (by omega) g2
            exact ⟨by simp only; omega, fun h => by simp only at h; omega⟩
        · rw [if_neg (by omega)]
          refine ⟨by omega, h2, h3, h4, fun i g1 g2 => ?_⟩
          by_cases him : i = m
          · subst him
            exact ⟨by omega, fun _ => by omega⟩
          · exact h5 i (by omega) g2
theorem pls_bst {w : Int} {ws : List Int} (hc : chk w ws = 0) {k : Nat} (hk : k < ws.length) : bst w ws (pls w ws k) (k + 1) ((pls w ws (k + 1)).getD (k + 1) (0, 0)) := by
  have e : (pls w ws (k + 1)).getD (k + 1) (0, 0) = scanB w ws (pls w ws k) (k + 1) (k + 1) (0, 0) := by
    rw [pls, List.getD_eq_getElem?_getD, List.getElem?_append_right (by simp)]
    simp
  rw [e]
  exact scanB_bst hc (by omega) (by omega) (k + 1) (0, 0) (Nat.le_refl _) fun h => absurd h (Nat.lt_irrefl _)
theorem costL_pls {w : Int} {ws : List Int} {k d j i : Nat} (h : i ≤ k) : costL w ws (pls w ws (k + d)) j i = costL w ws (pls w ws k) j i := by
  unfold costL; rw [pls_get h]

/-- Last lines do not begin before those of fewer words. -/
theorem start_mono {w : Int} {ws : List Int} (hc : chk w ws = 0) {k : Nat} (hk : k + 1 < ws.length) : ((pls w ws (k + 1)).getD (k + 1) (0, 0)).2 ≤ ((pls w ws (k + 2)).getD (k + 2) (0, 0)).2 := by
  have h1 := pls_bst hc (k := k) (by omega)
  have h2 : bst w ws (pls w ws (k + 1)) (k + 2) ((pls w ws (k + 2)).getD (k + 2) (0, 0)) := pls_bst hc (k := k + 1) hk
  generalize (pls w ws (k + 1)).getD (k + 1) (0, 0) = r at *
  generalize (pls w ws (k + 2)).getD (k + 2) (0, 0) = r' at *
  obtain ⟨c, s⟩ := r
  obtain ⟨c', s'⟩ := r'
  obtain ⟨a1, a2, a3, a4⟩ := h1
  obtain ⟨b1, b2, b3, b4⟩ := h2
  simp only at *
  by_cases hlt : s' < s
  · exfalso
    have f1 : lf w ws s' (k + 2) ≤ lf w ws s' (k + 1) := lf_mono hc (by omega) (by omega) (by omega)
    have f2 : lf w ws s' (k + 2) ≤ lf w ws s (k + 2) := lf_mono2 hc (by omega) (by omega) (by omega)
    have g1 := (a4 s' (by omega) (by omega)).2 hlt
    have g2 := (b4 s (by omega) (by omega)).1
    have e1 : costL w ws (pls w ws (k + 1)) (k + 2) s' = (( pls w ws k).getD s' (0, 0)).1 + sqf w ws s' (k + 2) := by
      rw [costL_pls (k := k) (d := 1) (by omega)]; rfl
    have e2 : costL w ws (pls w ws (k + 1)) (k + 2) s = ((pls w ws k).getD s (0, 0)).1 + sqf w ws s (k + 2) := by
      rw [costL_pls (k := k) (d := 1) (by omega)]; rfl
    rw [a3] at g1
    have hb3 : c' = costL w ws (pls w ws (k + 1)) (k + 2) s' := b3
    have g2' : c' ≤ costL w ws (pls w ws (k + 1)) (k + 2) s := g2
    rw [hb3, e1, e2] at g2'
    unfold costL at g1
    -- the squares
    have hx := lf_eq (w := w) (ws := ws) (i := s') (j := k + 2) (by omega) (by omega)
    have hy := lf_eq (w := w) (ws := ws) (i := s) (j := k + 2) (by omega) (by omega)
    have hz := lf_eq (w := w) (ws := ws) (i := s') (j := k + 1) (by omega) (by omega)
    have ht := lf_eq (w := w) (ws := ws) (i := s) (j := k + 1) (by omega) (by omega)
    unfold sqf at g1 g2'
    generalize lf w ws s' (k + 2) = x at *
    have hd : lf w ws s (k + 2) = x + (psum ws s - psum ws s') := by omega
    have he : lf w ws s' (k + 1) = x + (psum ws (k + 2) - psum ws (k + 1)) := by omega
    have hde : lf w ws s (k + 1) = x + (psum ws s - psum ws s') + (psum ws (k + 2) - psum ws (k + 1)) := by omega
    have hm1 : 0 ≤ psum ws s - psum ws s' := by omega
    have hm2 : 0 ≤ psum ws (k + 2) - psum ws (k + 1) := by omega
    rw [he, hde] at g1
    rw [hd] at g2'
    generalize psum ws s - psum ws s' = d at *
    generalize psum ws (k + 2) - psum ws (k + 1) = e at *
    have hpos : 0 ≤ d * e := Int.mul_nonneg hm1 hm2
    simp only [Int.mul_add, Int.add_mul] at g1 g2'
    have c1 : e * d = d * e := Int.mul_comm _ _
    have c2 : d * x = x * d := Int.mul_comm _ _
    have c3 : e * x = x * e := Int.mul_comm _ _
    rw [c1, c2, c3] at g1
    rw [c2] at g2'
    omega
  · omega
end Line

/- All ends; and full lines among them. -/
set_option linter.unusedVariables false
namespace Line
/-- All ends from a place on whose lines fit, in ascending order. -/
def ext (w : Int) (ws : List Int) : Nat → Nat → List (List Nat)
  | 0, fr => if fr = ws.length then [[]] else []
  | f + 1, fr => if fr = ws.length then [[]] else (List.range (ws.length - fr)).flatMap fun d => if lf w ws fr (fr + 1 + d) < 0 then [] else (ext w ws f (fr + 1 + d)).map (fun G => (fr + 1 + d) :: G)
/-- The same, to the places below one. -/
def extTo (w : Int) (ws : List Int) (f fr m : Nat) : List (List Nat) := (List.range m).flatMap fun d => if lf w ws fr (fr + 1 + d) < 0 then [] else (ext w ws f (fr + 1 + d)).map (fun G => (fr + 1 + d) :: G)
theorem extTo_succ (w : Int) (ws : List Int) (f fr m : Nat) : extTo w ws f fr (m + 1) = extTo w ws f fr m ++ if lf w ws fr (fr + 1 + m) < 0 then [] else (ext w ws f (fr + 1 + m)).map (fun G => (fr + 1 + m) :: G) := by
  unfold extTo
  rw [List.range_succ, List.flatMap_append]
  simp
theorem ext_succ {w : Int} {ws : List Int} {f fr : Nat} (h : fr ≠ ws.length) : ext w ws (f + 1) fr = extTo w ws f fr (ws.length - fr) := by
  rw [ext, if_neg h]; rfl
/-- Ends whose lines fit. -/
def okEnds (w : Int) (ws : List Int) (E : List Nat) : Prop := asc ws.length 0 (up E) ∧ E.getLastD 0 = ws.length ∧ over w ws E = false
theorem ok_ended {w : Int} {ws : List Int} {E : List Nat} (hc : chk w ws = 0) (h : okEnds w ws E) : endedE w ws (up E) = 0 := ended_mk hc h.1 h.2.1 h.2.2

/-- The first part of ends, that fits as far as it goes. -/
def prt (w : Int) (ws : List Int) (E : List Nat) : Prop := asc ws.length 0 (up E) ∧ over w ws E = false
theorem part_snoc {w : Int} {ws : List Int} {E : List Nat} {j : Nat} (h : prt w ws E) (h1 : E.getLastD 0 < j) (h2 : j ≤ ws.length) (h3 : 0 ≤ lf w ws (E.getLastD 0) j) : prt w ws (E ++ [j]) := by
  refine ⟨?_, ?_⟩
  · rw [up_snoc]
    exact asc_snoc h.1 (by rw [up_lastD]; omega) (by omega) (by omega)
  · rw [over_snoc, h.2]; simpa using h3
theorem part_nil (w : Int) (ws : List Int) : prt w ws [] := ⟨trivial, rfl⟩
theorem lastD_snoc (E : List Nat) (j : Nat) : (E ++ [j]).getLastD 0 = j := by simp
theorem leftL_snoc (w : Int) (ws : List Int) (E : List Nat) (j : Nat) : leftL w ws (E ++ [j]) (E.length + 1) = leftL w ws E E.length ++ [lf w ws (E.getLastD 0) j] := by
  rw [leftL_succ, stN_append]
  congr 1
  · unfold leftL
    refine List.map_congr_left fun k hk => ?_
    have hk := List.mem_range.1 hk
    rw [getD_append_lt hk]
    unfold stN
    split
    · rfl
    · rw [getD_append_lt (by omega)]
  · rw [List.getD_eq_getElem?_getD, List.getElem?_append_right (Nat.le_refl _)]
    simp

/-- All that are listed fit. -/
theorem ext_ok {w : Int} {ws : List Int} : ∀ (f fr : Nat) (E : List Nat), prt w ws E → E.getLastD 0 = fr → fr ≤ ws.length → ∀ F ∈ ext w ws f fr, okEnds w ws (E ++ F)
  | 0, fr, E, hp, he, hn, F, hF => by
    unfold ext at hF
    split at hF
    · simp at hF; subst hF
      rw [List.append_nil]
      exact ⟨hp.1, by omega, hp.2⟩
    · simp at hF
  | f + 1, fr, E, hp, he, hn, F, hF => by
    unfold ext at hF
    split at hF
    · simp at hF; subst hF
      rw [List.append_nil]
      exact ⟨hp.1, by omega, hp.2⟩
    · rw [List.mem_flatMap] at hF
      obtain ⟨d, hd, hF⟩ := hF
      have hd := List.mem_range.1 hd
      split at hF
      · simp at hF
      · rename_i hnn
        rw [List.mem_map] at hF
        obtain ⟨G, hG, rfl⟩ := hF
        have := ext_ok f (fr + 1 + d) (E ++ [fr + 1 + d]) (part_snoc hp (by omega) (by omega) (by rw [he]; omega)) (lastD_snoc _ _) (by omega) G hG
        rwa [List.append_assoc, List.singleton_append] at this

/-- Each line of full lines ends no sooner than that of any others. -/
theorem ok_lines {w : Int} {ws : List Int} {E : List Nat} (h : okEnds w ws E) {k : Nat} (hk : k < E.length) : stN E k < E.getD k 0 ∧ E.getD k 0 ≤ ws.length ∧ 0 ≤ lf w ws (stN E k) (E.getD k 0) := by
  obtain ⟨h1, h2, h3⟩ := h
  have a := stN_lt h1 (k := k) (by simpa using hk)
  rw [toN_up] at a
  refine ⟨a, ?_, ?_⟩
  · have := asc_le h1 ((E.getD k 0 : Nat) : Int) (by rw [← up_getD, List.getD_eq_getElem?_getD]; simp [hk])
    omega
  · unfold over at h3
    rw [List.any_eq_false] at h3
    have := h3 (spanN E k) (List.mem_of_getElem? (spansN_get hk))
    simp [spanN] at this
    exact this
theorem endN_max {w : Int} {ws : List Int} {i : Nat} : ∀ (m j : Nat), j ≤ m → 0 ≤ lf w ws i j → j ≤ endN w ws i m
  | 0, j, h, _ => by omega
  | m + 1, j, h, hn => by
    unfold endN
    split
    · rename_i hneg
      by_cases he : j = m + 1
      · subst he; omega
      · exact endN_max m j (by omega) hn
    · omega
theorem full_get {w : Int} {ws : List Int} : ∀ (f fr v : Nat), v < (fullE w ws f fr).length → (fullE w ws f fr).getD v 0 = endN w ws (if v = 0 then fr else (fullE w ws f fr).getD (v - 1) 0) ws.length
  | 0, fr, v, h => by simp [fullE] at h
  | f + 1, fr, v, h => by
    unfold fullE at h ⊢
    split at h
    · rename_i hlt
      rw [if_pos hlt]
      cases v with
      | zero => rfl
      | succ v =>
        have := full_get f (endN w ws fr ws.length) v (by simpa using h)
        rw [List.getD_cons_succ, this, if_neg (show ¬ (v + 1 = 0) by omega), Nat.add_sub_cancel]
        cases v with
        | zero => rfl
        | succ v => simp
    · simp at h
/-- Full ends reach the last word. -/
theorem full_last {w : Int} {ws : List Int} (hc : chk w ws = 0) : ∀ (f fr : Nat), fr < ws.length → ws.length - fr ≤ f → fullE w ws f fr ≠ [] ∧ (fullE w ws f fr).getD ((fullE w ws f fr).length - 1) 0 = ws.length
  | 0, fr, h, hf => by omega
  | f + 1, fr, h, hf => by
    have he := endN_range hc h ws.length h
    unfold fullE
    rw [if_pos h]
    refine ⟨by simp, ?_⟩
    by_cases hd : endN w ws fr ws.length < ws.length
    · obtain ⟨i1, i2⟩ := full_last hc f _ hd (by omega)
      have hl : 0 < (fullE w ws f (endN w ws fr ws.length)).length := List.length_pos_iff.2 i1
      rw [List.length_cons, Nat.add_sub_cancel]
      obtain ⟨m, hm⟩ : ∃ m, (fullE w ws f (endN w ws fr ws.length)).length = m + 1 := ⟨_, (Nat.succ_pred_eq_of_pos hl).symm⟩
      rw [hm, List.getD_cons_succ]
      rw [hm, Nat.add_sub_cancel] at i2
      exact i2
    · have : endN w ws fr ws.length = ws.length := by omega
      rw [this, fullE_done]; rfl
theorem endN_mono {w : Int} {ws : List Int} (hc : chk w ws = 0) {i i' : Nat} (h : i ≤ i') (hi : i' < ws.length) {j : Nat} (hij : i' ≤ j) (hj : j ≤ ws.length) (hf : 0 ≤ lf w ws i j) : j ≤ endN w ws i' ws.length :=
  endN_max _ _ hj (by have := lf_mono2 hc h hij hj; omega)
/-- Full lines are ahead of all others, line by line. -/
theorem full_ahead {w : Int} {ws : List Int} (hc : chk w ws = 0) {E : List Nat} (hE : okEnds w ws E) : ∀ v, v < E.length → v < (fullE w ws ws.length 0).length → E.getD v 0 ≤ (fullE w ws ws.length 0).getD v 0
  | 0, h1, h2 => by
    obtain ⟨a1, a2, a3⟩ := ok_lines hE h1
    rw [full_get _ _ _ h2]
    simp only [if_true]
    exact endN_max _ _ a2 (by simpa [stN] using a3)
  | v + 1, h1, h2 => by
    have ih := full_ahead hc hE v (by omega) (by omega)
    obtain ⟨a1, a2, a3⟩ := ok_lines hE h1
    rw [full_get _ _ _ h2, if_neg (by omega), Nat.add_sub_cancel]
    have e : stN E (v + 1) = E.getD v 0 := by simp [stN]
    rw [e] at a1 a3
    have hlt : (fullE w ws ws.length 0).getD v 0 < ws.length ∨ (fullE w ws ws.length 0).getD v 0 = ws.length ∨ ws.length < (fullE w ws ws.length 0).getD v 0 := by omega
    rcases hlt with h | h | h
    · by_cases hle : (fullE w ws ws.length 0).getD v 0 ≤ E.getD (v + 1) 0
      · exact endN_mono hc ih h hle a2 a3
      · have := endN_range hc h ws.length h
        omega
    · have hb := full_get (w := w) (ws := ws) ws.length 0 (v + 1) h2
      rw [if_neg (by omega), Nat.add_sub_cancel, h] at hb
      rw [h]
      -- there is no further line
      exfalso
      have hmem : ∀ (f fr v : Nat), v + 1 < (fullE w ws f fr).length → (fullE w ws f fr).getD v 0 < ws.length := by
        intro f
        induction f with
        | zero => intro fr v h; simp [fullE] at h
        | succ f ih2 =>
          intro fr v h
          unfold fullE at h ⊢
          split at h
          · rename_i hl
            rw [if_pos hl]
            cases v with
            | zero =>
              rw [List.getD_cons_zero]
              by_cases hd : endN w ws fr ws.length < ws.length
              · exact hd
              · have := endN_range hc hl ws.length hl
                have he : endN w ws fr ws.length = ws.length := by omega
                rw [he, fullE_done] at h
                simp at h
            | succ v =>
              rw [List.getD_cons_succ]
              exact ih2 _ v (by simpa using h)
          · simp at h
      have := hmem _ _ _ h2
      omega
    · exfalso
      have hv : v < (fullE w ws ws.length 0).length := by omega
      have hb := full_get (w := w) (ws := ws) ws.length 0 v hv
      have : ∀ m i, endN w ws i m ≤ m := by
        intro m
        induction m with
        | zero => intro i; simp [endN]
        | succ m ih3 =>
          intro i
          unfold endN
          split
          · have := ih3 i; omega
          · omega
      have := this ws.length (if v = 0 then 0 else (fullE w ws ws.length 0).getD (v - 1) 0)
      omega
/-- No ends have fewer lines. -/
theorem full_fewest {w : Int} {ws : List Int} (hc : chk w ws = 0) {E : List Nat} (hE : okEnds w ws E) : (fullE w ws ws.length 0).length ≤ E.length := by
  have hn := chk_ok hc
  have hne : E ≠ [] := by
    rintro rfl
    have := hE.2.1
    simp at this
    omega
  have hl : 0 < E.length := List.length_pos_iff.2 hne
  by_cases h : (fullE w ws ws.length 0).length ≤ E.length
  · exact h
  · exfalso
    have h1 := full_ahead hc hE (E.length - 1) (by omega) (by omega)
    rw [getD_last E hne, hE.2.1] at h1
    -- a full line that ends with the last word is the last
    have hmem : ∀ (f fr v : Nat), v + 1 < (fullE w ws f fr).length → (fullE w ws f fr).getD v 0 < ws.length := by
      intro f
      induction f with
      | zero => intro fr v h; simp [fullE] at h
      | succ f ih2 =>
        intro fr v h
        unfold fullE at h ⊢
        split at h
        · rename_i hl
          rw [if_pos hl]
          cases v with
          | zero =>
            rw [List.getD_cons_zero]
            by_cases hd : endN w ws fr ws.length < ws.length
            · exact hd
            · have := endN_range hc hl ws.length hl
              have he : endN w ws fr ws.length = ws.length := by omega
              rw [he, fullE_done] at h
              simp at h
          | succ v =>
            rw [List.getD_cons_succ]
            exact ih2 _ v (by simpa using h)
        · simp at h
    have := hmem ws.length 0 (E.length - 1) (by omega)
    omega
end Line

/- The first best ends fit. -/
set_option linter.unusedVariables false
namespace Line
theorem stepR_fit {w : Int} {ws : List Int} {n : Nat} {R : Nat → Best} {i j : Nat} (hj : j ≤ n) {acc : Best} (ha : acc.2.2 = 0 ∨ 0 ≤ lf w ws i acc.2.1) : (stepR w ws n R i j acc).2.2 = 0 ∨ 0 ≤ lf w ws i (stepR w ws n R i j acc).2.1 := by
  unfold stepR
  split
  · exact ha
  · rename_i hnn
    by_cases hjn : j < n
    · simp only [hjn, if_true]
      split
      · exact .inr (Int.not_lt.1 hnn)
      · split
        · exact .inr (Int.not_lt.1 hnn)
        · exact ha
    · have : j = n := by omega
      subst this
      simp only [hjn, if_false]
      split
      · exact .inr (Int.not_lt.1 hnn)
      · split
        · exact .inr (Int.not_lt.1 hnn)
        · exact ha
theorem scanR_fit {w : Int} {ws : List Int} {n : Nat} {R : Nat → Best} {i : Nat} : ∀ (m : Nat) (acc : Best), i + m ≤ n → (acc.2.2 = 0 ∨ 0 ≤ lf w ws i acc.2.1) → (scanR w ws n R i m acc).2.2 = 0 ∨ 0 ≤ lf w ws i (scanR w ws n R i m acc).2.1
  | 0, acc, _, h => h
  | m + 1, acc, hm, h => scanR_fit m _ (by omega) (stepR_fit (by omega) h)
theorem rst_fit {w : Int} {ws : List Int} : ∀ (k : Nat), k ≤ ws.length → ∀ i, ws.length - k ≤ i → i < ws.length → ((rst w ws ws.length k).getD (i - (ws.length - k)) (0, 0, 0)).2.2 = 0 ∨ 0 ≤ lf w ws i ((rst w ws ws.length k).getD (i - (ws.length - k)) (0, 0, 0)).2.1
  | 0, _ => by intro i h1 h2; omega
  | k + 1, hk => by
    intro i h1 h2
    by_cases hi : i = ws.length - (k + 1)
    · have := scanR_fit (w := w) (ws := ws) (n := ws.length) (R := fun j => (rst w ws ws.length k).getD (j - (ws.length - k)) (0, 0, 0)) (i := i) (k + 1) (0, 0, 0) (by omega) (.inl rfl)
      rw [hi] at this ⊢
      simpa only [rst, Nat.sub_self, List.getD_cons_zero] using this
    · have := rst_fit (w := w) k (by omega) i (by omega) h2
      rw [show i - (ws.length - (k + 1)) = (i - (ws.length - k)) + 1 by omega]
      simpa only [rst, List.getD_cons_succ] using this
theorem firstE_ok {w : Int} {ws : List Int} (hc : chk w ws = 0) : ∀ (f fr : Nat) (E : List Nat), prt w ws E → E.getLastD 0 = fr → fr ≤ ws.length → ws.length - fr ≤ f → okEnds w ws (E ++ firstE (rst w ws ws.length ws.length) ws.length f fr)
  | 0, fr, E, hp, he, hn, hf => by
    rw [firstE, List.append_nil]
    exact ⟨hp.1, by omega, hp.2⟩
  | f + 1, fr, E, hp, he, hn, hf => by
    unfold firstE
    split
    · rename_i hlt
      have h1 := rst_end hc ws.length (Nat.le_refl _) fr (by omega) hlt
      have h2 := rst_fit (w := w) (ws := ws) ws.length (Nat.le_refl _) fr (by omega) hlt
      rw [Nat.sub_self, Nat.sub_zero] at h1 h2
      generalize ((rst w ws ws.length ws.length).getD fr (0, 0, 0)) = b at *
      have h3 : 0 ≤ lf w ws fr b.2.1 := by
        rcases h2 with h2 | h2
        · omega
        · exact h2
      have := firstE_ok hc f b.2.1 (E ++ [b.2.1]) (part_snoc hp (by omega) h1.2.1 (by rw [he]; exact h3)) (lastD_snoc _ _) h1.2.1 (by omega)
      rwa [List.append_assoc, List.singleton_append] at this
    · rw [List.append_nil]
      exact ⟨hp.1, by omega, hp.2⟩
end Line

/- All ends of the first words. -/
set_option linter.unusedVariables false
namespace Line
theorem lastD_one (E : List Nat) (j : Nat) : (E ++ [j]).getLastD 0 = j := by simp
/-- All ends for the first 'n' words from a place on whose lines fit, in ascending order. -/
def extM (w : Int) (ws : List Int) (n : Nat) : Nat → Nat → List (List Nat)
  | 0, fr => if fr = n then [[]] else []
  | f + 1, fr => if fr = n then [[]] else (List.range (n - fr)).flatMap fun d => if lf w ws fr (fr + 1 + d) < 0 then [] else (extM w ws n f (fr + 1 + d)).map (fun G => (fr + 1 + d) :: G)
def extMTo (w : Int) (ws : List Int) (n f fr m : Nat) : List (List Nat) := (List.range m).flatMap fun d => if lf w ws fr (fr + 1 + d) < 0 then [] else (extM w ws n f (fr + 1 + d)).map (fun G => (fr + 1 + d) :: G)
theorem extMTo_succ (w : Int) (ws : List Int) (n f fr m : Nat) : extMTo w ws n f fr (m + 1) = extMTo w ws n f fr m ++ if lf w ws fr (fr + 1 + m) < 0 then [] else (extM w ws n f (fr + 1 + m)).map (fun G => (fr + 1 + m) :: G) := by
  unfold extMTo
  rw [List.range_succ, List.flatMap_append]
  simp
theorem extM_succ {w : Int} {ws : List Int} {n f fr : Nat} (h : fr ≠ n) : extM w ws n (f + 1) fr = extMTo w ws n f fr (n - fr) := by
  rw [extM, if_neg h]; rfl
theorem extM_done {w : Int} {ws : List Int} {n f : Nat} : extM w ws n f n = [[]] := by cases f <;> simp [extM]
theorem extMTo_len {w : Int} {ws : List Int} {n f fr B : Nat} (hB : ∀ j, (extM w ws n f j).length ≤ B) : ∀ m, (extMTo w ws n f fr m).length ≤ m * B
  | 0 => by simp [extMTo]
  | m + 1 => by
    have ih := extMTo_len (fr := fr) hB m
    rw [extMTo_succ, List.length_append, Nat.add_mul, Nat.one_mul]
    split
    · simp; omega
    · have := hB (fr + 1 + m)
      simp; omega
theorem extM_len {w : Int} {ws : List Int} {n : Nat} (hn : n ≤ 10) : ∀ (f fr : Nat), (extM w ws n f fr).length ≤ 10 ^ f
  | 0, fr => by unfold extM; split <;> simp
  | f + 1, fr => by
    have hp : 1 ≤ 10 ^ (f + 1) := Nat.one_le_pow _ _ (by decide)
    by_cases h : fr = n
    · subst h; rw [extM_done]; simpa using hp
    · rw [extM_succ h]
      have := extMTo_len (w := w) (ws := ws) (n := n) (f := f) (fr := fr) (fun j => extM_len hn f j) (n - fr)
      have h2 : (n - fr) * 10 ^ f ≤ 10 * 10 ^ f := Nat.mul_le_mul_right _ (by omega)
      rw [Nat.pow_succ, Nat.mul_comm (10 ^ f) 10]
      omega
end Line

/- Chains of lines: membership, cost; what 'even' gives is what is known of the places. -/
set_option linter.unusedVariables false
namespace Line
theorem snoc_ind {P : List Nat → Prop} (h0 : P []) (h1 : ∀ G j, P G → P (G ++ [j])) (F : List Nat) : P F := by
  have : ∀ l : List Nat, P l.reverse := by
    intro l
    induction l with
    | nil => exact h0
    | cons a l ih => rw [List.reverse_cons]; exact h1 _ _ ih
  have := this F.reverse
  rwa [List.reverse_reverse] at this
/-- Lines from a place on, that fit. -/
def chn (w : Int) (ws : List Int) : Nat → List Nat → Prop
  | _, [] => True
  | fr, j :: G => fr < j ∧ 0 ≤ lf w ws fr j ∧ chn w ws j G
theorem chn_snoc {w : Int} {ws : List Int} : ∀ {G : List Nat} {fr j : Nat}, chn w ws fr (G ++ [j]) ↔ chn w ws fr G ∧ G.getLastD fr < j ∧ 0 ≤ lf w ws (G.getLastD fr) j
  | [], fr, j => by simp [chn]
  | a :: G, fr, j => by
    rw [List.cons_append, chn, chn, chn_snoc (G := G), List.getLastD_cons]
    constructor
    · rintro ⟨h1, h2, h3, h4, h5⟩; exact ⟨⟨h1, h2, h3⟩, h4, h5⟩
    · rintro ⟨⟨h1, h2, h3⟩, h4, h5⟩; exact ⟨h1, h2, h3, h4, h5⟩
theorem chn_le {w : Int} {ws : List Int} : ∀ {G : List Nat} {fr : Nat}, chn w ws fr G → fr ≤ G.getLastD fr
  | [], fr, _ => by simp
  | a :: G, fr, h => by
    rw [List.getLastD_cons]
    have := chn_le h.2.2
    have := h.1
    omega
theorem mem_extM {w : Int} {ws : List Int} {n : Nat} : ∀ (f fr : Nat) (F : List Nat), fr ≤ n → n - fr ≤ f → (F ∈ extM w ws n f fr ↔ chn w ws fr F ∧ F.getLastD fr = n)
  | 0, fr, F, hn, hf => by
    have : fr = n := by omega
    subst this
    rw [extM_done, List.mem_singleton]
    constructor
    · rintro rfl; exact ⟨trivial, rfl⟩
    · rintro ⟨h1, h2⟩
      cases F with
      | nil => rfl
      | cons a G =>
        have := chn_le h1.2.2
        have := h1.1
        rw [List.getLastD_cons] at h2
        omega
  | f + 1, fr, F, hn, hf => by
    by_cases h : fr = n
    · subst h
      rw [extM_done, List.mem_singleton]
      constructor
      · rintro rfl; exact ⟨trivial, rfl⟩
      · rintro ⟨h1, h2⟩
        cases F with
        | nil => rfl
        | cons a G =>
          have := chn_le h1.2.2
          have := h1.1
          rw [List.getLastD_cons] at h2
          omega
    · rw [extM_succ h]
      unfold extMTo
      rw [List.mem_flatMap]
      constructor
      · rintro ⟨d, hd, hF⟩
        have hd := List.mem_range.1 hd
        split at hF
        · simp at hF
        · rename_i hnn
          obtain ⟨G, hG, rfl⟩ := List.mem_map.1 hF
          obtain ⟨g1, g2⟩ := (mem_extM f (fr + 1 + d) G (by omega) (by omega)).1 hG
          refine ⟨⟨by omega, by omega, g1⟩, ?_⟩
          rw [List.getLastD_cons]; exact g2
      · rintro ⟨h1, h2⟩
        cases F with
        | nil => simp at h2; omega
        | cons a G =>
          obtain ⟨g1, g2, g3⟩ := h1
          rw [List.getLastD_cons] at h2
          have hle := chn_le g3
          refine ⟨a - fr - 1, List.mem_range.2 (by omega), ?_⟩
          rw [show fr + 1 + (a - fr - 1) = a by omega, if_neg (by omega), List.mem_map]
          exact ⟨G, (mem_extM f a G (by omega) (by omega)).2 ⟨g3, h2⟩, rfl⟩
/-- What lines cost. -/
def cst (w : Int) (ws : List Int) : Nat → List Nat → Int
  | _, [] => 0
  | fr, j :: G => sqf w ws fr j + cst w ws j G
theorem cst_snoc {w : Int} {ws : List Int} : ∀ {G : List Nat} {fr j : Nat}, cst w ws fr (G ++ [j]) = cst w ws fr G + sqf w ws (G.getLastD fr) j
  | [], fr, j => by simp [cst]
  | a :: G, fr, j => by
    rw [List.cons_append, cst, cst, cst_snoc (G := G), List.getLastD_cons]; omega
/-- The same, but for the last line. -/
def cstL (w : Int) (ws : List Int) : Nat → List Nat → Int
  | _, [] => 0
  | fr, [j] => 0
  | fr, j :: k :: G => sqf w ws fr j + cstL w ws j (k :: G)
theorem cstL_snoc {w : Int} {ws : List Int} : ∀ {G : List Nat} {fr j : Nat}, cstL w ws fr (G ++ [j]) = cst w ws fr G
  | [], fr, j => by simp [cst, cstL]
  | [a], fr, j => by simp [cst, cstL]
  | a :: b :: G, fr, j => by
    rw [List.cons_append, List.cons_append, cstL, ← List.cons_append, cstL_snoc (G := b :: G)]
    simp only [cst]
theorem wantE_append {w : Int} {ws : List Int} {G r : List Nat} {m : Nat} : ∀ i, i ≤ G.length → wantE w ws (G ++ r) m i = wantE w ws G m i
  | 0, _ => rfl
  | i + 1, h => by
    rw [wantE, wantE, wantE_append i (by omega), getD_append_lt (by omega)]
    have : stN (G ++ r) i = stN G i := by
      unfold stN
      split
      · rfl
      · rw [getD_append_lt (by omega)]
    rw [this]
theorem want_cst {w : Int} {ws : List Int} (F : List Nat) : wantE w ws F F.length F.length = cst w ws 0 F := by
  refine snoc_ind (P := fun F => wantE w ws F F.length F.length = cst w ws 0 F) rfl (fun G j ih => ?_) F
  rw [cst_snoc, ← ih, List.length_append, List.length_singleton, wantE, if_pos (by omega), stN_append, wantE_append _ (Nat.le_refl _), wantE_m (m' := G.length) (by omega) (Nat.le_refl _)]
  congr 2
  rw [List.getD_eq_getElem?_getD, List.getElem?_append_right (Nat.le_refl _)]
  simp
theorem want_cstL {w : Int} {ws : List Int} {F : List Nat} (hne : F ≠ []) : wantE w ws F (F.length - 1) (F.length - 1) = cstL w ws 0 F := by
  revert hne
  refine snoc_ind (P := fun F => F ≠ [] → wantE w ws F (F.length - 1) (F.length - 1) = cstL w ws 0 F) (fun h => absurd rfl h) (fun G j _ _ => ?_) F
  rw [cstL_snoc, List.length_append, List.length_singleton, Nat.add_sub_cancel, wantE_append _ (Nat.le_refl _), want_cst]
theorem chn_asc {w : Int} {ws : List Int} {n : Nat} (F : List Nat) : chn w ws 0 F → F.getLastD 0 ≤ n → asc n 0 (up F) := by
  refine snoc_ind (P := fun F => chn w ws 0 F → F.getLastD 0 ≤ n → asc n 0 (up F)) (fun _ _ => trivial) (fun G j ih h1 h2 => ?_) F
  obtain ⟨g1, g2, g3⟩ := chn_snoc.1 h1
  rw [lastD_one] at h2
  rw [up_snoc]
  exact asc_snoc (ih g1 (by omega)) (by rw [up_lastD]; omega) (by omega) (by omega)
theorem chn_lines {w : Int} {ws : List Int} {n : Nat} {F : List Nat} (h : chn w ws 0 F) (hl : F.getLastD 0 ≤ n) : ∀ k, k < F.length → stN F k < F.getD k 0 ∧ F.getD k 0 ≤ n ∧ stN F k ≤ n := by
  intro k hk
  have ha := chn_asc F h hl
  have h1 := stN_lt ha (k := k) (by simpa using hk)
  rw [toN_up] at h1
  have h2 : F.getD k 0 ≤ n := by
    have := asc_le ha ((F.getD k 0 : Nat) : Int) (by rw [← up_getD, List.getD_eq_getElem?_getD]; simp [hk])
    omega
  omega
theorem chn_length {w : Int} {ws : List Int} : ∀ {F : List Nat} {fr : Nat}, chn w ws fr F → F.length + fr ≤ F.getLastD fr
  | [], fr, _ => by simp
  | a :: G, fr, h => by
    have := chn_length h.2.2
    have := h.1
    rw [List.getLastD_cons, List.length_cons]; omega
/-- Where the last line begins. -/
def lastSt (F : List Nat) : Nat := stN F (F.length - 1)
theorem lastSt_snoc (G : List Nat) (j : Nat) : lastSt (G ++ [j]) = G.getLastD 0 := by
  unfold lastSt
  rw [List.length_append, List.length_singleton, Nat.add_sub_cancel, stN_append]
/-- The least cost, and the smallest start for it. -/
def lex (w : Int) (ws : List Int) (L : List (List Nat)) (r : Int × Nat) : Prop :=
  (∃ F ∈ L, cst w ws 0 F = r.1 ∧ lastSt F = r.2) ∧ ∀ F ∈ L, r.1 < cst w ws 0 F ∨ (r.1 = cst w ws 0 F ∧ r.2 ≤ lastSt F)
theorem lex_unique {w : Int} {ws : List Int} {L : List (List Nat)} {r r' : Int × Nat} (h : lex w ws L r) (h' : lex w ws L r') : r = r' := by
  obtain ⟨⟨F, a1, a2, a3⟩, a4⟩ := h
  obtain ⟨⟨F', b1, b2, b3⟩, b4⟩ := h'
  have h1 := a4 F' b1
  have h2 := b4 F a1
  rw [b2, b3] at h1
  rw [a2, a3] at h2
  exact Prod.ext (by omega) (by omega)
/-- The places know the least costs. -/
theorem pls_lex {w : Int} {ws : List Int} (hc : chk w ws = 0) : ∀ n, n ≤ ws.length → 1 ≤ n → lex w ws (extM w ws n n 0) ((pls w ws n).getD n (0, 0)) := by
  have key : ∀ n, n ≤ ws.length → (∃ F ∈ extM w ws n n 0, cst w ws 0 F = ((pls w ws n).getD n (0, 0)).1) ∧ (∀ F ∈ extM w ws n n 0, ((pls w ws n).getD n (0, 0)).1 ≤ cst w ws 0 F) ∧ (1 ≤ n → lex w ws (extM w ws n n 0) ((pls w ws n).getD n (0, 0))) := by
    intro n
    induction n using Nat.strongRecOn with
    | _ n ih =>
      intro hn
      cases n with
      | zero =>
        rw [extM_done]
        refine ⟨⟨[], by simp, rfl⟩, fun F hF => ?_, fun h => by omega⟩
        rw [List.mem_singleton] at hF; subst hF
        simp [pls, cst]
      | succ k =>
        have hb := pls_bst hc (k := k) (by omega)
        generalize (pls w ws (k + 1)).getD (k + 1) (0, 0) = r at *
        obtain ⟨b1, b2, b3, b4⟩ := hb
        have hP : ∀ s, s ≤ k → ((pls w ws k).getD s (0, 0)) = (pls w ws s).getD s (0, 0) := fun s hs => by
          have := pls_get (w := w) (ws := ws) (k := s) (m := s) (Nat.le_refl _) (k - s)
          rwa [show s + (k - s) = k by omega] at this
        have hall : ∀ F ∈ extM w ws (k + 1) (k + 1) 0, r.1 < cst w ws 0 F ∨ (r.1 = cst w ws 0 F ∧ r.2 ≤ lastSt F) := by
          intro F hF
          obtain ⟨h1, h2⟩ := (mem_extM (k + 1) 0 F (by omega) (by omega)).1 hF
          revert h1 h2
          refine snoc_ind (P := fun F => chn w ws 0 F → F.getLastD 0 = k + 1 → r.1 < cst w ws 0 F ∨ (r.1 = cst w ws 0 F ∧ r.2 ≤ lastSt F)) (fun _ h => by simp at h) (fun G j _ h1 h2 => ?_) F
          rw [lastD_one] at h2
          subst h2
          obtain ⟨g1, g2, g3⟩ := chn_snoc.1 h1
          rw [cst_snoc, lastSt_snoc]
          generalize hs : G.getLastD 0 = s at *
          have hG : G ∈ extM w ws s s 0 := (mem_extM s 0 G (by omega) (by omega)).2 ⟨g1, hs⟩
          have h3 := (ih s g2 (by omega)).2.1 G hG
          have h4 := b4 s g2 g3
          unfold costL at h4
          rw [hP s (by omega)] at h4
          by_cases hlt : s < r.2
          · have := h4.2 hlt; left; omega
          · have := h4.1
            by_cases he : r.1 = cst w ws 0 G + sqf w ws s (k + 1)
            · exact .inr ⟨he, by omega⟩
            · exact .inl (by omega)
        have hex : ∃ F ∈ extM w ws (k + 1) (k + 1) 0, cst w ws 0 F = r.1 ∧ lastSt F = r.2 := by
          obtain ⟨G, hG, hcG⟩ := (ih r.2 b1 (by omega)).1
          obtain ⟨g1, g2⟩ := (mem_extM r.2 0 G (by omega) (by omega)).1 hG
          refine ⟨G ++ [k + 1], (mem_extM (k + 1) 0 _ (by omega) (by omega)).2 ⟨chn_snoc.2 ⟨g1, by omega, by rw [g2]; exact b2⟩, lastD_one _ _⟩, ?_, ?_⟩
          · rw [cst_snoc, hcG, g2, b3]
            unfold costL
            rw [hP r.2 (by omega)]
          · rw [lastSt_snoc, g2]
        refine ⟨?_, fun F hF => ?_, fun _ => ⟨hex, hall⟩⟩
        · obtain ⟨F, h1, h2, _⟩ := hex; exact ⟨F, h1, h2⟩
        · rcases hall F hF with h | h <;> omega
  exact fun n hn h1 => (key n hn).2.2 h1
end Line

/- Best ends: what is known of the rests, and all ends. -/
set_option linter.unusedVariables false
namespace Line
/-- The least cost in a list, how many cost that, and the first of these. -/
def bestOf (c : List Nat → Int) (L : List (List Nat)) (m : Int) (y : Nat) (F : List Nat) : Prop :=
  (∀ G ∈ L, m ≤ c G) ∧ (L.filter fun G => decide (c G = m)).length = y ∧ (L.filter fun G => decide (c G = m)).head? = some F
theorem filter_none {c : List Nat → Int} {L : List (List Nat)} {m m' : Int} (h : ∀ G ∈ L, m ≤ c G) (hlt : m' < m) : (L.filter fun G => decide (c G = m')) = [] := by
  rw [List.filter_eq_nil_iff]
  intro G hG
  have := h G hG
  simp; omega
theorem bestOf_lt {c : List Nat → Int} {L D : List (List Nat)} {m m' : Int} {y y' : Nat} {F F' : List Nat} (h : bestOf c L m y F) (h' : bestOf c D m' y' F') (hlt : m < m') : bestOf c (L ++ D) m y F := by
  obtain ⟨a1, a2, a3⟩ := h
  obtain ⟨b1, b2, b3⟩ := h'
  have hn := filter_none b1 hlt
  refine ⟨fun G hG => ?_, ?_, ?_⟩
  · rcases List.mem_append.1 hG with hG | hG
    · exact a1 G hG
    · have := b1 G hG; omega
  · rw [List.filter_append, hn, List.append_nil]; exact a2
  · rw [List.filter_append, hn, List.append_nil]; exact a3
theorem bestOf_eq {c : List Nat → Int} {L D : List (List Nat)} {m : Int} {y y' : Nat} {F F' : List Nat} (h : bestOf c L m y F) (h' : bestOf c D m y' F') : bestOf c (L ++ D) m (y' + y) F := by
  obtain ⟨a1, a2, a3⟩ := h
  obtain ⟨b1, b2, b3⟩ := h'
  refine ⟨fun G hG => ?_, ?_, ?_⟩
  · rcases List.mem_append.1 hG with hG | hG
    · exact a1 G hG
    · exact b1 G hG
  · rw [List.filter_append, List.length_append, a2, b2]; omega
  · rw [List.filter_append, List.head?_append, a3]; rfl
theorem bestOf_gt {c : List Nat → Int} {L D : List (List Nat)} {m m' : Int} {y y' : Nat} {F F' : List Nat} (h : bestOf c L m y F) (h' : bestOf c D m' y' F') (hlt : m' < m) : bestOf c (L ++ D) m' y' F' := by
  obtain ⟨a1, a2, a3⟩ := h
  obtain ⟨b1, b2, b3⟩ := h'
  have hn := filter_none a1 hlt
  refine ⟨fun G hG => ?_, ?_, ?_⟩
  · rcases List.mem_append.1 hG with hG | hG
    · have := a1 G hG; omega
    · exact b1 G hG
  · rw [List.filter_append, hn, List.nil_append]; exact b2
  · rw [List.filter_append, hn, List.nil_append]; exact b3
theorem bestOf_unique {c : List Nat → Int} {L : List (List Nat)} {m m' : Int} {y y' : Nat} {F F' : List Nat} (h : bestOf c L m y F) (h' : bestOf c L m' y' F') : m = m' ∧ y = y' ∧ F = F' := by
  obtain ⟨a1, a2, a3⟩ := h
  obtain ⟨b1, b2, b3⟩ := h'
  have e : ∀ {m : Int} {F : List Nat}, (L.filter fun G => decide (c G = m)).head? = some F → F ∈ L ∧ c F = m := by
    intro m F h
    have := List.mem_of_mem_head? h
    rw [List.mem_filter] at this
    exact ⟨this.1, of_decide_eq_true this.2⟩
  obtain ⟨c1, c2⟩ := e a3
  obtain ⟨d1, d2⟩ := e b3
  have h1 := a1 F' d1
  have h2 := b1 F c1
  have hm : m = m' := by omega
  subst hm
  refine ⟨rfl, by omega, ?_⟩
  rw [a3] at b3; cases b3; rfl
/-- With one line more in front. -/
theorem bestOf_cons {w : Int} {ws : List Int} {i j : Nat} {L : List (List Nat)} {m : Int} {y : Nat} {F : List Nat} (hne : ∀ G ∈ L, G ≠ []) (h : bestOf (cstL w ws j) L m y F) :
    bestOf (cstL w ws i) (L.map fun G => j :: G) (sqf w ws i j + m) y (j :: F) := by
  obtain ⟨a1, a2, a3⟩ := h
  have hc : ∀ G ∈ L, cstL w ws i (j :: G) = sqf w ws i j + cstL w ws j G := by
    intro G hG
    cases G with
    | nil => exact absurd rfl (hne _ hG)
    | cons a G => rfl
  have hf : ((L.map fun G => j :: G).filter fun G => decide (cstL w ws i G = sqf w ws i j + m)) = (L.filter fun G => decide (cstL w ws j G = m)).map fun G => j :: G := by
    rw [List.filter_map]
    congr 1
    refine List.filter_congr fun G hG => ?_
    simp only [Function.comp]
    rw [hc G hG]
    congr 1
    exact propext ⟨fun h => by omega, fun h => by omega⟩
  refine ⟨fun G hG => ?_, ?_, ?_⟩
  · obtain ⟨G', hG', rfl⟩ := List.mem_map.1 hG
    have := a1 G' hG'
    have := hc G' hG'
    omega
  · rw [hf, List.length_map]; exact a2
  · rw [hf, List.head?_map, a3]; rfl
theorem extM_ne {w : Int} {ws : List Int} {n f fr : Nat} (hn : fr < n) (hf : n - fr ≤ f) : ∀ G ∈ extM w ws n f fr, G ≠ [] := by
  rintro G hG rfl
  obtain ⟨_, h⟩ := (mem_extM f fr [] (by omega) hf).1 hG
  simp at h; omega
/-- The fuel does not matter. -/
theorem extM_fuel {w : Int} {ws : List Int} {n : Nat} : ∀ (f f' fr : Nat), fr ≤ n → n - fr ≤ f → n - fr ≤ f' → extM w ws n f fr = extM w ws n f' fr
  | 0, f', fr, hn, h, h' => by
    have : fr = n := by omega
    subst this; rw [extM_done, extM_done]
  | f + 1, 0, fr, hn, h, h' => by
    have : fr = n := by omega
    subst this; rw [extM_done, extM_done]
  | f + 1, f' + 1, fr, hn, h, h' => by
    by_cases he : fr = n
    · subst he; rw [extM_done, extM_done]
    · rw [extM_succ he, extM_succ he]
      unfold extMTo
      have : ∀ d, d ∈ List.range (n - fr) → (if lf w ws fr (fr + 1 + d) < 0 then [] else (extM w ws n f (fr + 1 + d)).map (fun G => (fr + 1 + d) :: G)) = (if lf w ws fr (fr + 1 + d) < 0 then [] else (extM w ws n f' (fr + 1 + d)).map (fun G => (fr + 1 + d) :: G)) := by
        intro d hd
        have hd := List.mem_range.1 hd
        rw [extM_fuel f f' (fr + 1 + d) (by omega) (by omega) (by omega)]
      rw [List.flatMap_def, List.flatMap_def, List.map_congr_left this]
/-- The groups from a place on. -/
def extFrom (w : Int) (ws : List Int) (n f fr : Nat) : Nat → Nat → List (List Nat)
  | 0, _ => []
  | k + 1, m => (if lf w ws fr (fr + 1 + m) < 0 then [] else (extM w ws n f (fr + 1 + m)).map (fun G => (fr + 1 + m) :: G)) ++ extFrom w ws n f fr k (m + 1)
theorem extFrom_to (w : Int) (ws : List Int) (n f fr : Nat) : ∀ k m, extMTo w ws n f fr (m + k) = extMTo w ws n f fr m ++ extFrom w ws n f fr k m
  | 0, m => by simp [extFrom]
  | k + 1, m => by
    rw [extFrom, ← List.append_assoc, ← extMTo_succ, ← extFrom_to w ws n f fr k (m + 1)]
    congr 1; omega
theorem extMTo_all (w : Int) (ws : List Int) (n f fr k : Nat) : extMTo w ws n f fr k = extFrom w ws n f fr k 0 := by
  have := extFrom_to w ws n f fr k 0
  rw [Nat.zero_add] at this
  rw [this]; simp [extMTo]
end Line
namespace Line
/-- The best from a place, told three ways: cost, first end, ways; and its ends. -/
def isRow (w : Int) (ws : List Int) (n i : Nat) (b : Best) (F : List Nat) : Prop := bestOf (cstL w ws i) (extM w ws n (n - i) i) b.1 b.2.2 F ∧ F.head? = some b.2.1 ∧ 1 ≤ b.2.2
theorem scanR_best {w : Int} {ws : List Int} (hc : chk w ws = 0) {i : Nat} (hi : i < ws.length) {R : Nat → Best} {FR : Nat → List Nat} (hR : ∀ j, i < j → j < ws.length → isRow w ws ws.length j (R j) (FR j)) :
    ∀ (m k : Nat) (acc : Best) (Fa : List Nat), i + m + k = ws.length → ((acc = (0, 0, 0) ∧ extFrom w ws ws.length (ws.length - i - 1) i k m = []) ∨ (bestOf (cstL w ws i) (extFrom w ws ws.length (ws.length - i - 1) i k m) acc.1 acc.2.2 Fa ∧ Fa.head? = some acc.2.1 ∧ (acc.2.1 < ws.length → Fa.tail = FR acc.2.1) ∧ (acc.2.1 = ws.length → Fa = [ws.length]) ∧ 1 ≤ acc.2.2)) →
      ∃ F, (scanR w ws ws.length R i m acc = (0, 0, 0) ∧ extFrom w ws ws.length (ws.length - i - 1) i (m + k) 0 = []) ∨ (bestOf (cstL w ws i) (extFrom w ws ws.length (ws.length - i - 1) i (m + k) 0) (scanR w ws ws.length R i m acc).1 (scanR w ws ws.length R i m acc).2.2 F ∧ F.head? = some (scanR w ws ws.length R i m acc).2.1 ∧
        ((scanR w ws ws.length R i m acc).2.1 < ws.length → F.tail = FR (scanR w ws ws.length R i m acc).2.1) ∧ ((scanR w ws ws.length R i m acc).2.1 = ws.length → F = [ws.length]) ∧ 1 ≤ (scanR w ws ws.length R i m acc).2.2)
  | 0, k, acc, Fa, _, h => ⟨Fa, by simpa [scanR] using h⟩
  | m + 1, k, acc, Fa, hmk, h => by
    have step : ∃ Fb, (stepR w ws ws.length R i (i + m + 1) acc = (0, 0, 0) ∧ extFrom w ws ws.length (ws.length - i - 1) i (k + 1) m = []) ∨ (bestOf (cstL w ws i) (extFrom w ws ws.length (ws.length - i - 1) i (k + 1) m) (stepR w ws ws.length R i (i + m + 1) acc).1 (stepR w ws ws.length R i (i + m + 1) acc).2.2 Fb ∧ Fb.head? = some (stepR w ws ws.length R i (i + m + 1) acc).2.1 ∧
        ((stepR w ws ws.length R i (i + m + 1) acc).2.1 < ws.length → Fb.tail = FR (stepR w ws ws.length R i (i + m + 1) acc).2.1) ∧ ((stepR w ws ws.length R i (i + m + 1) acc).2.1 = ws.length → Fb = [ws.length]) ∧ 1 ≤ (stepR w ws ws.length R i (i + m + 1) acc).2.2) := by
      have hj : i + 1 + m = i + m + 1 := by omega
      rw [extFrom, hj]
      unfold stepR
      by_cases hneg : lf w ws i (i + m + 1) < 0
      · rw [if_pos hneg, if_pos hneg, List.nil_append]
        exact ⟨Fa, h⟩
      · rw [if_neg hneg, if_neg hneg]
        -- the group of this end
        have grp : ∃ (now : Best) (Fn : List Nat), (if i + m + 1 < ws.length then (sqf w ws i (i + m + 1) + (R (i + m + 1)).1, i + m + 1, (R (i + m + 1)).2.2) else (0, ws.length, 1) : Best) = now ∧ now.2.1 = i + m + 1 ∧
            bestOf (cstL w ws i) ((extM w ws ws.length (ws.length - i - 1) (i + m + 1)).map fun G => (i + m + 1) :: G) now.1 now.2.2 Fn ∧ Fn.head? = some (i + m + 1) ∧ (i + m + 1 < ws.length → Fn.tail = FR (i + m + 1)) ∧ (i + m + 1 = ws.length → Fn = [ws.length]) ∧ 1 ≤ now.2.2 := by
          by_cases hjn : i + m + 1 < ws.length
          · obtain ⟨r1, r2, r3⟩ := hR (i + m + 1) (by omega) hjn
            rw [extM_fuel (ws.length - (i + m + 1)) (ws.length - i - 1) (i + m + 1) (by omega) (by omega) (by omega)] at r1
            rw [if_pos hjn]
            exact ⟨_, (i + m + 1) :: FR (i + m + 1), rfl, rfl, bestOf_cons (extM_ne hjn (by omega)) r1, rfl, fun _ => rfl, fun h => by omega, r3⟩
          · have he : i + m + 1 = ws.length := by omega
            rw [if_neg hjn, he, extM_done]
            refine ⟨_, [ws.length], rfl, rfl, ⟨fun G hG => ?_, ?_, ?_⟩, rfl, fun h => by omega, fun _ => rfl, by simp⟩
            · simp at hG; subst hG; simp [cstL]
            · simp [cstL]
            · simp [cstL]
        obtain ⟨now, Fn, e1, e2, g1, g2, g3, g4, g5⟩ := grp
        simp only [e1]
        rcases h with ⟨rfl, h2⟩ | ⟨h1, h2, h3, h4, h5⟩
        · rw [if_pos (.inl rfl), h2, List.append_nil]
          exact ⟨Fn, .inr ⟨g1, by rw [e2]; exact g2, by rw [e2]; exact g3, by rw [e2]; exact g4, g5⟩⟩
        · by_cases hlt : now.1 < acc.1
          · rw [if_pos (.inr hlt)]
            exact ⟨Fn, .inr ⟨bestOf_lt g1 h1 hlt, by rw [e2]; exact g2, by rw [e2]; exact g3, by rw [e2]; exact g4, g5⟩⟩
          · rw [if_neg (by omega)]
            by_cases heq : now.1 = acc.1
            · rw [if_pos heq]
              rw [heq] at g1
              have := bestOf_eq g1 h1
              refine ⟨Fn, .inr ⟨by simp only; rw [heq]; exact this, g2, g3, g4, by simp only; omega⟩⟩
            · rw [if_neg heq]
              exact ⟨Fa, .inr ⟨bestOf_gt g1 h1 (by omega), h2, h3, h4, h5⟩⟩
    obtain ⟨Fb, hb⟩ := step
    have := scanR_best hc hi hR m (k + 1) _ Fb (by omega) hb
    rw [scanR]
    rwa [show m + 1 + k = m + (k + 1) by omega]
/-- The rests know the best of what is behind each place. -/
theorem rst_best {w : Int} {ws : List Int} (hc : chk w ws = 0) : ∀ i, i < ws.length → isRow w ws ws.length i ((rst w ws ws.length ws.length).getD i (0, 0, 0)) (firstE (rst w ws ws.length ws.length) ws.length (ws.length - i) i) := by
  have stay : ∀ k d j, ws.length - k ≤ j → (rst w ws ws.length (k + d)).getD (j - (ws.length - (k + d))) (0, 0, 0) = (rst w ws ws.length k).getD (j - (ws.length - k)) (0, 0, 0) ∨ ws.length < k + d := by
    intro k d
    induction d with
    | zero => intro j _; exact .inl rfl
    | succ d ih =>
      intro j hj
      by_cases h : ws.length < k + (d + 1)
      · exact .inr h
      · rcases ih j hj with e | e
        · left
          rw [← e, show k + (d + 1) = k + d + 1 by omega, rst, show j - (ws.length - (k + d + 1)) = (j - (ws.length - (k + d))) + 1 by omega, List.getD_cons_succ]
        · omega
  have main : ∀ k, ∀ i, i < ws.length → ws.length - i = k → isRow w ws ws.length i ((rst w ws ws.length ws.length).getD i (0, 0, 0)) (firstE (rst w ws ws.length ws.length) ws.length (ws.length - i) i) := by
    intro k
    induction k using Nat.strongRecOn with
    | _ k ih =>
      intro i hi hk
      have hrow : (rst w ws ws.length ws.length).getD i (0, 0, 0) = scanR w ws ws.length (fun j => (rst w ws ws.length (ws.length - (i + 1))).getD (j - (ws.length - (ws.length - (i + 1)))) (0, 0, 0)) i (ws.length - i) (0, 0, 0) := by
        have := stay (ws.length - i) i i (by omega)
        rcases this with e | e
        · rw [show ws.length - i + i = ws.length by omega, Nat.sub_self, Nat.sub_zero, show i - (ws.length - (ws.length - i)) = 0 by omega] at e
          rw [e]
          obtain ⟨m, hm⟩ : ∃ m, ws.length - i = m + 1 := ⟨ws.length - i - 1, by omega⟩
          have hm2 : ws.length - (i + 1) = m := by omega
          rw [hm, hm2, rst, List.getD_cons_zero, show ws.length - (m + 1) = i by omega]
        · omega
      have hR : ∀ j, i < j → j < ws.length → isRow w ws ws.length j ((fun j => (rst w ws ws.length (ws.length - (i + 1))).getD (j - (ws.length - (ws.length - (i + 1)))) (0, 0, 0)) j) (firstE (rst w ws ws.length ws.length) ws.length (ws.length - j) j) := by
        intro j h1 h2
        have := ih (ws.length - j) (by omega) j h2 rfl
        have e := stay (ws.length - (i + 1)) (i + 1) j (by omega)
        rcases e with e | e
        · rw [show ws.length - (i + 1) + (i + 1) = ws.length by omega, Nat.sub_self, Nat.sub_zero] at e
          simp only
          rw [← e]; exact this
        · omega
      obtain ⟨F, h⟩ := scanR_best hc hi (R := fun j => (rst w ws ws.length (ws.length - (i + 1))).getD (j - (ws.length - (ws.length - (i + 1)))) (0, 0, 0)) (FR := fun j => firstE (rst w ws ws.length ws.length) ws.length (ws.length - j) j) hR (ws.length - i) 0 (0, 0, 0) [] (by omega) (.inl ⟨rfl, rfl⟩)
      rw [← hrow] at h
      have hend := rst_end hc ws.length (Nat.le_refl _) i (by omega) hi
      rw [Nat.sub_self, Nat.sub_zero] at hend
      rcases h with ⟨h1, _⟩ | ⟨h1, h2, h3, h4, h5⟩
      · rw [h1] at hend; simp at hend
      · have hF : firstE (rst w ws ws.length ws.length) ws.length (ws.length - i) i = F := by
          obtain ⟨m, hm⟩ : ∃ m, ws.length - i = m + 1 := ⟨ws.length - i - 1, by omega⟩
          rw [hm, firstE, if_pos hi]
          generalize (rst w ws ws.length ws.length).getD i (0, 0, 0) = b at *
          cases F with
          | nil => simp at h2
          | cons a G =>
            simp only [List.head?_cons, Option.some.injEq] at h2
            subst h2
            congr 1
            by_cases hlt : b.2.1 < ws.length
            · have := h3 hlt
              simp only [List.tail_cons] at this
              rw [this]
              -- the fuel
              have fu : ∀ f f' at', at' ≤ ws.length → ws.length - at' ≤ f → ws.length - at' ≤ f' → firstE (rst w ws ws.length ws.length) ws.length f at' = firstE (rst w ws ws.length ws.length) ws.length f' at' := by
                intro f
                induction f with
                | zero =>
                  intro f' at' h0 h1 h2
                  have : at' = ws.length := by omega
                  subst this
                  cases f' <;> simp [firstE]
                | succ f ihf =>
                  intro f' at' h0 h1 h2
                  cases f' with
                  | zero =>
                    have : at' = ws.length := by omega
                    subst this
                    simp [firstE]
                  | succ f' =>
                    rw [firstE, firstE]
                    split
                    · rename_i hl
                      have he := rst_end hc ws.length (Nat.le_refl _) at' (by omega) hl
                      rw [Nat.sub_self, Nat.sub_zero] at he
                      rw [ihf f' _ he.2.1 (by omega) (by omega)]
                    · rfl
              exact fu _ _ _ (by omega) (by omega) (by omega)
            · have he : b.2.1 = ws.length := by omega
              have := h4 he
              simp only [List.cons.injEq] at this
              rw [this.2, he]
              cases m <;> simp [firstE]
        rw [hF]
        refine ⟨?_, h2, h5⟩
        obtain ⟨m, hm⟩ : ∃ m, ws.length - i = m + 1 := ⟨ws.length - i - 1, by omega⟩
        rw [Nat.add_zero, show ws.length - i - 1 = m by omega, hm, ← extMTo_all, show m + 1 = ws.length - i by omega] at h1
        have hx := extM_succ (w := w) (ws := ws) (n := ws.length) (f := m) (fr := i) (by omega)
        rw [← hx, ← hm] at h1
        exact h1
  exact fun i hi => main _ i hi rfl
end Line

namespace Go.Proofs.Ytlajhbpkogekfaa
open Go.Av Line
set_option linter.unusedVariables false
set_option linter.unusedSimpArgs false
set_option maxRecDepth 4000

theorem slc_reads {H : Heap} {v : AV} {l : List Int} {i j : Nat} (h : Reads H v l) (hij : i < j) (hj : j ≤ l.length) :
    ∃ v', slc 1 v (some (.int .i64 (i : Int))) (some (.int .i64 (j : Int))) none = some v' ∧ Reads H v' ((l.drop i).take (j - i)) := by
  have n1 : ∀ d, natOf (some (.int .i64 (i : Int))) d = some i := fun d => by simp [natOf]
  have n2 : ∀ d, natOf (some (.int .i64 (j : Int))) d = some j := fun d => by simp [natOf]
  cases v <;> simp only [Reads] at h <;> try exact h.elim
  · subst h; simp at hj; omega
  · obtain ⟨rfl, rfl⟩ := h
    simp only [slc, n1, n2, Option.bind_some]
    rw [if_pos ⟨by omega, hj⟩]
    refine ⟨_, rfl, by simp; omega, ?_⟩
    rw [Nat.mul_one, Nat.mul_one, ints_drop, ints_take]
  · rename_i s b off n cp
    obtain ⟨rfl, rfl, cells, hb, hc, ht⟩ := h
    simp only [slc, n1, n2, Option.bind_some]
    rw [if_pos ⟨by trivial, by omega, hj, by omega⟩]
    refine ⟨_, rfl, rfl, by simp; omega, cells, hb, by omega, ?_⟩
    rw [Nat.mul_one, ← ints_take, ← ints_drop, ← ht, List.drop_take, List.take_take, List.drop_drop, Nat.min_eq_left (by omega)]

/-- left, of the law -/
theorem c43 {w : Int} {v : AV} {ws : List Int} {i j : Nat} {H : Heap} {K : AV → Heap → Prop} (hv : Reads H v ws) (hc : chk w ws = 0) (hij : i < j) (hj : j ≤ ws.length) (hk : K (.int .i64 (lf w ws i j)) H) :
    ACalls Try.prog 43 [.agg [.int .i64 w, v], .int .i64 i, .int .i64 j] H K := by
  apply W43_ok
  unfold W43
  obtain ⟨w1, w2, n1, n2, hws⟩ := chk_ok hc
  obtain ⟨v', hs, hr⟩ := slc_reads hv hij hj
  have hll : ((ws.drop i).take (j - i)).length = j - i := by simp; omega
  simp only [letO_some, cellsOf?_agg, cellsOf?_int, cellsOf?_bool, cellsOf?_imm, cellsOf?_ref, cellsOf?_nils, faddr_iptr, faddr_ptr, List.drop_succ_cons, List.drop_zero, List.take_succ_cons, List.take_zero, load1_iptr, loadN_iptr, List.length_cons, List.length_nil, Nat.le_refl, if_true, List.getElem?_cons_zero, List.getElem?_cons_succ, List.getD_cons_zero, List.getD_cons_succ, extrF_tup, binF_add, binF_sub, binF_mul, binF_eql, binF_neq, binF_lss, binF_leq, binF_gtr, binF_geq, true_and, hs, hr.len]
  refine ⟨fun L H' => ∃ (k : Nat), L = [.int .i64 (psum ws (i + k) - psum ws i - 1), .int .i64 k] ∧ i + k ≤ j ∧ H' = H, fun L _ => (j - i - iv L 1).toNat, ⟨0, by simp, by omega, rfl⟩, ?_⟩
  intro L H' hI
  obtain ⟨k, rfl, hk1, rfl⟩ := hI
  simp only [letO_some, cellsOf?_agg, cellsOf?_int, cellsOf?_bool, cellsOf?_imm, cellsOf?_ref, cellsOf?_nils, faddr_iptr, faddr_ptr, List.drop_succ_cons, List.drop_zero, List.take_succ_cons, List.take_zero, load1_iptr, loadN_iptr, List.length_cons, List.length_nil, Nat.le_refl, if_true, List.getElem?_cons_zero, List.getElem?_cons_succ, List.getD_cons_zero, List.getD_cons_succ, extrF_tup, binF_add, binF_sub, binF_mul, binF_eql, binF_neq, binF_lss, binF_leq, binF_gtr, binF_geq, true_and, hll]
  have hb1 := psum_le (ws := ws) (k := i) fun x hx => by have := hws x (List.mem_of_mem_take hx); omega
  have hb2 := psum_le (ws := ws) (k := i + k) fun x hx => by have := hws x (List.mem_of_mem_take hx); omega
  refine condA_t (fun hlt => ?_) (fun hge => ?_)
  · refine hr.get (Heap.le_refl _) (by omega) (by rw [hll]; exact hlt) ?_
    have hk2 : k < j - i := by omega
    have hg : ((ws.drop i).take (j - i)).getD (k : Int).toNat 0 = ws.getD (i + k) 0 := by
      rw [Int.toNat_natCast, List.getD_eq_getElem?_getD, List.getElem?_take_of_lt hk2, List.getElem?_drop, ← List.getD_eq_getElem?_getD]
    rw [hg]
    have hm : ws.getD (i + k) 0 ∈ ws := by rw [List.getD_eq_getElem?_getD]; simp [show i + k < ws.length by omega]
    have hx := hws _ hm
    have hp := psum_succ (show i + k < ws.length by omega)
    simp only [letO_some, cellsOf?_agg, cellsOf?_int, cellsOf?_bool, cellsOf?_imm, cellsOf?_ref, cellsOf?_nils, faddr_iptr, faddr_ptr, List.drop_succ_cons, List.drop_zero, List.take_succ_cons, List.take_zero, load1_iptr, loadN_iptr, List.length_cons, List.length_nil, Nat.le_refl, if_true, List.getElem?_cons_zero, List.getElem?_cons_succ, List.getD_cons_zero, List.getD_cons_succ, extrF_tup, binF_add, binF_sub, binF_mul, binF_eql, binF_neq, binF_lss, binF_leq, binF_gtr, binF_geq, true_and]
    rw [wrap_i64 (n := ws.getD (i + k) 0 + 1) (by omega) (by omega), wrap_i64 (n := psum ws (i + k) - psum ws i - 1 + (ws.getD (i + k) 0 + 1)) (by omega) (by omega), wrap_i64 (n := (k : Int) + 1) (by omega) (by omega)]
    try simp only [true_and, and_true]
    refine ⟨⟨k + 1, ?_, by omega⟩, by simp <;> omega⟩
    have e : psum ws (i + (k + 1)) - psum ws i - 1 = psum ws (i + k) - psum ws i - 1 + (ws.getD (i + k) 0 + 1) := by
      rw [show i + (k + 1) = i + k + 1 by omega, hp]; omega
    rw [e]
    rfl
  · have : i + k = j := by omega
    rw [this] at hb2 ⊢
    rw [wrap_i64 (by omega) (by omega)]
    rw [lf_eq (by omega) hj] at hk
    refine endK_ret ?_
    have e : w - (psum ws j - psum ws i - 1) = w + 1 - (psum ws j - psum ws i) := by omega
    rw [e]; exact hk

theorem conv53 {n : Int} (h : 0 ≤ n ∧ n < 256) : convF Try.prog 5 3 (.int .u8 n) = some (.int .i64 n) := by
  have h1 : Try.prog.underlying 5 = some (.int .u8) := by kernel_rfl
  have h2 : Try.prog.underlying 3 = some (.int .i64) := by kernel_rfl
  simp only [convF, h1, h2]
  rw [wrap_i64 (by omega) (by omega)]
theorem rem_nat {k : IntKind} {t : TypeId} {a b : Nat} (hb : b ≠ 0) : binF Try.prog .rem t (.int k (a : Int)) (.int k (b : Int)) = some (.int k ((a % b : Nat) : Int)) := by
  simp only [binF]
  rw [if_pos ⟨by trivial, by omega⟩, Int.ofNat_tmod]
theorem quo_nat {t : TypeId} {a b : Nat} (hb : b ≠ 0) (ha : a < 1000000000) : binF Try.prog .quo t (.int .i64 (a : Int)) (.int .i64 (b : Int)) = some (.int .i64 ((a / b : Nat) : Int)) := by
  simp only [binF]
  rw [if_pos ⟨by trivial, by omega⟩, ← Int.ofNat_tdiv]
  have := Nat.div_le_self a b
  generalize a / b = q at *
  rw [wrap_i64 (by omega) (by omega)]
theorem b24n {x : AV} (hx : cellsOf? x = some [x]) : buildF Try.prog 24 [(0, x)] = some (.agg [x, .nils]) := by
  rw [buildF_of (show buildPlan Try.prog 24 = some ([.int .i64 0, .nils], [(0, 1), (1, 1)]) by kernel_rfl)]
  simp [fillA, hx, splice]
def u8s (l : List Nat) : List AV := l.map fun (x : Nat) => .int .u8 (x : Int)
@[simp] theorem u8s_length (l : List Nat) : (u8s l).length = l.length := by simp [u8s]

/-- made -/
theorem c34 {W M S most : Nat} {l : List Nat} {H : Heap} {K : AV → Heap → Prop} (hW : W < 256) (hM : M < 256) (hS : S < 256) (hl : l.length = 10) (hlx : ∀ x ∈ l, x < 256) (hm : 1 ≤ most ∧ most ≤ 10)
    (hk : K (.agg [.int .i64 (gw W : Nat), sl (madeL W M S l most)]) H) : ACalls Try.prog 34 [.agg (u8s (W :: M :: S :: l)), .int .i64 most] H K := by
  apply W34_ok
  unfold W34
  have hgw := gw_range W
  have hgm := gmin_range W S
  have hr40 : binF Try.prog .rem 3 (.int .i64 (W : Int)) (.int .i64 40) = some (.int .i64 ((W % 40 : Nat) : Int)) := rem_nat (b := 40) (by decide)
  simp only [letO_some, cellsOf?_agg, cellsOf?_int, cellsOf?_bool, cellsOf?_imm, cellsOf?_ref, cellsOf?_nils, faddr_iptr, faddr_ptr, List.drop_succ_cons, List.drop_zero, List.take_succ_cons, List.take_zero, load1_iptr, loadN_iptr, List.length_cons, List.length_nil, Nat.le_refl, if_true, List.getElem?_cons_zero, List.getElem?_cons_succ, List.getD_cons_zero, List.getD_cons_succ, extrF_tup, binF_add, binF_sub, binF_mul, binF_eql, binF_neq, binF_lss, binF_leq, binF_gtr, binF_geq, true_and, u8s, List.map_cons, conv53 (show (0 : Int) ≤ W ∧ (W : Int) < 256 by omega), hr40]
  intro b4 hb4
  have e1 : (1 : Int) + ((W % 40 : Nat) : Int) = ((gw W : Nat) : Int) := by unfold gw; omega
  rw [e1, wrap_i64 (by omega) (by omega)]
  simp only [b24n cellsOf?_int, letO_some]
  refine alloc_store (cs := [.int .i64 (gw W : Nat), .nils]) rfl rfl rfl rfl fun b5 hb5 => ?_
  have hne : b4 ≠ b5 := Heap.ne_of Heap.put_same hb5
  have hb5' : H b5 = none := by rwa [Heap.put_ne (Ne.symm hne)] at hb5
  generalize hH4 : (H.put b4 [.int .i64 0, .nils]).put b5 [.int .i64 (gw W : Nat), .nils] = H4
  have l50 : load1 (.ptr b5 0) H4 = some (.int .i64 (gw W : Nat)) := load1_at (by subst hH4; exact Heap.put_same) rfl
  have hr3 : binF Try.prog .rem 5 (.int .u8 (S : Int)) (.int .u8 3) = some (.int .u8 ((S % 3 : Nat) : Int)) := rem_nat (b := 3) (by decide)
  have hq2 : binF Try.prog .quo 3 (.int .i64 (gw W : Nat)) (.int .i64 2) = some (.int .i64 ((gw W / 2 : Nat) : Int)) := quo_nat (b := 2) (by decide) (by omega)
  simp only [letO_some, cellsOf?_agg, cellsOf?_int, cellsOf?_bool, cellsOf?_imm, cellsOf?_ref, cellsOf?_nils, faddr_iptr, faddr_ptr, List.drop_succ_cons, List.drop_zero, List.take_succ_cons, List.take_zero, load1_iptr, loadN_iptr, List.length_cons, List.length_nil, Nat.le_refl, if_true, List.getElem?_cons_zero, List.getElem?_cons_succ, List.getD_cons_zero, List.getD_cons_succ, extrF_tup, binF_add, binF_sub, binF_mul, binF_eql, binF_neq, binF_lss, binF_leq, binF_gtr, binF_geq, true_and, Nat.zero_add, l50, hr3, hq2]
  refine ⟨fun L h => L = [.int .i64 (glong W S : Nat)] ∧ h = H4, ?_, ?_⟩
  · refine condA_t (fun hgt => ?_) (fun hle => ?_)
    · have : glong W S = 1 + gw W / 2 := by unfold glong; rw [if_pos (by omega)]
      rw [this, wrap_i64 (by omega) (by omega)]
      exact ⟨by simp, rfl⟩
    · have : glong W S = gw W := by unfold glong; rw [if_neg (by omega)]
      rw [this]
      exact ⟨rfl, rfl⟩
  rintro L h ⟨rfl, rfl⟩
  have hrm : binF Try.prog .rem 3 (.int .i64 (M : Int)) (.int .i64 (most : Int)) = some (.int .i64 ((M % most : Nat) : Int)) := rem_nat (by omega)
  have hmm := Nat.mod_lt M (show most > 0 by omega)
  simp only [letO_some, cellsOf?_agg, cellsOf?_int, cellsOf?_bool, cellsOf?_imm, cellsOf?_ref, cellsOf?_nils, faddr_iptr, faddr_ptr, List.drop_succ_cons, List.drop_zero, List.take_succ_cons, List.take_zero, load1_iptr, loadN_iptr, List.length_cons, List.length_nil, Nat.le_refl, if_true, List.getElem?_cons_zero, List.getElem?_cons_succ, List.getD_cons_zero, List.getD_cons_succ, extrF_tup, binF_add, binF_sub, binF_mul, binF_eql, binF_neq, binF_lss, binF_leq, binF_gtr, binF_geq, true_and, conv53 (show (0 : Int) ≤ M ∧ (M : Int) < 256 by omega), hrm]
  have e2 : (1 : Int) + ((M % most : Nat) : Int) = ((1 + M % most : Nat) : Int) := by omega
  rw [e2, wrap_i64 (by omega) (by omega)]
  generalize hn : 1 + M % most = n at *
  have hsl : slcArr 10 1 (.iptr (l.map fun (x : Nat) => AV.int .u8 (x : Int))) none (some (.int .i64 (n : Int))) none = some (.imm n (n == 10) (u8s (l.take n))) := by
    have e : natOf (some (.int .i64 (n : Int))) 10 = some n := by simp [natOf]
    have e3 : natOf none 0 = some 0 := rfl
    simp only [slcArr, e, e3, Option.bind_some]
    rw [if_pos ⟨by omega, by omega⟩]
    simp [u8s, List.map_take]
  simp only [hsl, letO_some, lenA]
  have hws : ∀ x ∈ madeL W M S l most, 1 ≤ x ∧ x ≤ 40 := fun x hx => by
    have := (chk_ok (chk_made (W := W) (M := M) (S := S) hl hm)).2.2.2.2 x hx
    omega
  let T : AV → List AV := fun X => [.int .i64 (gw W : Nat), X]
  refine ⟨fun L H' => ∃ (i : Nat) (X : AV), L = [.int .i64 i] ∧ i ≤ n ∧ Grow 1 ((H.put b4 [.int .i64 0, .nils]).put b5 (T X)) H' X i (ints (gwords W S (l.take i))), fun L _ => (n - iv L 0).toNat,
    ⟨0, .nils, rfl, by omega, by subst hH4; exact Grow.nils 1 _⟩, ?_⟩
  intro L H' hI
  obtain ⟨i, X, rfl, hi, hg⟩ := hI
  simp only [letO_some, cellsOf?_agg, cellsOf?_int, cellsOf?_bool, cellsOf?_imm, cellsOf?_ref, cellsOf?_nils, faddr_iptr, faddr_ptr, List.drop_succ_cons, List.drop_zero, List.take_succ_cons, List.take_zero, load1_iptr, loadN_iptr, List.length_cons, List.length_nil, Nat.le_refl, if_true, List.getElem?_cons_zero, List.getElem?_cons_succ, List.getD_cons_zero, List.getD_cons_succ, extrF_tup, binF_add, binF_sub, binF_mul, binF_eql, binF_neq, binF_lss, binF_leq, binF_gtr, binF_geq, true_and]
  have hHb : H' b5 = some (T X) := hg.le _ _ Heap.put_same
  refine condA_t (fun hlt => ?_) (fun hge => ?_)
  · have hin : i < n := by omega
    have hil : i < l.length := by omega
    have hx : ((u8s (l.take n)).drop (i * 1))[0]? = some (.int .u8 (l[i] : Nat)) := by
      rw [List.getElem?_drop, Nat.mul_one, Nat.add_zero]
      simp [u8s, hil, hin]
    have hxl : l[i] < 256 := hlx _ (by simp)
    have l1 : load1 (.ptr b5 (0 + 1)) H' = some X := load1_at hHb rfl
    have l0 : load1 (.ptr b5 0) H' = some (.int .i64 (gw W : Nat)) := load1_at hHb rfl
    have hmin : min2F (.int .i64 (glong W S : Nat)) (.int .i64 (gw W : Nat)) = some (.int .i64 (gmin W S : Nat)) := by
      simp only [min2F]
      unfold gmin
      split <;> split <;> first | rfl | omega
    have hrx : binF Try.prog .rem 3 (.int .i64 ((l[i] : Nat) : Int)) (.int .i64 (gmin W S : Nat)) = some (.int .i64 ((l[i] % gmin W S : Nat) : Int)) := rem_nat (by omega)
    simp only [idx_imm hin, letO_some, cellsOf?_agg, cellsOf?_int, cellsOf?_bool, cellsOf?_imm, cellsOf?_ref, cellsOf?_nils, faddr_iptr, faddr_ptr, List.drop_succ_cons, List.drop_zero, List.take_succ_cons, List.take_zero, load1_iptr, loadN_iptr, List.length_cons, List.length_nil, Nat.le_refl, if_true, List.getElem?_cons_zero, List.getElem?_cons_succ, List.getD_cons_zero, List.getD_cons_succ, extrF_tup, binF_add, binF_sub, binF_mul, binF_eql, binF_neq, binF_lss, binF_leq, binF_gtr, binF_geq, true_and, hx, conv53 (show (0 : Int) ≤ (l[i] : Nat) ∧ ((l[i] : Nat) : Int) < 256 by omega), l1, l0, hmin, hrx]
    have hmx := Nat.mod_lt l[i] (show gmin W S > 0 by omega)
    have e3 : (1 : Int) + ((l[i] % gmin W S : Nat) : Int) = ((1 + l[i] % gmin W S : Nat) : Int) := by omega
    rw [e3, wrap_i64 (by omega) (by omega)]
    simp only [l22 cellsOf?_int, letO_some]
    refine appendA_one hg (by omega) fun v' H'' hg' => ?_
    refine storeA_of (cs := [v']) (hg'.le _ _ Heap.put_same) hg'.cells (by simp [hg'.scalar]) rfl (by simp [T]) ?_
    rw [wrap_i64 (by omega) (by omega)]
    refine ⟨⟨i + 1, v', by simp, by omega, ?_⟩, by simp <;> omega⟩
    have e4 : gwords W S (l.take (i + 1)) = gwords W S (l.take i) ++ [((1 + l[i] % gmin W S : Nat) : Int)] := by
      unfold gwords
      rw [List.take_add_one, List.getElem?_eq_getElem hil, List.map_append]
      rfl
    rw [e4]
    have := hg'.put (y := T v') Heap.put_same
    rw [Heap.put_put] at this
    simpa [splice, T] using this
  · have hin : i = n := by omega
    subst hin
    have hL : loadN 2 (.ptr b5 0) H' = some (.agg [.int .i64 (gw W : Nat), X]) := loadN_at hHb
    have hb4H : H' b4 = some [.int .i64 0, .nils] := hg.le _ _ (by rw [Heap.put_ne hne]; exact Heap.put_same)
    simp only [hL, letO_some]
    refine storeA_of (cs := [.int .i64 (gw W : Nat), X]) hb4H rfl (by simp only [List.all_cons, hg.scalar]; rfl) rfl (by simp) ?_
    have e5 : splice [.int .i64 0, .nils] 0 [.int .i64 (gw W : Nat), X] = [.int .i64 (gw W : Nat), X] := rfl
    rw [e5]
    rw [show loadN 2 (.ptr b4 0) (Heap.put H' b4 [.int .i64 (gw W : Nat), X]) = some (.agg [.int .i64 (gw W : Nat), X]) from loadN_at (cells := [.int .i64 (gw W : Nat), X]) Heap.put_same]
    simp only [letO_some]
    have hg1 := hg.put (c := b4) (x := [.int .i64 0, .nils]) (y := [.int .i64 (gw W : Nat), X]) (by rw [Heap.put_ne hne]; exact Heap.put_same)
    obtain ⟨H2, hl2, hg2⟩ := hg1.shrink (H := H) (Heap.le_put (Heap.le_put (Heap.le_put_self hb4) hb5') hb4)
    refine endK_pub (r' := .agg [.int .i64 (gw W : Nat), X]) (Pub.drop hl2) ?_
    refine hg2.endG (f := fun v => .agg [.int .i64 (gw W : Nat), v]) (fun b => ⟨fun e => by subst e; rfl, fun e => by subst e; rfl, fun e => by subst e; have := Grow.frz hg2.1 b; simp only [lift, List.map, this]; rfl⟩) ?_
    have hlen := made_len (W := W) (M := M) (S := S) hl hm
    rw [sl, hlen, hn] at hk
    rw [madeL, hn] at hk
    exact hk
theorem shr_ex {t : TypeId} {k k' : IntKind} {a b : Int} (hb : 0 ≤ b) : ∃ y, binF Try.prog .shr t (.int k a) (.int k' b) = some (.int k y) := by
  simp only [binF]
  rw [if_neg (by omega)]
  exact ⟨_, rfl⟩
theorem and_ex {t : TypeId} {k : IntKind} {a b : Int} : ∃ y, binF Try.prog .and t (.int k a) (.int k b) = some (.int k y) := by
  simp only [binF, if_true]
  exact ⟨_, rfl⟩
theorem slc_pre {H : Heap} {v : AV} {l : List Int} {k : Nat} (h : Reads H v l) (hk : k ≤ l.length) : ∃ v', slc 1 v none (some (.int .i64 (k : Int))) none = some v' ∧ Reads H v' (l.take k) := by
  have n1 : ∀ d, natOf none d = some d := fun d => rfl
  have n2 : ∀ d, natOf (some (.int .i64 (k : Int))) d = some k := fun d => by simp [natOf]
  cases v <;> simp only [Reads] at h <;> try exact h.elim
  · subst h
    have : k = 0 := by simpa using hk
    subst this
    simp only [slc, n1, n2, Option.bind_some]
    exact ⟨_, rfl, rfl⟩
  · obtain ⟨rfl, rfl⟩ := h
    simp only [slc, n1, n2, Option.bind_some]
    rw [if_pos ⟨by omega, hk⟩]
    refine ⟨_, rfl, by simp; omega, ?_⟩
    rw [Nat.mul_one, Nat.zero_mul, List.drop_zero, Nat.sub_zero, ints_take]
  · rename_i s b off n cp
    obtain ⟨rfl, rfl, cells, hb, hc, ht⟩ := h
    simp only [slc, n1, n2, Option.bind_some]
    rw [if_pos ⟨by trivial, by omega, hk, by simp⟩]
    refine ⟨_, rfl, rfl, by simp; omega, cells, hb, by omega, ?_⟩
    rw [Nat.zero_mul, Nat.add_zero, Nat.sub_zero, ← ints_take, ← ht, List.take_take, Nat.min_eq_left hk]

theorem any_succ (F : List Nat) (i : Nat) (g : Nat × Nat → Bool) : (spansN F (i + 1)).any g = ((spansN F i).any g || g (stN F i, F.getD i 0)) := by
  rw [spansN_succ, List.any_append]
  simp [spanN]

@[simp] theorem iv_three {k : IntKind} {n : Int} {x y z : AV} {L : List AV} : iv (x :: y :: z :: .int k n :: L) 3 = n := rfl
theorem wantE_bd {w : Int} {ws : List Int} (hc : chk w ws = 0) (E : List Nat) (m : Nat) : ∀ i, 0 ≤ wantE w ws E m i ∧ wantE w ws E m i ≤ 40000000000 * i
  | 0 => by simp [wantE]
  | i + 1 => by
    have := wantE_bd hc E m i
    have := sqf_bnd hc (stN E i) (E.getD i 0)
    rw [wantE]
    split <;> omega
theorem leftL_get {w : Int} {ws : List Int} {E : List Nat} {n k : Nat} (h : k < n) : (leftL w ws E n).getD k 0 = lf w ws (stN E k) (E.getD k 0) := by
  rw [List.getD_eq_getElem?_getD]
  simp only [leftL, List.getElem?_map]
  rw [List.getElem?_range h]
  rfl
theorem sum_take_succ {ws : List Int} {k : Nat} (h : k < ws.length) : (ws.take (k + 1)).sum = (ws.take k).sum + ws.getD k 0 := by
  rw [List.take_add_one, List.sum_append, List.getD_eq_getElem?_getD, List.getElem?_eq_getElem h]
  simp

end Go.Proofs.Ytlajhbpkogekfaa

namespace Go.Proofs.Ytlajhbpkogekfaa
open Go.Av Line
set_option linter.unusedVariables false
set_option linter.unusedSimpArgs false
set_option maxRecDepth 4000

/-- broken: some ends that fit -/
theorem c39 {w : Int} {v : AV} {ws : List Int} {st : List Nat} {H : Heap} {K : AV → Heap → Prop} (hv : Reads H v ws) (hc : chk w ws = 0) (hst : st.length = 10) (hsx : ∀ x ∈ st, x < 256)
    (hk : ∀ es : List Int, endedE w ws es = 0 → K (sl es) H) : ACalls Try.prog 39 [.agg [.int .i64 w, v], .agg (u8s st)] H K := by
  apply W39_ok
  unfold W39
  obtain ⟨w1, w2, n1, n2, hws⟩ := chk_ok hc
  simp only [letO_some, cellsOf?_agg, cellsOf?_int, cellsOf?_bool, cellsOf?_imm, cellsOf?_ref, cellsOf?_nils, faddr_iptr, faddr_ptr, List.drop_succ_cons, List.drop_zero, List.take_succ_cons, List.take_zero, load1_iptr, loadN_iptr, List.length_cons, List.length_nil, Nat.le_refl, if_true, List.getElem?_cons_zero, List.getElem?_cons_succ, List.getD_cons_zero, List.getD_cons_succ, extrF_tup, binF_add, binF_sub, binF_mul, binF_eql, binF_neq, binF_lss, binF_leq, binF_gtr, binF_geq, true_and]
  refine ⟨fun L H' => ∃ (E : List Nat) (X : AV), L = [X, .int .i64 (E.getLastD 0 : Nat)] ∧ Grow 1 H H' X E.length (ints (up E)) ∧ asc ws.length 0 (up E) ∧ E.length ≤ E.getLastD 0 ∧ E.getLastD 0 ≤ ws.length ∧ over w ws E = false, fun L _ => (ws.length - iv L 1).toNat,
    ⟨[], .nils, rfl, Grow.nils 1 H, trivial, by simp, by simp, rfl⟩, ?_⟩
  intro L H' hI
  obtain ⟨E, X, rfl, hg, ha, hlen, hle, ho⟩ := hI
  have hv' := hv.le hg.le
  simp only [letO_some, cellsOf?_agg, cellsOf?_int, cellsOf?_bool, cellsOf?_imm, cellsOf?_ref, cellsOf?_nils, faddr_iptr, faddr_ptr, List.drop_succ_cons, List.drop_zero, List.take_succ_cons, List.take_zero, load1_iptr, loadN_iptr, List.length_cons, List.length_nil, Nat.le_refl, if_true, List.getElem?_cons_zero, List.getElem?_cons_succ, List.getD_cons_zero, List.getD_cons_succ, extrF_tup, binF_add, binF_sub, binF_mul, binF_eql, binF_neq, binF_lss, binF_leq, binF_gtr, binF_geq, true_and, hv.len]
  generalize hfr : E.getLastD 0 = fr at *
  refine condA_t (fun hlt => ?_) (fun hge => ?_)
  · have hlt : fr < ws.length := by omega
    rw [wrap_i64 (by omega) (by omega)]
    refine ⟨fun L H'' => ∃ to : Nat, L = [.int .i64 to] ∧ fr < to ∧ to ≤ ws.length ∧ 0 ≤ lf w ws fr to ∧ H'' = H', fun L _ => (ws.length - iv L 0).toNat, ⟨fr + 1, by simp, by omega, by omega, lf_one hc hlt, rfl⟩, ?_⟩
    intro L H'' hJ
    obtain ⟨to, rfl, h1, h2, h3, rfl⟩ := hJ
    simp only [letO_some, cellsOf?_agg, cellsOf?_int, cellsOf?_bool, cellsOf?_imm, cellsOf?_ref, cellsOf?_nils, faddr_iptr, faddr_ptr, List.drop_succ_cons, List.drop_zero, List.take_succ_cons, List.take_zero, load1_iptr, loadN_iptr, List.length_cons, List.length_nil, Nat.le_refl, if_true, List.getElem?_cons_zero, List.getElem?_cons_succ, List.getD_cons_zero, List.getD_cons_succ, extrF_tup, binF_add, binF_sub, binF_mul, binF_eql, binF_neq, binF_lss, binF_leq, binF_gtr, binF_geq, true_and]
    -- the line ends here
    have stop : appendA 1 8 X (.imm 1 true [.int .i64 to]) (fun t40 H15 => (∃ (E' : List Nat) (X' : AV), [t40, .int .i64 to] = [X', .int .i64 (E'.getLastD 0 : Nat)] ∧ Grow 1 H H15 X' E'.length (ints (up E')) ∧ asc ws.length 0 (up E') ∧ E'.length ≤ E'.getLastD 0 ∧ E'.getLastD 0 ≤ ws.length ∧ over w ws E' = false) ∧
        (ws.length - iv [t40, .int .i64 to] 1).toNat < (ws.length - iv [X, .int .i64 fr] 1).toNat) H'' := by
      refine appendA_one hg (by omega) fun v' H7 hg7 => ⟨⟨E ++ [to], v', by simp, ?_, ?_, by simp; omega, by simp; omega, ?_⟩, by simp; omega⟩
      · rw [up_snoc]; simpa using hg7
      · rw [up_snoc]
        exact asc_snoc ha (by rw [up_lastD]; omega) (by omega) (by omega)
      · rw [over_snoc, ho, hfr]; simpa using h3
    by_cases ht : to < ws.length
    · have e1 : decide ((to : Int) < (ws.length : Int)) = true := by simp; omega
      have hto1 : IntKind.i64.wrap ((to : Int) + 1) = ((to + 1 : Nat) : Int) := by rw [wrap_i64 (by omega) (by omega)]; simp
      simp only [e1, gval_bool, if_true, letO_some, hto1, binF_add]
      refine exJc ?_
      refine c43 hv' hc (show fr < to + 1 by omega) (by omega) ?_
      simp only [letO_some, cellsOf?_agg, cellsOf?_int, cellsOf?_bool, cellsOf?_imm, cellsOf?_ref, cellsOf?_nils, faddr_iptr, faddr_ptr, List.drop_succ_cons, List.drop_zero, List.take_succ_cons, List.take_zero, load1_iptr, loadN_iptr, List.length_cons, List.length_nil, Nat.le_refl, if_true, List.getElem?_cons_zero, List.getElem?_cons_succ, List.getD_cons_zero, List.getD_cons_succ, extrF_tup, binF_add, binF_sub, binF_mul, binF_eql, binF_neq, binF_lss, binF_leq, binF_gtr, binF_geq, true_and, pickF_true]
      have hx : st[to]? = some (st[to]'(by omega)) := by simp [show to < st.length by omega]
      have hxb : st[to]'(by omega) < 256 := hsx _ (by simp)
      by_cases hn : 0 ≤ lf w ws fr (to + 1)
      · have hia : idxArr 10 1 (.iptr (u8s st)) (.int .i64 (to : Int)) = some (.iptr ((u8s st).drop to)) := by
          simp [idxArr]; omega
        have hla : ((u8s st).drop to)[0]? = some (.int .u8 ((st[to]'(by omega) : Nat) : Int)) := by
          rw [List.getElem?_drop, Nat.add_zero]; simp [u8s, hx]
        have hr4 : binF Try.prog .rem 5 (.int .u8 ((st[to]'(by omega) : Nat) : Int)) (.int .u8 4) = some (.int .u8 ((st[to]'(by omega) % 4 : Nat) : Int)) := rem_nat (b := 4) (by decide)
        simp only [hn, decide_true, gval_bool, if_true, letO_some, hia, load1_iptr, hla, hr4, binF_gtr, pickF_true]
        refine condA_t (fun hgt => ?_) (fun hle4 => ?_)
        · exact ⟨⟨to + 1, rfl, by omega, by omega, hn, by trivial⟩, by simp; omega⟩
        · simp only [l22 cellsOf?_int, letO_some]
          exact stop
      · simp only [hn, decide_false, gval_bool, Bool.false_eq_true, if_false, letO_some, pickF_false]
        simp only [condA_bool, condG_bool]
        refine ⟨fun h => by simp at h, fun _ => ?_⟩
        simp only [l22 cellsOf?_int, letO_some]
        exact stop
    · have e1 : decide ((to : Int) < (ws.length : Int)) = false := by simp; omega
      simp only [e1, gval_bool, Bool.false_eq_true, if_false, letO_some]
      refine ⟨fun r h => r = .tup [] ∧ h = H'', ?_, ?_⟩
      · simp only [condA_bool, condG_bool]
        exact ⟨fun h => by simp at h, fun _ => by simp⟩
      rintro t25 H13 ⟨rfl, rfl⟩
      simp only [pickF_false, gval_bool, Bool.false_eq_true, if_false, letO_some, condA_bool, condG_bool]
      refine ⟨fun h => by simp at h, fun _ => ?_⟩
      simp only [l22 cellsOf?_int, letO_some]
      exact stop
  · have : fr = ws.length := by omega
    have he := ended_mk hc ha (by rw [hfr]; exact this) ho
    have := hk _ he
    refine hg.end1 ?_
    simpa [sl] using this
end Go.Proofs.Ytlajhbpkogekfaa

namespace Go.Proofs.Ytlajhbpkogekfaa
open Go.Av Line
set_option linter.unusedVariables false
set_option linter.unusedSimpArgs false
set_option maxRecDepth 4000

/-- Equal, for states: nothing rewrites it. -/
def eqv {α : Type} (a b : α) : Prop := a = b
/-- in -/
theorem c77 {a lo hi : Int} {H : Heap} {K : AV → Heap → Prop} (hk : K (.bool (decide (lo ≤ a ∧ a ≤ hi))) H) : ACalls Try.prog 77 [.int .i64 a, .int .i64 lo, .int .i64 hi] H K := by
  apply W77_ok
  unfold W77
  simp only [letO_some, binF_geq, gval_bool]
  by_cases h : lo ≤ a <;> simp [h] <;> exact endK_ret (by simpa [h] using hk)

theorem not_bool {b : Bool} : unF .not (.bool b) = some (.bool !b) := rfl

/-- Check, of the reference -/
theorem c51 {w : Int} {v : AV} {ws : List Int} {H : Heap} {K : AV → Heap → Prop} (hv : Reads H v ws) (hlen : ws.length < 2 ^ 62) (hk : K (.int .i64 (chk w ws)) H) : ACalls Try.prog 51 [.agg [.int .i64 w, v]] H K := by
  apply W51_ok
  unfold W51
  simp only [letO_some, cellsOf?_agg, cellsOf?_int, cellsOf?_bool, cellsOf?_imm, cellsOf?_ref, cellsOf?_nils, faddr_iptr, faddr_ptr, List.drop_succ_cons, List.drop_zero, List.take_succ_cons, List.take_zero, load1_iptr, loadN_iptr, List.length_cons, List.length_nil, Nat.le_refl, if_true, List.getElem?_cons_zero, List.getElem?_cons_succ, List.getD_cons_zero, List.getD_cons_succ, extrF_tup, binF_add, binF_sub, binF_mul, binF_eql, binF_neq, binF_lss, binF_leq, binF_gtr, binF_geq, true_and]
  refine c77 ?_
  simp only [not_bool, letO_some, condA_bool, condG_bool]
  refine ⟨fun h => ?_, fun h => ?_⟩
  · have h : ¬ (1 ≤ w ∧ w ≤ 40) := by intro hh; simp [hh] at h
    rw [chk, if_pos (by omega)] at hk
    exact endK_ret hk
  have hw : 1 ≤ w ∧ w ≤ 40 := by simpa using h
  rw [chk, if_neg (by omega)] at hk
  simp only [letO_some, cellsOf?_agg, cellsOf?_int, cellsOf?_bool, cellsOf?_imm, cellsOf?_ref, cellsOf?_nils, faddr_iptr, faddr_ptr, List.drop_succ_cons, List.drop_zero, List.take_succ_cons, List.take_zero, load1_iptr, loadN_iptr, List.length_cons, List.length_nil, Nat.le_refl, if_true, List.getElem?_cons_zero, List.getElem?_cons_succ, List.getD_cons_zero, List.getD_cons_succ, extrF_tup, binF_add, binF_sub, binF_mul, binF_eql, binF_neq, binF_lss, binF_leq, binF_gtr, binF_geq, true_and, hv.len, condA_bool, condG_bool]
  refine ⟨fun h => ?_, fun h => ?_⟩
  · have h : ws.length = 0 := by simp at h; simp [h]
    rw [if_pos h] at hk
    exact endK_ret hk
  have h0 : ¬ ws.length = 0 := by intro h'; apply h; rw [h']; rfl
  rw [if_neg h0] at hk
  refine ⟨fun h => ?_, fun h => ?_⟩
  · have h : 10 < ws.length := by simp at h; omega
    rw [if_pos h] at hk
    exact endK_ret hk
  have h10 : ¬ 10 < ws.length := by simp at h; omega
  rw [if_neg h10] at hk
  refine ⟨fun L H' => ∃ i : Nat, L = [.int .i64 i] ∧ i ≤ ws.length ∧ (∀ x ∈ ws.take i, 1 ≤ x ∧ x ≤ w) ∧ H' = H, fun L _ => (ws.length - iv L 0).toNat, ⟨0, rfl, by omega, by simp, rfl⟩, ?_⟩
  intro L H' hI
  obtain ⟨i, rfl, hi, hall, rfl⟩ := hI
  simp only [letO_some, cellsOf?_agg, cellsOf?_int, cellsOf?_bool, cellsOf?_imm, cellsOf?_ref, cellsOf?_nils, faddr_iptr, faddr_ptr, List.drop_succ_cons, List.drop_zero, List.take_succ_cons, List.take_zero, load1_iptr, loadN_iptr, List.length_cons, List.length_nil, Nat.le_refl, if_true, List.getElem?_cons_zero, List.getElem?_cons_succ, List.getD_cons_zero, List.getD_cons_succ, extrF_tup, binF_add, binF_sub, binF_mul, binF_eql, binF_neq, binF_lss, binF_leq, binF_gtr, binF_geq, true_and]
  refine condA_t (fun hlt => ?_) (fun hge => ?_)
  · have hil : i < ws.length := by omega
    refine hv.get (Heap.le_refl _) (by omega) hlt ?_
    rw [Int.toNat_natCast]
    have hm : ws.getD i 0 ∈ ws := by rw [List.getD_eq_getElem?_getD]; simp [hil]
    try simp only [letO_some, cellsOf?_agg, cellsOf?_int, cellsOf?_bool, cellsOf?_imm, cellsOf?_ref, cellsOf?_nils, faddr_iptr, faddr_ptr, List.drop_succ_cons, List.drop_zero, List.take_succ_cons, List.take_zero, load1_iptr, loadN_iptr, List.length_cons, List.length_nil, Nat.le_refl, if_true, List.getElem?_cons_zero, List.getElem?_cons_succ, List.getD_cons_zero, List.getD_cons_succ, extrF_tup, binF_add, binF_sub, binF_mul, binF_eql, binF_neq, binF_lss, binF_leq, binF_gtr, binF_geq, true_and]
    refine c77 ?_
    simp only [not_bool, letO_some, condA_bool, condG_bool]
    refine ⟨fun h => ?_, fun h => ?_⟩
    · have h : ¬ (1 ≤ ws.getD i 0 ∧ ws.getD i 0 ≤ w) := by intro hh; rw [show decide (1 ≤ ws.getD i 0 ∧ ws.getD i 0 ≤ w) = true from decide_eq_true hh] at h; simp at h
      rw [if_neg (fun ha => h (ha _ hm))] at hk
      exact endK_ret hk
    · have h : 1 ≤ ws.getD i 0 ∧ ws.getD i 0 ≤ w := by
        by_cases hh : 1 ≤ ws.getD i 0 ∧ ws.getD i 0 ≤ w
        · exact hh
        · exact absurd (by rw [decide_eq_false hh]; rfl) h
      try simp only [letO_some, cellsOf?_agg, cellsOf?_int, cellsOf?_bool, cellsOf?_imm, cellsOf?_ref, cellsOf?_nils, faddr_iptr, faddr_ptr, List.drop_succ_cons, List.drop_zero, List.take_succ_cons, List.take_zero, load1_iptr, loadN_iptr, List.length_cons, List.length_nil, Nat.le_refl, if_true, List.getElem?_cons_zero, List.getElem?_cons_succ, List.getD_cons_zero, List.getD_cons_succ, extrF_tup, binF_add, binF_sub, binF_mul, binF_eql, binF_neq, binF_lss, binF_leq, binF_gtr, binF_geq, true_and]
      rw [wrap_i64 (by omega) (by omega)]
      try simp only [and_true]
      refine ⟨⟨i + 1, by simp, by omega, fun x hx => ?_⟩, by simp <;> omega⟩
      rw [List.take_add_one] at hx
      rcases List.mem_append.1 hx with hx | hx
      · exact hall x hx
      · rw [List.getElem?_eq_getElem hil] at hx
        have : x = ws.getD i 0 := by rw [List.getD_eq_getElem?_getD, List.getElem?_eq_getElem hil]; simpa using hx
        rw [this]; exact h
  · have : i = ws.length := by omega
    subst this
    rw [List.take_length] at hall
    rw [if_pos hall] at hk
    exact endK_ret hk

/-- left, of the reference -/
theorem c79 {w : Int} {v : AV} {ws : List Int} {i j : Nat} {H : Heap} {K : AV → Heap → Prop} (hv : Reads H v ws) (hc : chk w ws = 0) (hij : i ≤ j) (hj : j ≤ ws.length) (hk : K (.int .i64 (lf w ws i j)) H) :
    ACalls Try.prog 79 [.agg [.int .i64 w, v], .int .i64 i, .int .i64 j] H K := by
  apply W79_ok
  unfold W79
  obtain ⟨w1, w2, n1, n2, hws⟩ := chk_ok hc
  simp only [letO_some, cellsOf?_agg, cellsOf?_int, cellsOf?_bool, cellsOf?_imm, cellsOf?_ref, cellsOf?_nils, faddr_iptr, faddr_ptr, List.drop_succ_cons, List.drop_zero, List.take_succ_cons, List.take_zero, load1_iptr, loadN_iptr, List.length_cons, List.length_nil, Nat.le_refl, if_true, List.getElem?_cons_zero, List.getElem?_cons_succ, List.getD_cons_zero, List.getD_cons_succ, extrF_tup, binF_add, binF_sub, binF_mul, binF_eql, binF_neq, binF_lss, binF_leq, binF_gtr, binF_geq, true_and]
  rw [wrap_i64 (n := (j : Int) - i) (by omega) (by omega), wrap_i64 (n := (j : Int) - i - 1) (by omega) (by omega), wrap_i64 (n := w - ((j : Int) - i - 1)) (by omega) (by omega)]
  refine ⟨fun L H' => ∃ k : Nat, L = [.int .i64 (w - ((j : Int) - i - 1) - (psum ws (i + k) - psum ws i - k)), .int .i64 ((i + k : Nat) : Int)] ∧ i + k ≤ j ∧ H' = H, fun L _ => (j - iv L 1).toNat, ⟨0, by simp, by omega, rfl⟩, ?_⟩
  intro L H' hI
  obtain ⟨k, rfl, hk1, rfl⟩ := hI
  simp only [letO_some, cellsOf?_agg, cellsOf?_int, cellsOf?_bool, cellsOf?_imm, cellsOf?_ref, cellsOf?_nils, faddr_iptr, faddr_ptr, List.drop_succ_cons, List.drop_zero, List.take_succ_cons, List.take_zero, load1_iptr, loadN_iptr, List.length_cons, List.length_nil, Nat.le_refl, if_true, List.getElem?_cons_zero, List.getElem?_cons_succ, List.getD_cons_zero, List.getD_cons_succ, extrF_tup, binF_add, binF_sub, binF_mul, binF_eql, binF_neq, binF_lss, binF_leq, binF_gtr, binF_geq, true_and]
  have hb1 := psum_le (ws := ws) (k := i) fun x hx => by have := hws x (List.mem_of_mem_take hx); omega
  have hb2 := psum_le (ws := ws) (k := i + k) fun x hx => by have := hws x (List.mem_of_mem_take hx); omega
  refine condA_t (fun hlt => ?_) (fun hge => ?_)
  · refine hv.get (Heap.le_refl _) (by omega) (by omega) ?_
    rw [Int.toNat_natCast]
    have hm : ws.getD (i + k) 0 ∈ ws := by rw [List.getD_eq_getElem?_getD]; simp [show i + k < ws.length by omega]
    have hx := hws _ hm
    have hp := psum_succ (show i + k < ws.length by omega)
    try simp only [letO_some, cellsOf?_agg, cellsOf?_int, cellsOf?_bool, cellsOf?_imm, cellsOf?_ref, cellsOf?_nils, faddr_iptr, faddr_ptr, List.drop_succ_cons, List.drop_zero, List.take_succ_cons, List.take_zero, load1_iptr, loadN_iptr, List.length_cons, List.length_nil, Nat.le_refl, if_true, List.getElem?_cons_zero, List.getElem?_cons_succ, List.getD_cons_zero, List.getD_cons_succ, extrF_tup, binF_add, binF_sub, binF_mul, binF_eql, binF_neq, binF_lss, binF_leq, binF_gtr, binF_geq, true_and]
    rw [wrap_i64 (n := w - ((j : Int) - i - 1) - (psum ws (i + k) - psum ws i - k) - ws.getD (i + k) 0) (by omega) (by omega), wrap_i64 (n := ((i + k : Nat) : Int) + 1) (by omega) (by omega)]
    try simp only [and_true]
    refine ⟨⟨k + 1, ?_, by omega⟩, by simp <;> omega⟩
    have e : w - ((j : Int) - i - 1) - (psum ws (i + (k + 1)) - psum ws i - ((k + 1 : Nat) : Int)) = w - ((j : Int) - i - 1) - (psum ws (i + k) - psum ws i - k) - ws.getD (i + k) 0 := by
      rw [show i + (k + 1) = i + k + 1 by omega, hp]; omega
    rw [e]
    rfl
  · have hkj : i + k = j := by omega
    rw [hkj]
    rw [lf_eq (by omega) hj] at hk
    refine endK_ret ?_
    have e : w - ((j : Int) - i - 1) - (psum ws j - psum ws i - k) = w + 1 - (psum ws j - psum ws i) := by omega
    rw [e]; exact hk

/-- begin -/
theorem c78 {u : AV} {E : List Nat} {k : Nat} {H : Heap} {K : AV → Heap → Prop} (hu : Reads H u (up E)) (hk1 : k ≤ E.length) (hl : E.length < 2 ^ 60) (hk : K (.int .i64 (stN E k : Nat)) H) : ACalls Try.prog 78 [u, .int .i64 k] H K := by
  apply W78_ok
  unfold W78
  simp only [letO_some, cellsOf?_agg, cellsOf?_int, cellsOf?_bool, cellsOf?_imm, cellsOf?_ref, cellsOf?_nils, faddr_iptr, faddr_ptr, List.drop_succ_cons, List.drop_zero, List.take_succ_cons, List.take_zero, load1_iptr, loadN_iptr, List.length_cons, List.length_nil, Nat.le_refl, if_true, List.getElem?_cons_zero, List.getElem?_cons_succ, List.getD_cons_zero, List.getD_cons_succ, extrF_tup, binF_add, binF_sub, binF_mul, binF_eql, binF_neq, binF_lss, binF_leq, binF_gtr, binF_geq, true_and, condA_bool, condG_bool]
  refine ⟨fun h => ?_, fun h => ?_⟩
  · have h : k = 0 := by simpa using h
    subst h
    exact endK_ret hk
  · have h : ¬ k = 0 := by simpa using h
    rw [wrap_i64 (by omega) (by omega)]
    refine hu.get (Heap.le_refl _) (by omega) (by simp; omega) ?_
    rw [show ((k : Int) - 1).toNat = k - 1 by omega, up_getD]
    try simp only [letO_some]
    rw [stN, if_neg h] at hk
    exact endK_ret hk

def refE (w : Int) (ws ends : List Int) : Int := if chk w ws ≠ 0 then chk w ws else scan ws.length 0 ends
/-- ended, of the reference -/
theorem c82 {w : Int} {v u : AV} {ws ends : List Int} {H : Heap} {K : AV → Heap → Prop} (hv : Reads H v ws) (hu : Reads H u ends) (hlen : ws.length < 2 ^ 60) (hlen2 : ends.length < 2 ^ 60) (hk : K (.int .i64 (refE w ws ends)) H) :
    ACalls Try.prog 82 [.agg [.int .i64 w, v], u] H K := by
  apply W82_ok
  unfold W82
  simp only [letO_some, cellsOf?_agg, cellsOf?_int, cellsOf?_bool, cellsOf?_imm, cellsOf?_ref, cellsOf?_nils, faddr_iptr, faddr_ptr, List.drop_succ_cons, List.drop_zero, List.take_succ_cons, List.take_zero, load1_iptr, loadN_iptr, List.length_cons, List.length_nil, Nat.le_refl, if_true, List.getElem?_cons_zero, List.getElem?_cons_succ, List.getD_cons_zero, List.getD_cons_succ, extrF_tup, binF_add, binF_sub, binF_mul, binF_eql, binF_neq, binF_lss, binF_leq, binF_gtr, binF_geq, true_and]
  refine c51 hv (by omega) ?_
  try simp only [letO_some, cellsOf?_agg, cellsOf?_int, cellsOf?_bool, cellsOf?_imm, cellsOf?_ref, cellsOf?_nils, faddr_iptr, faddr_ptr, List.drop_succ_cons, List.drop_zero, List.take_succ_cons, List.take_zero, load1_iptr, loadN_iptr, List.length_cons, List.length_nil, Nat.le_refl, if_true, List.getElem?_cons_zero, List.getElem?_cons_succ, List.getD_cons_zero, List.getD_cons_succ, extrF_tup, binF_add, binF_sub, binF_mul, binF_eql, binF_neq, binF_lss, binF_leq, binF_gtr, binF_geq, true_and]
  refine ⟨fun L H' => ∃ (i : Nat) (e : Int), eqv L [.int .i64 e, .int .i64 i] ∧ i ≤ ends.length ∧ eqv H' H ∧ (e ≠ 0 → refE w ws ends = e) ∧ (e = 0 → chk w ws = 0 ∧ scan ws.length 0 ends = scan ws.length (if i = 0 then 0 else ends.getD (i - 1) 0) (ends.drop i)), fun L _ => (ends.length - iv L 1).toNat,
    ⟨0, chk w ws, rfl, by omega, rfl, fun h => by rw [refE, if_pos h], fun h => ⟨h, rfl⟩⟩, ?_⟩
  intro L H' hI
  obtain ⟨i, e, rfl, hi, rfl, he1, he2⟩ := hI
  simp only [letO_some, cellsOf?_agg, cellsOf?_int, cellsOf?_bool, cellsOf?_imm, cellsOf?_ref, cellsOf?_nils, faddr_iptr, faddr_ptr, List.drop_succ_cons, List.drop_zero, List.take_succ_cons, List.take_zero, load1_iptr, loadN_iptr, List.length_cons, List.length_nil, Nat.le_refl, if_true, List.getElem?_cons_zero, List.getElem?_cons_succ, List.getD_cons_zero, List.getD_cons_succ, extrF_tup, binF_add, binF_sub, binF_mul, binF_eql, binF_neq, binF_lss, binF_leq, binF_gtr, binF_geq, true_and, hu.len]
  by_cases hil : i < ends.length
  · have e1 : decide ((i : Int) < (ends.length : Int)) = true := by simp; omega
    simp only [e1, gval_bool, if_true, letO_some, binF_eql, pickF_true]
    by_cases h0 : e = 0
    · subst h0
      obtain ⟨hc, hs⟩ := he2 rfl
      have hn := chk_ok hc
      simp only [beq_self_eq_true, condA_tt, condG_tt]
      have hd : ends.drop i = ends.getD i 0 :: ends.drop (i + 1) := by
        rw [List.drop_eq_getElem_cons hil, List.getD_eq_getElem?_getD]; simp [hil]
      rw [hd] at hs
      refine ⟨fun L h => ∃ e' : Int, eqv L [.int .i64 e'] ∧ eqv h H' ∧ (e' ≠ 0 → refE w ws ends = e') ∧ (e' = 0 → scan ws.length 0 ends = scan ws.length (ends.getD i 0) (ends.drop (i + 1))), ?_, ?_⟩
      · refine hu.get (Heap.le_refl _) (by omega) (by omega) ?_
        rw [Int.toNat_natCast]
        simp only [letO_some, cellsOf?_agg, cellsOf?_int, cellsOf?_bool, cellsOf?_imm, cellsOf?_ref, cellsOf?_nils, faddr_iptr, faddr_ptr, List.drop_succ_cons, List.drop_zero, List.take_succ_cons, List.take_zero, load1_iptr, loadN_iptr, List.length_cons, List.length_nil, Nat.le_refl, if_true, List.getElem?_cons_zero, List.getElem?_cons_succ, List.getD_cons_zero, List.getD_cons_succ, extrF_tup, binF_add, binF_sub, binF_mul, binF_eql, binF_neq, binF_lss, binF_leq, binF_gtr, binF_geq, true_and, hv.len]
        refine c77 ?_
        simp only [not_bool, letO_some, condA_bool, condG_bool]
        refine ⟨fun h => ?_, fun h => ?_⟩
        · have h : ¬ (1 ≤ ends.getD i 0 ∧ ends.getD i 0 ≤ ws.length) := by intro hh; rw [show decide (1 ≤ ends.getD i 0 ∧ ends.getD i 0 ≤ ws.length) = true from decide_eq_true hh] at h; simp at h
          rw [scan, if_pos (by omega)] at hs
          refine ⟨2, rfl, rfl, fun _ => by rw [refE, if_neg (by omega), hs], fun h => by omega⟩
        · have h : 1 ≤ ends.getD i 0 ∧ ends.getD i 0 ≤ ws.length := by
            by_cases hh : 1 ≤ ends.getD i 0 ∧ ends.getD i 0 ≤ ws.length
            · exact hh
            · exact absurd (by rw [decide_eq_false hh]; rfl) h
          by_cases hi0 : i = 0
          · subst hi0
            rw [scan, if_neg (by omega), if_pos rfl, if_neg (by omega)] at hs
            have e2 : decide ((0 : Int) < ((0 : Nat) : Int)) = false := by simp
            simp only [e2, gval_bool, Bool.false_eq_true, if_false, letO_some, pickF_false, condA_ff, condG_ff]
            exact ⟨0, rfl, rfl, fun h => absurd rfl h, fun _ => hs⟩
          · have e2 : decide ((0 : Int) < (i : Int)) = true := by simp; omega
            rw [scan, if_neg (by omega), if_neg hi0] at hs
            simp only [e2, gval_bool, if_true, letO_some, binF_sub]
            rw [wrap_i64 (by omega) (by omega)]
            refine hu.get (Heap.le_refl _) (by omega) (by omega) ?_
            rw [Int.toNat_natCast]
            refine hu.get (Heap.le_refl _) (by omega) (by omega) ?_
            rw [show ((i : Int) - 1).toNat = i - 1 by omega]
            simp only [letO_some, cellsOf?_agg, cellsOf?_int, cellsOf?_bool, cellsOf?_imm, cellsOf?_ref, cellsOf?_nils, faddr_iptr, faddr_ptr, List.drop_succ_cons, List.drop_zero, List.take_succ_cons, List.take_zero, load1_iptr, loadN_iptr, List.length_cons, List.length_nil, Nat.le_refl, if_true, List.getElem?_cons_zero, List.getElem?_cons_succ, List.getD_cons_zero, List.getD_cons_succ, extrF_tup, binF_add, binF_sub, binF_mul, binF_eql, binF_neq, binF_lss, binF_leq, binF_gtr, binF_geq, true_and, pickF_true]
            refine condA_t (fun hle => ?_) (fun hgt => ?_)
            · rw [if_pos hle] at hs
              exact ⟨7, rfl, rfl, fun _ => by rw [refE, if_neg (by omega), hs], fun h => by omega⟩
            · rw [if_neg hgt] at hs
              exact ⟨0, rfl, rfl, fun h => absurd rfl h, fun _ => hs⟩
      · rintro L h ⟨e', rfl, rfl, h1, h2⟩
        simp only [letO_some, cellsOf?_agg, cellsOf?_int, cellsOf?_bool, cellsOf?_imm, cellsOf?_ref, cellsOf?_nils, faddr_iptr, faddr_ptr, List.drop_succ_cons, List.drop_zero, List.take_succ_cons, List.take_zero, load1_iptr, loadN_iptr, List.length_cons, List.length_nil, Nat.le_refl, if_true, List.getElem?_cons_zero, List.getElem?_cons_succ, List.getD_cons_zero, List.getD_cons_succ, extrF_tup, binF_add, binF_sub, binF_mul, binF_eql, binF_neq, binF_lss, binF_leq, binF_gtr, binF_geq, true_and]
        rw [wrap_i64 (by omega) (by omega)]
        refine ⟨⟨i + 1, e', rfl, by omega, rfl, h1, fun h => ⟨hc, ?_⟩⟩, by simp <;> omega⟩
        rw [if_neg (by omega), Nat.add_sub_cancel]
        exact h2 h
    · have e3 : (e == 0) = false := by simpa using h0
      simp only [e3, condA_ff, condG_ff]
      refine ⟨fun L h => eqv L [.int .i64 e] ∧ eqv h H', ?_, ?_⟩
      · simp only [gval_bool, Bool.false_eq_true, if_false, letO_some, pickF_false, condA_ff, condG_ff]
        exact ⟨rfl, rfl⟩
      rintro L h ⟨rfl, rfl⟩
      simp only [letO_some, cellsOf?_agg, cellsOf?_int, cellsOf?_bool, cellsOf?_imm, cellsOf?_ref, cellsOf?_nils, faddr_iptr, faddr_ptr, List.drop_succ_cons, List.drop_zero, List.take_succ_cons, List.take_zero, load1_iptr, loadN_iptr, List.length_cons, List.length_nil, Nat.le_refl, if_true, List.getElem?_cons_zero, List.getElem?_cons_succ, List.getD_cons_zero, List.getD_cons_succ, extrF_tup, binF_add, binF_sub, binF_mul, binF_eql, binF_neq, binF_lss, binF_leq, binF_gtr, binF_geq, true_and]
      rw [he1 h0] at hk
      exact endK_ret hk
  · have e1 : decide ((i : Int) < (ends.length : Int)) = false := by simp; omega
    have hie : i = ends.length := by omega
    simp only [e1, gval_bool, Bool.false_eq_true, if_false, letO_some, pickF_false, condA_ff, condG_ff]
    refine ⟨fun L h => eqv L [.int .i64 (refE w ws ends)] ∧ eqv h H', ?_, ?_⟩
    · by_cases h0 : e = 0
      · subst h0
        obtain ⟨hc, hs⟩ := he2 rfl
        have hn := chk_ok hc
        have hr : refE w ws ends = scan ws.length 0 ends := by rw [refE, if_neg (by omega)]
        rw [hie, List.drop_length, scan] at hs
        simp only [beq_self_eq_true, gval_bool, if_true, letO_some, binF_eql, hu.len]
        by_cases hl0 : ends.length = 0
        · have e4 : ((ends.length : Int) == 0) = true := by rw [hl0]; rfl
          rw [if_pos hl0, if_pos (by omega)] at hs
          simp only [e4, gval_bool, Bool.true_eq_false, if_false, letO_some, pickF_true, condA_tt, condG_tt]
          rw [hr, hs]
          exact ⟨rfl, rfl⟩
        · have e4 : ((ends.length : Int) == 0) = false := by simpa using hl0
          rw [if_neg hl0] at hs
          simp only [e4, gval_bool, if_true, letO_some, binF_sub, hu.len]
          rw [wrap_i64 (by omega) (by omega)]
          refine hu.get (Heap.le_refl _) (by omega) (by omega) ?_
          rw [show ((ends.length : Int) - 1).toNat = ends.length - 1 by omega]
          simp only [letO_some, cellsOf?_agg, cellsOf?_int, cellsOf?_bool, cellsOf?_imm, cellsOf?_ref, cellsOf?_nils, faddr_iptr, faddr_ptr, List.drop_succ_cons, List.drop_zero, List.take_succ_cons, List.take_zero, load1_iptr, loadN_iptr, List.length_cons, List.length_nil, Nat.le_refl, if_true, List.getElem?_cons_zero, List.getElem?_cons_succ, List.getD_cons_zero, List.getD_cons_succ, extrF_tup, binF_add, binF_sub, binF_mul, binF_eql, binF_neq, binF_lss, binF_leq, binF_gtr, binF_geq, true_and, hv.len, pickF_true, pickF_false, condA_bool, condG_bool]
          refine ⟨fun h => ?_, fun h => ?_⟩
          · rw [if_pos (by simpa using h)] at hs
            rw [hr, hs]
            exact ⟨rfl, rfl⟩
          · rw [if_neg (by simpa using h)] at hs
            rw [hr, hs]
            exact ⟨rfl, rfl⟩
      · have e3 : (e == 0) = false := by simpa using h0
        simp only [e3, gval_bool, Bool.false_eq_true, if_false, letO_some, pickF_false, condA_ff, condG_ff]
        rw [he1 h0]
        exact ⟨rfl, rfl⟩
    rintro L h ⟨rfl, rfl⟩
    simp only [letO_some, cellsOf?_agg, cellsOf?_int, cellsOf?_bool, cellsOf?_imm, cellsOf?_ref, cellsOf?_nils, faddr_iptr, faddr_ptr, List.drop_succ_cons, List.drop_zero, List.take_succ_cons, List.take_zero, load1_iptr, loadN_iptr, List.length_cons, List.length_nil, Nat.le_refl, if_true, List.getElem?_cons_zero, List.getElem?_cons_succ, List.getD_cons_zero, List.getD_cons_succ, extrF_tup, binF_add, binF_sub, binF_mul, binF_eql, binF_neq, binF_lss, binF_leq, binF_gtr, binF_geq, true_and]
    exact endK_ret hk
end Go.Proofs.Ytlajhbpkogekfaa

namespace Go.Proofs.Ytlajhbpkogekfaa
open Go.Av Line
set_option linter.unusedVariables false
set_option linter.unusedSimpArgs false
set_option maxRecDepth 4000

theorem ref_ok {w : Int} {ws ends : List Int} (h : refE w ws ends = 0) : chk w ws = 0 ∧ scan ws.length 0 ends = 0 := by
  unfold refE at h
  by_cases h1 : chk w ws = 0
  · rw [if_neg (by omega)] at h; exact ⟨h1, h⟩
  · rw [if_pos h1] at h; exact absurd h h1
/-- What is known of ends in order. -/
theorem ord_facts {w : Int} {ws ends : List Int} (hc : chk w ws = 0) (hs : scan ws.length 0 ends = 0) :
    up (toN ends) = ends ∧ asc ws.length 0 (up (toN ends)) ∧ ends.length ≤ 10 ∧ 1 ≤ ends.length ∧ (∀ e ∈ toN ends, e ≤ ws.length) ∧ ∀ k, k < ends.length → stN (toN ends) k < (toN ends).getD k 0 ∧ (toN ends).getD k 0 ≤ ws.length ∧ stN (toN ends) k ≤ ws.length := by
  have hn := chk_ok hc
  have hup : up (toN ends) = ends := up_toN fun e he => (scan_range hs e he).1
  have ha : asc ws.length 0 (up (toN ends)) := by rw [hup]; exact asc_of_scan hs
  have hl := scan_len hs
  have hE : ∀ e ∈ toN ends, e ≤ ws.length := by
    intro e he
    obtain ⟨x, hx, rfl⟩ := List.mem_map.1 he
    have := scan_range hs x hx
    omega
  refine ⟨hup, ha, by omega, ?_, hE, fun k hk => ?_⟩
  · cases ends with
    | nil => simp [scan] at hs; omega
    | cons a l => simp
  · have h1 := stN_lt ha (k := k) (by rw [hup]; exact hk)
    rw [toN_up] at h1
    have h2 := stN_le hE k
    exact ⟨h1, h2.2, h2.1⟩

/-- fits, of the reference -/
theorem c83 {w : Int} {v u : AV} {ws ends : List Int} {H : Heap} {K : AV → Heap → Prop} (hv : Reads H v ws) (hu : Reads H u ends) (hc : chk w ws = 0) (hs : scan ws.length 0 ends = 0) (hk : K (.bool (!over w ws (toN ends))) H) :
    ACalls Try.prog 83 [.agg [.int .i64 w, v], u] H K := by
  apply W83_ok
  unfold W83
  obtain ⟨hup, ha, hl1, hl2, hE, hf⟩ := ord_facts hc hs
  have hEl := toN_len ends
  simp only [letO_some, cellsOf?_agg, cellsOf?_int, cellsOf?_bool, cellsOf?_imm, cellsOf?_ref, cellsOf?_nils, faddr_iptr, faddr_ptr, List.drop_succ_cons, List.drop_zero, List.take_succ_cons, List.take_zero, load1_iptr, loadN_iptr, List.length_cons, List.length_nil, Nat.le_refl, if_true, List.getElem?_cons_zero, List.getElem?_cons_succ, List.getD_cons_zero, List.getD_cons_succ, extrF_tup, binF_add, binF_sub, binF_mul, binF_eql, binF_neq, binF_lss, binF_leq, binF_gtr, binF_geq, true_and]
  refine ⟨fun L H' => ∃ i : Nat, eqv L [.int .i64 i] ∧ i ≤ ends.length ∧ eqv H' H ∧ (spansN (toN ends) i).any (fun p => decide (lf w ws p.1 p.2 < 0)) = false, fun L _ => (ends.length - iv L 0).toNat, ⟨0, rfl, by omega, rfl, rfl⟩, ?_⟩
  intro L H' hI
  obtain ⟨i, rfl, hi, rfl, hany⟩ := hI
  simp only [letO_some, cellsOf?_agg, cellsOf?_int, cellsOf?_bool, cellsOf?_imm, cellsOf?_ref, cellsOf?_nils, faddr_iptr, faddr_ptr, List.drop_succ_cons, List.drop_zero, List.take_succ_cons, List.take_zero, load1_iptr, loadN_iptr, List.length_cons, List.length_nil, Nat.le_refl, if_true, List.getElem?_cons_zero, List.getElem?_cons_succ, List.getD_cons_zero, List.getD_cons_succ, extrF_tup, binF_add, binF_sub, binF_mul, binF_eql, binF_neq, binF_lss, binF_leq, binF_gtr, binF_geq, true_and, hu.len]
  refine condA_t (fun hlt => ?_) (fun hge => ?_)
  · have hil : i < ends.length := by omega
    obtain ⟨f1, f2, f3⟩ := hf i hil
    refine ⟨_, c78 (E := toN ends) (k := i) (by rw [hup]; exact hu) (by omega) (by omega) ⟨rfl, rfl⟩, ?_⟩
    refine hu.get (Heap.le_refl _) (by omega) (by omega) ?_
    have hEi : ends.getD (i : Int).toNat 0 = ((toN ends).getD i 0 : Nat) := by
      rw [Int.toNat_natCast, ← up_getD, hup]
    rw [hEi]
    refine c79 hv hc (Nat.le_of_lt f1) f2 ?_
    simp only [letO_some, cellsOf?_agg, cellsOf?_int, cellsOf?_bool, cellsOf?_imm, cellsOf?_ref, cellsOf?_nils, faddr_iptr, faddr_ptr, List.drop_succ_cons, List.drop_zero, List.take_succ_cons, List.take_zero, load1_iptr, loadN_iptr, List.length_cons, List.length_nil, Nat.le_refl, if_true, List.getElem?_cons_zero, List.getElem?_cons_succ, List.getD_cons_zero, List.getD_cons_succ, extrF_tup, binF_add, binF_sub, binF_mul, binF_eql, binF_neq, binF_lss, binF_leq, binF_gtr, binF_geq, true_and]
    refine condA_t (fun hneg => ?_) (fun hnn => ?_)
    · have : over w ws (toN ends) = true := by
        unfold over
        rw [List.any_eq_true]
        exact ⟨spanN (toN ends) i, List.mem_of_getElem? (spansN_get (by omega)), by simpa [spanN] using hneg⟩
      rw [this] at hk
      exact endK_ret hk
    · rw [wrap_i64 (by omega) (by omega)]
      refine ⟨⟨i + 1, rfl, by omega, rfl, ?_⟩, by simp <;> omega⟩
      rw [any_succ, hany]; simpa using hnn
  · have : i = ends.length := by omega
    subst this
    have : over w ws (toN ends) = false := by unfold over; rw [hEl]; exact hany
    rw [this] at hk
    exact endK_ret hk

theorem ended_ref {w : Int} {ws ends : List Int} : endedE w ws ends = if refE w ws ends ≠ 0 then refE w ws ends else if over w ws (toN ends) then 15 else 0 := by
  unfold endedE refE
  by_cases h1 : chk w ws = 0 <;> simp [h1]

/-- Fits, of the reference -/
theorem c52 {w : Int} {v u : AV} {ws ends : List Int} {H : Heap} {K : AV → Heap → Prop} (hv : Reads H v ws) (hu : Reads H u ends) (hlen : ws.length < 2 ^ 60) (hlen2 : ends.length < 2 ^ 60) (hk : K (.int .i64 (endedE w ws ends)) H) :
    ACalls Try.prog 52 [.agg [.int .i64 w, v], u] H K := by
  apply W52_ok
  unfold W52
  simp only [letO_some, cellsOf?_agg, cellsOf?_int, cellsOf?_bool, cellsOf?_imm, cellsOf?_ref, cellsOf?_nils, faddr_iptr, faddr_ptr, List.drop_succ_cons, List.drop_zero, List.take_succ_cons, List.take_zero, load1_iptr, loadN_iptr, List.length_cons, List.length_nil, Nat.le_refl, if_true, List.getElem?_cons_zero, List.getElem?_cons_succ, List.getD_cons_zero, List.getD_cons_succ, extrF_tup, binF_add, binF_sub, binF_mul, binF_eql, binF_neq, binF_lss, binF_leq, binF_gtr, binF_geq, true_and]
  refine c82 hv hu hlen hlen2 ?_
  rw [ended_ref] at hk
  refine ⟨fun L h => eqv L [.int .i64 (if refE w ws ends ≠ 0 then refE w ws ends else if over w ws (toN ends) then 15 else 0)] ∧ eqv h H, ?_, ?_⟩
  · by_cases h : refE w ws ends = 0
    · obtain ⟨hc, hs⟩ := ref_ok h
      have e : (refE w ws ends == 0) = true := by rw [h]; rfl
      simp only [binF_eql, letO_some, e, gval_bool, if_true, condG_tt]
      refine exJ ?_
      refine c83 hv hu hc hs ?_
      rw [if_neg (by omega), h]
      simp only [not_bool, Bool.not_not, gval_bool, if_true, letO_some, pickF_true, condA_bool]
      refine ⟨fun h2 => ?_, fun h2 => ?_⟩
      · rw [if_pos h2]; exact ⟨rfl, rfl⟩
      · rw [if_neg h2]; exact ⟨rfl, rfl⟩
    · have e : (refE w ws ends == 0) = false := by simpa using h
      simp only [binF_eql, letO_some, e, gval_bool, Bool.false_eq_true, if_false, condG_ff]
      refine exU ?_
      simp only [gval_bool, Bool.false_eq_true, if_false, letO_some, pickF_false, condA_ff]
      rw [if_pos h]
      exact ⟨rfl, rfl⟩
  rintro L h ⟨rfl, rfl⟩
  simp only [letO_some, cellsOf?_agg, cellsOf?_int, cellsOf?_bool, cellsOf?_imm, cellsOf?_ref, cellsOf?_nils, faddr_iptr, faddr_ptr, List.drop_succ_cons, List.drop_zero, List.take_succ_cons, List.take_zero, load1_iptr, loadN_iptr, List.length_cons, List.length_nil, Nat.le_refl, if_true, List.getElem?_cons_zero, List.getElem?_cons_succ, List.getD_cons_zero, List.getD_cons_succ, extrF_tup, binF_add, binF_sub, binF_mul, binF_eql, binF_neq, binF_lss, binF_leq, binF_gtr, binF_geq, true_and]
  exact endK_ret hk

/-- Left, of the reference -/
theorem c47 {w : Int} {v u : AV} {ws ends : List Int} {H : Heap} {K : AV → Heap → Prop} (hv : Reads H v ws) (hu : Reads H u ends) (hlen : ws.length < 2 ^ 60) (hlen2 : ends.length < 2 ^ 60)
    (hk : K (.tup [sl (leftO w ws ends), .int .i64 (endedE w ws ends)]) H) : ACalls Try.prog 47 [.agg [.int .i64 w, v], u] H K := by
  apply W47_ok
  unfold W47
  simp only [letO_some, cellsOf?_agg, cellsOf?_int, cellsOf?_bool, cellsOf?_imm, cellsOf?_ref, cellsOf?_nils, faddr_iptr, faddr_ptr, List.drop_succ_cons, List.drop_zero, List.take_succ_cons, List.take_zero, load1_iptr, loadN_iptr, List.length_cons, List.length_nil, Nat.le_refl, if_true, List.getElem?_cons_zero, List.getElem?_cons_succ, List.getD_cons_zero, List.getD_cons_succ, extrF_tup, binF_add, binF_sub, binF_mul, binF_eql, binF_neq, binF_lss, binF_leq, binF_gtr, binF_geq, true_and]
  refine c52 hv hu hlen hlen2 ?_
  simp only [letO_some, cellsOf?_agg, cellsOf?_int, cellsOf?_bool, cellsOf?_imm, cellsOf?_ref, cellsOf?_nils, faddr_iptr, faddr_ptr, List.drop_succ_cons, List.drop_zero, List.take_succ_cons, List.take_zero, load1_iptr, loadN_iptr, List.length_cons, List.length_nil, Nat.le_refl, if_true, List.getElem?_cons_zero, List.getElem?_cons_succ, List.getD_cons_zero, List.getD_cons_succ, extrF_tup, binF_add, binF_sub, binF_mul, binF_eql, binF_neq, binF_lss, binF_leq, binF_gtr, binF_geq, true_and, condA_bool]
  refine ⟨fun h => ?_, fun h => ?_⟩
  · have h : ¬ endedE w ws ends = 0 := by simpa using h
    rw [leftO, if_neg h] at hk
    exact endK_nil (Heap.le_refl _) hk
  have h : endedE w ws ends = 0 := by simpa using h
  rw [leftO, if_pos h, h] at hk
  obtain ⟨hc, hs, hov⟩ := ended_ok h
  obtain ⟨hup, ha, hl1, hl2, hE, hf⟩ := ord_facts hc hs
  have hEl := toN_len ends
  refine ⟨fun L H' => ∃ (i : Nat) (X : AV), eqv L [X, .int .i64 i] ∧ i ≤ ends.length ∧ Grow 1 H H' X i (ints (leftL w ws (toN ends) i)), fun L _ => (ends.length - iv L 1).toNat, ⟨0, .nils, rfl, by omega, Grow.nils 1 H⟩, ?_⟩
  intro L H' hI
  obtain ⟨i, X, rfl, hi, hg⟩ := hI
  have hv' := hv.le hg.le
  have hu' := hu.le hg.le
  simp only [letO_some, cellsOf?_agg, cellsOf?_int, cellsOf?_bool, cellsOf?_imm, cellsOf?_ref, cellsOf?_nils, faddr_iptr, faddr_ptr, List.drop_succ_cons, List.drop_zero, List.take_succ_cons, List.take_zero, load1_iptr, loadN_iptr, List.length_cons, List.length_nil, Nat.le_refl, if_true, List.getElem?_cons_zero, List.getElem?_cons_succ, List.getD_cons_zero, List.getD_cons_succ, extrF_tup, binF_add, binF_sub, binF_mul, binF_eql, binF_neq, binF_lss, binF_leq, binF_gtr, binF_geq, true_and, hu.len]
  refine condA_t (fun hlt => ?_) (fun hge => ?_)
  · have hil : i < ends.length := by omega
    obtain ⟨f1, f2, f3⟩ := hf i hil
    refine ⟨_, c78 (E := toN ends) (k := i) (by rw [hup]; exact hu') (by omega) (by omega) ⟨rfl, rfl⟩, ?_⟩
    refine hu'.get (Heap.le_refl _) (by omega) (by omega) ?_
    have hEi : ends.getD (i : Int).toNat 0 = ((toN ends).getD i 0 : Nat) := by
      rw [Int.toNat_natCast, ← up_getD, hup]
    rw [hEi]
    refine ⟨_, c79 hv' hc (Nat.le_of_lt f1) f2 ⟨rfl, rfl⟩, ?_⟩
    simp only [l22 cellsOf?_int, letO_some]
    refine appendA_one hg (by omega) fun v' H7 hg7 => ?_
    rw [wrap_i64 (by omega) (by omega)]
    refine ⟨⟨i + 1, v', rfl, by omega, ?_⟩, by simp <;> omega⟩
    rw [leftL_succ]; exact hg7
  · have : i = ends.length := by omega
    subst this
    refine hg.end2 ?_
    simpa [sl] using hk

/-- squares, of the reference -/
theorem c66 {w : Int} {v u : AV} {ws ends : List Int} {m : Nat} {H : Heap} {K : AV → Heap → Prop} (hv : Reads H v ws) (hu : Reads H u ends) (hc : chk w ws = 0) (hup : up (toN ends) = ends) (hm : m ≤ ends.length) (hl : ends.length ≤ 10)
    (hf : ∀ k, k < ends.length → stN (toN ends) k < (toN ends).getD k 0 ∧ (toN ends).getD k 0 ≤ ws.length ∧ stN (toN ends) k ≤ ws.length)
    (hk : K (.int .i64 (wantE w ws (toN ends) m m)) H) : ACalls Try.prog 66 [.agg [.int .i64 w, v], u, .int .i64 m] H K := by
  apply W66_ok
  unfold W66
  have hEl := toN_len ends
  simp only [letO_some, cellsOf?_agg, cellsOf?_int, cellsOf?_bool, cellsOf?_imm, cellsOf?_ref, cellsOf?_nils, faddr_iptr, faddr_ptr, List.drop_succ_cons, List.drop_zero, List.take_succ_cons, List.take_zero, load1_iptr, loadN_iptr, List.length_cons, List.length_nil, Nat.le_refl, if_true, List.getElem?_cons_zero, List.getElem?_cons_succ, List.getD_cons_zero, List.getD_cons_succ, extrF_tup, binF_add, binF_sub, binF_mul, binF_eql, binF_neq, binF_lss, binF_leq, binF_gtr, binF_geq, true_and]
  refine ⟨fun L H' => ∃ i : Nat, eqv L [.int .i64 (wantE w ws (toN ends) m i), .int .i64 i] ∧ i ≤ m ∧ eqv H' H, fun L _ => (m - iv L 1).toNat, ⟨0, rfl, by omega, rfl⟩, ?_⟩
  intro L H' hI
  obtain ⟨i, rfl, hi, rfl⟩ := hI
  simp only [letO_some, cellsOf?_agg, cellsOf?_int, cellsOf?_bool, cellsOf?_imm, cellsOf?_ref, cellsOf?_nils, faddr_iptr, faddr_ptr, List.drop_succ_cons, List.drop_zero, List.take_succ_cons, List.take_zero, load1_iptr, loadN_iptr, List.length_cons, List.length_nil, Nat.le_refl, if_true, List.getElem?_cons_zero, List.getElem?_cons_succ, List.getD_cons_zero, List.getD_cons_succ, extrF_tup, binF_add, binF_sub, binF_mul, binF_eql, binF_neq, binF_lss, binF_leq, binF_gtr, binF_geq, true_and]
  refine condA_t (fun hlt => ?_) (fun hge => ?_)
  · have hil : i < m := by omega
    obtain ⟨f1, f2, f3⟩ := hf i (by omega)
    refine ⟨_, c78 (E := toN ends) (k := i) (by rw [hup]; exact hu) (by omega) (by omega) ⟨rfl, rfl⟩, ?_⟩
    refine hu.get (Heap.le_refl _) (by omega) (by omega) ?_
    have hEi : ends.getD (i : Int).toNat 0 = ((toN ends).getD i 0 : Nat) := by
      rw [Int.toNat_natCast, ← up_getD, hup]
    rw [hEi]
    refine c79 hv hc (Nat.le_of_lt f1) f2 ?_
    have hwt := wantE_bd hc (toN ends) m i
    have hsq := sqf_bnd hc (stN (toN ends) i) ((toN ends).getD i 0)
    have hsqf : lf w ws (stN (toN ends) i) ((toN ends).getD i 0) * lf w ws (stN (toN ends) i) ((toN ends).getD i 0) = sqf w ws (stN (toN ends) i) ((toN ends).getD i 0) := rfl
    simp only [letO_some, cellsOf?_agg, cellsOf?_int, cellsOf?_bool, cellsOf?_imm, cellsOf?_ref, cellsOf?_nils, faddr_iptr, faddr_ptr, List.drop_succ_cons, List.drop_zero, List.take_succ_cons, List.take_zero, load1_iptr, loadN_iptr, List.length_cons, List.length_nil, Nat.le_refl, if_true, List.getElem?_cons_zero, List.getElem?_cons_succ, List.getD_cons_zero, List.getD_cons_succ, extrF_tup, binF_add, binF_sub, binF_mul, binF_eql, binF_neq, binF_lss, binF_leq, binF_gtr, binF_geq, true_and]
    rw [hsqf, wrap_i64 (n := sqf w ws (stN (toN ends) i) ((toN ends).getD i 0)) (by omega) (by omega), wrap_i64 (n := wantE w ws (toN ends) m i + sqf w ws (stN (toN ends) i) ((toN ends).getD i 0)) (by omega) (by omega), wrap_i64 (n := (i : Int) + 1) (by omega) (by omega)]
    refine ⟨⟨i + 1, ?_, by omega, rfl⟩, by simp <;> omega⟩
    rw [wantE, if_pos hil]
    rfl
  · have : i = m := by omega
    subst this
    exact endK_ret hk

/-- Cost, of the reference -/
theorem c48 {w : Int} {v u : AV} {ws ends : List Int} {H : Heap} {K : AV → Heap → Prop} (hv : Reads H v ws) (hu : Reads H u ends) (hlen : ws.length < 2 ^ 60) (hlen2 : ends.length < 2 ^ 60)
    (hk : K (.tup [.int .i64 (costO w ws ends), .int .i64 (endedE w ws ends)]) H) : ACalls Try.prog 48 [.agg [.int .i64 w, v], u] H K := by
  apply W48_ok
  unfold W48
  simp only [letO_some, cellsOf?_agg, cellsOf?_int, cellsOf?_bool, cellsOf?_imm, cellsOf?_ref, cellsOf?_nils, faddr_iptr, faddr_ptr, List.drop_succ_cons, List.drop_zero, List.take_succ_cons, List.take_zero, load1_iptr, loadN_iptr, List.length_cons, List.length_nil, Nat.le_refl, if_true, List.getElem?_cons_zero, List.getElem?_cons_succ, List.getD_cons_zero, List.getD_cons_succ, extrF_tup, binF_add, binF_sub, binF_mul, binF_eql, binF_neq, binF_lss, binF_leq, binF_gtr, binF_geq, true_and]
  refine c52 hv hu hlen hlen2 ?_
  simp only [letO_some, cellsOf?_agg, cellsOf?_int, cellsOf?_bool, cellsOf?_imm, cellsOf?_ref, cellsOf?_nils, faddr_iptr, faddr_ptr, List.drop_succ_cons, List.drop_zero, List.take_succ_cons, List.take_zero, load1_iptr, loadN_iptr, List.length_cons, List.length_nil, Nat.le_refl, if_true, List.getElem?_cons_zero, List.getElem?_cons_succ, List.getD_cons_zero, List.getD_cons_succ, extrF_tup, binF_add, binF_sub, binF_mul, binF_eql, binF_neq, binF_lss, binF_leq, binF_gtr, binF_geq, true_and, condA_bool, hu.len]
  refine ⟨fun h => ?_, fun h => ?_⟩
  · have h : ¬ endedE w ws ends = 0 := by simpa using h
    rw [costO, if_neg h] at hk
    exact endK_ret hk
  have h : endedE w ws ends = 0 := by simpa using h
  rw [costO, if_pos h, h] at hk
  obtain ⟨hc, hs, hov⟩ := ended_ok h
  obtain ⟨hup, ha, hl1, hl2, hE, hf⟩ := ord_facts hc hs
  have hEl := toN_len ends
  rw [wrap_i64 (by omega) (by omega), show ((ends.length : Int) - 1) = ((ends.length - 1 : Nat) : Int) by omega]
  refine c66 hv hu hc hup (by omega) hl1 hf ?_
  try simp only [letO_some, cellsOf?_agg, cellsOf?_int, cellsOf?_bool, cellsOf?_imm, cellsOf?_ref, cellsOf?_nils, faddr_iptr, faddr_ptr, List.drop_succ_cons, List.drop_zero, List.take_succ_cons, List.take_zero, load1_iptr, loadN_iptr, List.length_cons, List.length_nil, Nat.le_refl, if_true, List.getElem?_cons_zero, List.getElem?_cons_succ, List.getD_cons_zero, List.getD_cons_succ, extrF_tup, binF_add, binF_sub, binF_mul, binF_eql, binF_neq, binF_lss, binF_leq, binF_gtr, binF_geq, true_and]
  have hne : toN ends ≠ [] := by intro h0; rw [h0] at hEl; simp at hEl; omega
  have e : costE w ws ends = wantE w ws (toN ends) (ends.length - 1) (ends.length - 1) := by
    unfold costE
    have := costE_eq (w := w) (ws := ws) ha hne ends.length (by omega)
    rw [hEl] at this
    rw [this]
    obtain ⟨m, hm⟩ : ∃ m, ends.length = m + 1 := ⟨ends.length - 1, by omega⟩
    rw [hm, Nat.add_sub_cancel, wantE, if_neg (by omega), Int.add_zero]
  rw [e] at hk
  exact endK_ret hk

/-- Full, of the reference -/
theorem c49 {w : Int} {v : AV} {ws : List Int} {H : Heap} {K : AV → Heap → Prop} (hv : Reads H v ws) (hlen : ws.length < 2 ^ 60) (hk : K (.tup [sl (fullO w ws), .int .i64 (chk w ws)]) H) : ACalls Try.prog 49 [.agg [.int .i64 w, v]] H K := by
  apply W49_ok
  unfold W49
  simp only [letO_some, cellsOf?_agg, cellsOf?_int, cellsOf?_bool, cellsOf?_imm, cellsOf?_ref, cellsOf?_nils, faddr_iptr, faddr_ptr, List.drop_succ_cons, List.drop_zero, List.take_succ_cons, List.take_zero, load1_iptr, loadN_iptr, List.length_cons, List.length_nil, Nat.le_refl, if_true, List.getElem?_cons_zero, List.getElem?_cons_succ, List.getD_cons_zero, List.getD_cons_succ, extrF_tup, binF_add, binF_sub, binF_mul, binF_eql, binF_neq, binF_lss, binF_leq, binF_gtr, binF_geq, true_and]
  refine c51 hv (by omega) ?_
  simp only [letO_some, cellsOf?_agg, cellsOf?_int, cellsOf?_bool, cellsOf?_imm, cellsOf?_ref, cellsOf?_nils, faddr_iptr, faddr_ptr, List.drop_succ_cons, List.drop_zero, List.take_succ_cons, List.take_zero, load1_iptr, loadN_iptr, List.length_cons, List.length_nil, Nat.le_refl, if_true, List.getElem?_cons_zero, List.getElem?_cons_succ, List.getD_cons_zero, List.getD_cons_succ, extrF_tup, binF_add, binF_sub, binF_mul, binF_eql, binF_neq, binF_lss, binF_leq, binF_gtr, binF_geq, true_and, condA_bool]
  refine ⟨fun h => ?_, fun h => ?_⟩
  · have h : ¬ chk w ws = 0 := by simpa using h
    rw [fullO, if_neg h] at hk
    exact endK_nil (Heap.le_refl _) hk
  have h : chk w ws = 0 := by simpa using h
  rw [fullO, if_pos h, h] at hk
  obtain ⟨w1, w2, n1, n2, hws⟩ := chk_ok h
  refine ⟨fun L H' => ∃ (fr en f : Nat) (l : List Nat) (X : AV), eqv L [X, .int .i64 fr, .int .i64 en] ∧ ((fr < en ∧ en ≤ ws.length ∧ 0 ≤ lf w ws fr en) ∨ (fr = ws.length ∧ en = ws.length + 1)) ∧ Grow 1 H H' X l.length (ints (up l)) ∧ l.length ≤ fr ∧ ws.length - fr ≤ f ∧ l ++ fullE w ws f fr = fullE w ws ws.length 0, fun L _ => (ws.length + 1 - iv L 2).toNat,
    ⟨0, 1, ws.length, [], .nils, rfl, .inl ⟨by omega, by omega, lf_one h (by omega)⟩, Grow.nils 1 H, by simp, by omega, rfl⟩, ?_⟩
  intro L H' hI
  obtain ⟨fr, en, f, l, X, rfl, hcase, hg, hl, hf, hE⟩ := hI
  have hv' := hv.le hg.le
  simp only [letO_some, cellsOf?_agg, cellsOf?_int, cellsOf?_bool, cellsOf?_imm, cellsOf?_ref, cellsOf?_nils, faddr_iptr, faddr_ptr, List.drop_succ_cons, List.drop_zero, List.take_succ_cons, List.take_zero, load1_iptr, loadN_iptr, List.length_cons, List.length_nil, Nat.le_refl, if_true, List.getElem?_cons_zero, List.getElem?_cons_succ, List.getD_cons_zero, List.getD_cons_succ, extrF_tup, binF_add, binF_sub, binF_mul, binF_eql, binF_neq, binF_lss, binF_leq, binF_gtr, binF_geq, true_and, hv.len]
  refine condA_t (fun hle => ?_) (fun hgt => ?_)
  · obtain ⟨h1, h2, h3⟩ : fr < en ∧ en ≤ ws.length ∧ 0 ≤ lf w ws fr en := by
      rcases hcase with h | ⟨_, h⟩
      · exact h
      · omega
    obtain ⟨f, rfl⟩ : ∃ f', f = f' + 1 := ⟨f - 1, by omega⟩
    have step : ∀ (hgr : en = ws.length ∨ lf w ws fr (en + 1) < 0), appendA 1 8 X (.imm 1 true [.int .i64 en]) (fun t36 H12 => eqv [t36, .int .i64 en] [t36, .int .i64 en] ∧ (∃ (fr' f' : Nat) (l' : List Nat) (X' : AV), eqv [t36, .int .i64 en] [X', .int .i64 fr'] ∧ ((fr' < en + 1 ∧ en + 1 ≤ ws.length ∧ 0 ≤ lf w ws fr' (en + 1)) ∨ (fr' = ws.length ∧ en + 1 = ws.length + 1)) ∧ Grow 1 H H12 X' l'.length (ints (up l')) ∧ l'.length ≤ fr' ∧ ws.length - fr' ≤ f' ∧ l' ++ fullE w ws f' fr' = fullE w ws ws.length 0)) H' := by
      intro hgr
      refine appendA_one hg (by omega) fun v' H7 hg7 => ⟨rfl, en, f, l ++ [en], v', rfl, ?_, ?_, by simp; omega, by omega, ?_⟩
      · by_cases he : en = ws.length
        · exact .inr ⟨he, by omega⟩
        · exact .inl ⟨by omega, by omega, lf_one h (by omega)⟩
      · rw [up_snoc]; simpa using hg7
      · rw [← hE, fullE, if_pos (by omega), endN_greedy h h1 h3 h2 hgr]
        simp
    refine ⟨fun L h => ∃ (fr' f' : Nat) (l' : List Nat) (X' : AV), eqv L [X', .int .i64 fr'] ∧ ((fr' < en + 1 ∧ en + 1 ≤ ws.length ∧ 0 ≤ lf w ws fr' (en + 1)) ∨ (fr' = ws.length ∧ en + 1 = ws.length + 1)) ∧ Grow 1 H h X' l'.length (ints (up l')) ∧ l'.length ≤ fr' ∧ ws.length - fr' ≤ f' ∧ l' ++ fullE w ws f' fr' = fullE w ws ws.length 0, ?_, ?_⟩
    · by_cases he : en = ws.length
      · have e1 : ((en : Int) == (ws.length : Int)) = true := by rw [he]; exact beq_self_eq_true _
        simp only [e1, gval_bool, Bool.true_eq_false, if_false, letO_some, condG_tt']
        refine exU ?_
        simp only [gval_bool, Bool.true_eq_false, if_false, letO_some, pickF_true, condA_tt, l22 cellsOf?_int]
        have := step (.inl he)
        exact appendA_mono (fun t h hh => hh.2) this
      · have e1 : ((en : Int) == (ws.length : Int)) = false := by simp; omega
        simp only [e1, gval_bool, if_true, letO_some, binF_add, condG_ff']
        rw [wrap_i64 (by omega) (by omega), show ((en : Int) + 1) = ((en + 1 : Nat) : Int) by omega]
        refine exJ ?_
        refine c79 hv' h (by omega) (by omega) ?_
        simp only [gval_bool, if_true, letO_some, binF_lss, pickF_false]
        refine condA_t (fun hneg => ?_) (fun hnn => ?_)
        · simp only [l22 cellsOf?_int, letO_some]
          have := step (.inr hneg)
          exact appendA_mono (fun t h hh => hh.2) this
        · exact ⟨fr, f + 1, l, X, rfl, .inl ⟨by omega, by omega, by omega⟩, hg, hl, hf, hE⟩
    · rintro L h ⟨fr', f', l', X', rfl, hc', hg', hl', hf', hE'⟩
      simp only [letO_some, cellsOf?_agg, cellsOf?_int, cellsOf?_bool, cellsOf?_imm, cellsOf?_ref, cellsOf?_nils, faddr_iptr, faddr_ptr, List.drop_succ_cons, List.drop_zero, List.take_succ_cons, List.take_zero, load1_iptr, loadN_iptr, List.length_cons, List.length_nil, Nat.le_refl, if_true, List.getElem?_cons_zero, List.getElem?_cons_succ, List.getD_cons_zero, List.getD_cons_succ, extrF_tup, binF_add, binF_sub, binF_mul, binF_eql, binF_neq, binF_lss, binF_leq, binF_gtr, binF_geq, true_and]
      rw [wrap_i64 (by omega) (by omega)]
      refine ⟨⟨fr', en + 1, f', l', X', rfl, hc', hg', hl', hf', hE'⟩, by simp <;> omega⟩
  · have hfr : fr = ws.length := by
      rcases hcase with ⟨_, h, _⟩ | ⟨h, _⟩ <;> omega
    subst hfr
    rw [fullE_done, List.append_nil] at hE
    rw [← hE, sl, up_length] at hk
    exact hg.end2 hk
end Go.Proofs.Ytlajhbpkogekfaa

namespace Go.Proofs.Ytlajhbpkogekfaa
open Go.Av Line
set_option linter.unusedVariables false
set_option linter.unusedSimpArgs false
set_option maxRecDepth 4000

def eqs {α : Type} (a b : α) : Prop := a = b
/-- Two lists that grow may be told in either order. -/
theorem grow_swap {H H1 H' : Heap} {A B : AV} {n m : Nat} {ca cb : List AV} (h1 : Grow 1 H H1 A n ca) (h2 : Grow 1 H1 H' B m cb) : ∃ H2, Grow 1 H H2 B m cb ∧ Grow 1 H2 H' A n ca := by
  rcases h2 with ⟨l2, ⟨rfl, rfl, rfl⟩ | ⟨rfl, rfl⟩ | ⟨b2, hb2, rfl, rfl⟩⟩
  · exact ⟨H, ⟨l2, .inl ⟨rfl, rfl, rfl⟩⟩, h1⟩
  · exact ⟨H, ⟨l2, .inr (.inl ⟨rfl, rfl⟩)⟩, h1⟩
  · rcases h1 with ⟨l1, ⟨rfl, rfl, rfl⟩ | ⟨rfl, rfl⟩ | ⟨b1, hb1, rfl, rfl⟩⟩
    · exact ⟨_, Grow.ref hb2 l2, l1, .inl ⟨rfl, rfl, rfl⟩⟩
    · exact ⟨_, Grow.ref hb2 l2, l1, .inr (.inl ⟨rfl, rfl⟩)⟩
    · have hne : b1 ≠ b2 := Heap.ne_of Heap.put_same hb2
      have hb2' : H b2 = none := by rwa [Heap.put_ne (Ne.symm hne)] at hb2
      refine ⟨H.put b2 cb, Grow.ref hb2' l2, l1, .inr (.inr ⟨b1, by rw [Heap.put_ne hne]; exact hb1, rfl, Heap.put_comm hne⟩)⟩

theorem pls_succ (w : Int) (ws : List Int) (k : Nat) : pls w ws (k + 1) = pls w ws k ++ [(pls w ws (k + 1)).getD (k + 1) (0, 0)] := by
  have : (pls w ws (k + 1)).getD (k + 1) (0, 0) = scanB w ws (pls w ws k) (k + 1) (k + 1) (0, 0) := by
    rw [pls, List.getD_eq_getElem?_getD, List.getElem?_append_right (by simp)]
    simp
  rw [this, pls]
def fst_ (l : List (Int × Nat)) : List Int := l.map fun p => p.1
def snd_ (l : List (Int × Nat)) : List Int := l.map fun p => (p.2 : Int)
theorem fst_get {l : List (Int × Nat)} {i : Nat} : (fst_ l).getD i 0 = (l.getD i (0, 0)).1 := by
  simp only [fst_, List.getD_eq_getElem?_getD, List.getElem?_map]
  cases l[i]? <;> rfl

/-- prices, of the law -/
theorem c54 {w : Int} {v : AV} {ws : List Int} {H : Heap} {K : AV → Heap → Prop} (hv : Reads H v ws) (hc : chk w ws = 0) (hk : K (.tup [sl (pricesL w ws), sl (startsL w ws)]) H) : ACalls Try.prog 54 [.agg [.int .i64 w, v]] H K := by
  apply W54_ok
  unfold W54
  obtain ⟨w1, w2, n1, n2, hws⟩ := chk_ok hc
  simp only [letO_some, cellsOf?_agg, cellsOf?_int, cellsOf?_bool, cellsOf?_imm, cellsOf?_ref, cellsOf?_nils, faddr_iptr, faddr_ptr, List.drop_succ_cons, List.drop_zero, List.take_succ_cons, List.take_zero, load1_iptr, loadN_iptr, List.length_cons, List.length_nil, Nat.le_refl, if_true, List.getElem?_cons_zero, List.getElem?_cons_succ, List.getD_cons_zero, List.getD_cons_succ, extrF_tup, binF_add, binF_sub, binF_mul, binF_eql, binF_neq, binF_lss, binF_leq, binF_gtr, binF_geq, true_and, l22 cellsOf?_int]
  refine c46 ?_
  refine ⟨fun L H' => ∃ (k : Nat) (A B : AV) (H1 : Heap), eqs L [A, B, .int .i64 ((k + 1 : Nat) : Int)] ∧ k ≤ ws.length ∧ Grow 1 H H1 A (k + 1) (ints (fst_ (pls w ws k))) ∧ Grow 1 H1 H' B k (ints (snd_ ((pls w ws k).drop 1))) ∧ (0 < k → isOwn A ∧ isOwn B), fun L _ => (ws.length + 1 - iv L 2).toNat,
    ⟨0, .imm 1 true [.int .i64 0], .nils, H, rfl, by omega, Grow.imm rfl, Grow.nils 1 H, fun h => absurd h (by omega)⟩, ?_⟩
  intro L H' hI
  obtain ⟨k, A, B, H1, rfl, hkn, hgA, hgB, hown⟩ := hI
  have hle : H.le H' := Heap.le_trans hgA.le hgB.le
  have hv' := hv.le hle
  have hrA : Reads H' A (fst_ (pls w ws k)) := hgA.reads.le hgB.le
  simp only [letO_some, cellsOf?_agg, cellsOf?_int, cellsOf?_bool, cellsOf?_imm, cellsOf?_ref, cellsOf?_nils, faddr_iptr, faddr_ptr, List.drop_succ_cons, List.drop_zero, List.take_succ_cons, List.take_zero, load1_iptr, loadN_iptr, List.length_cons, List.length_nil, Nat.le_refl, if_true, List.getElem?_cons_zero, List.getElem?_cons_succ, List.getD_cons_zero, List.getD_cons_succ, extrF_tup, binF_add, binF_sub, binF_mul, binF_eql, binF_neq, binF_lss, binF_leq, binF_gtr, binF_geq, true_and, hv.len]
  refine condA_t (fun hlt => ?_) (fun hge => ?_)
  · have hk1 : k < ws.length := by omega
    have hPb := pls_bd (w := w) (ws := ws) hc k
    let inv : Nat → Int → Nat → Prop := fun i least start => (least = -1 ∧ start = 0 ∧ ∀ i', i' < i → lf w ws i' (k + 1) < 0) ∨
      (start < i ∧ 0 ≤ lf w ws start (k + 1) ∧ least = costL w ws (pls w ws k) (k + 1) start ∧ ∀ i', i' < i → 0 ≤ lf w ws i' (k + 1) → least ≤ costL w ws (pls w ws k) (k + 1) i' ∧ (i' < start → least < costL w ws (pls w ws k) (k + 1) i'))
    have hcb : ∀ i, 0 ≤ costL w ws (pls w ws k) (k + 1) i ∧ costL w ws (pls w ws k) (k + 1) i ≤ 40000000000 * (k + 1) := by
      intro i
      have := hPb i
      have := sqf_bnd hc i (k + 1)
      unfold costL; omega
    refine ⟨fun L H'' => ∃ (i : Nat) (least : Int) (start : Nat), eqs L [.int .i64 least, .int .i64 start, .int .i64 i] ∧ i ≤ k + 1 ∧ eqs H'' H' ∧ inv i least start, fun L _ => (k + 1 - iv L 2).toNat,
      ⟨0, -1, 0, rfl, by omega, rfl, .inl ⟨rfl, rfl, fun i h => absurd h (by omega)⟩⟩, ?_⟩
    intro L H'' hJ
    obtain ⟨i, least, start, rfl, hi, rfl, hinv⟩ := hJ
    simp only [letO_some, cellsOf?_agg, cellsOf?_int, cellsOf?_bool, cellsOf?_imm, cellsOf?_ref, cellsOf?_nils, faddr_iptr, faddr_ptr, List.drop_succ_cons, List.drop_zero, List.take_succ_cons, List.take_zero, load1_iptr, loadN_iptr, List.length_cons, List.length_nil, Nat.le_refl, if_true, List.getElem?_cons_zero, List.getElem?_cons_succ, List.getD_cons_zero, List.getD_cons_succ, extrF_tup, binF_add, binF_sub, binF_mul, binF_eql, binF_neq, binF_lss, binF_leq, binF_gtr, binF_geq, true_and]
    refine condA_t (fun hlt2 => ?_) (fun hge2 => ?_)
    · have hik : i < k + 1 := by omega
      refine ⟨fun L h => ∃ (least' : Int) (start' : Nat), eqs L [.int .i64 least', .int .i64 start'] ∧ eqs h H'' ∧ inv (i + 1) least' start', ?_, ?_⟩
      · refine c43 hv' hc hik (by omega) ?_
        simp only [letO_some, cellsOf?_agg, cellsOf?_int, cellsOf?_bool, cellsOf?_imm, cellsOf?_ref, cellsOf?_nils, faddr_iptr, faddr_ptr, List.drop_succ_cons, List.drop_zero, List.take_succ_cons, List.take_zero, load1_iptr, loadN_iptr, List.length_cons, List.length_nil, Nat.le_refl, if_true, List.getElem?_cons_zero, List.getElem?_cons_succ, List.getD_cons_zero, List.getD_cons_succ, extrF_tup, binF_add, binF_sub, binF_mul, binF_eql, binF_neq, binF_lss, binF_leq, binF_gtr, binF_geq, true_and]
        refine condA_t (fun hneg => ?_) (fun hnn => ?_)
        · refine ⟨least, start, rfl, rfl, ?_⟩
          rcases hinv with ⟨h1, h2, h3⟩ | ⟨h1, h2, h3, h4⟩
          · refine .inl ⟨h1, h2, fun i' hi' => ?_⟩
            by_cases he : i' = i
            · subst he; exact hneg
            · exact h3 i' (by omega)
          · refine .inr ⟨by omega, h2, h3, fun i' hi' hf => ?_⟩
            by_cases he : i' = i
            · subst he; omega
            · exact h4 i' (by omega) hf
        · refine hrA.get (Heap.le_refl _) (by omega) (by simp [fst_]; omega) ?_
          rw [Int.toNat_natCast, fst_get]
          have hsq := sqf_bnd hc i (k + 1)
          have hPi := hPb i
          have hci : ((pls w ws k).getD i (0, 0)).1 + sqf w ws i (k + 1) = costL w ws (pls w ws k) (k + 1) i := rfl
          have hsqf : lf w ws i (k + 1) * lf w ws i (k + 1) = sqf w ws i (k + 1) := rfl
          simp only [letO_some, cellsOf?_agg, cellsOf?_int, cellsOf?_bool, cellsOf?_imm, cellsOf?_ref, cellsOf?_nils, faddr_iptr, faddr_ptr, List.drop_succ_cons, List.drop_zero, List.take_succ_cons, List.take_zero, load1_iptr, loadN_iptr, List.length_cons, List.length_nil, Nat.le_refl, if_true, List.getElem?_cons_zero, List.getElem?_cons_succ, List.getD_cons_zero, List.getD_cons_succ, extrF_tup, binF_add, binF_sub, binF_mul, binF_eql, binF_neq, binF_lss, binF_leq, binF_gtr, binF_geq, true_and]
          rw [hsqf, wrap_i64 (n := sqf w ws i (k + 1)) (by omega) (by omega), wrap_i64 (n := ((pls w ws k).getD i (0, 0)).1 + sqf w ws i (k + 1)) (by omega) (by omega), hci]
          rcases hinv with ⟨rfl, h2, h3⟩ | ⟨h1, h2, h3, h4⟩
          · have e : decide ((-1 : Int) < 0) = true := rfl
            simp only [e, gval_bool, Bool.true_eq_false, if_false, letO_some, pickF_true, condA_tt]
            refine ⟨_, i, rfl, rfl, .inr ⟨by omega, by omega, rfl, fun i' hi' hf => ?_⟩⟩
            by_cases he : i' = i
            · subst he; exact ⟨Int.le_refl _, fun h => absurd h (Nat.lt_irrefl _)⟩
            · have := h3 i' (by omega); omega
          · have hcs := hcb start
            have e : decide (least < 0) = false := by simp; omega
            simp only [e, gval_bool, if_true, letO_some, binF_lss, pickF_false]
            refine condA_t (fun hless => ?_) (fun hnl => ?_)
            · refine ⟨_, i, rfl, rfl, .inr ⟨by omega, by omega, rfl, fun i' hi' hf => ?_⟩⟩
              by_cases he : i' = i
              · subst he; exact ⟨Int.le_refl _, fun h => absurd h (Nat.lt_irrefl _)⟩
              · have := h4 i' (by omega) hf
                exact ⟨by omega, fun _ => by omega⟩
            · refine ⟨least, start, rfl, rfl, .inr ⟨by omega, h2, h3, fun i' hi' hf => ?_⟩⟩
              by_cases he : i' = i
              · subst he; exact ⟨by omega, fun h => by omega⟩
              · exact h4 i' (by omega) hf
      · rintro L h ⟨least', start', rfl, rfl, hinv'⟩
        simp only [letO_some, cellsOf?_agg, cellsOf?_int, cellsOf?_bool, cellsOf?_imm, cellsOf?_ref, cellsOf?_nils, faddr_iptr, faddr_ptr, List.drop_succ_cons, List.drop_zero, List.take_succ_cons, List.take_zero, load1_iptr, loadN_iptr, List.length_cons, List.length_nil, Nat.le_refl, if_true, List.getElem?_cons_zero, List.getElem?_cons_succ, List.getD_cons_zero, List.getD_cons_succ, extrF_tup, binF_add, binF_sub, binF_mul, binF_eql, binF_neq, binF_lss, binF_leq, binF_gtr, binF_geq, true_and]
        rw [wrap_i64 (by omega) (by omega)]
        exact ⟨⟨i + 1, least', start', rfl, by omega, rfl, hinv'⟩, by simp <;> omega⟩
    · have hik : i = k + 1 := by omega
      subst hik
      have hone := lf_one hc hk1
      have hb : (least, start) = (pls w ws (k + 1)).getD (k + 1) (0, 0) := by
        refine bst_unique (w := w) (ws := ws) (P := pls w ws k) (j := k + 1) ?_ (pls_bst hc hk1)
        rcases hinv with ⟨_, _, h3⟩ | ⟨h1, h2, h3, h4⟩
        · have := h3 k (by omega); omega
        · exact ⟨h1, h2, h3, h4⟩
      have hps := pls_succ w ws k
      rw [← hb] at hps
      simp only [l22 cellsOf?_int, letO_some]
      obtain ⟨H2, g1, g2⟩ := grow_swap hgA hgB
      refine appendA_oneR g2 (by omega) fun A' H17 gA' hoA => ?_
      obtain ⟨H3, g3, g4⟩ := grow_swap g1 gA'
      refine appendA_oneR g4 (by omega) fun B' H19 gB' hoB => ?_
      rw [wrap_i64 (by omega) (by omega)]
      refine ⟨⟨k + 1, A', B', H3, rfl, by omega, ?_, ?_, fun _ => ⟨hoA, hoB⟩⟩, by simp <;> omega⟩
      · have : fst_ (pls w ws (k + 1)) = fst_ (pls w ws k) ++ [least] := by rw [hps]; simp [fst_]
        rw [this]; exact g3
      · have : snd_ ((pls w ws (k + 1)).drop 1) = snd_ ((pls w ws k).drop 1) ++ [(start : Int)] := by
          rw [hps, List.drop_append_of_le_length (by simp)]; simp [snd_]
        rw [this]; exact gB'
  · have hkn' : k = ws.length := by omega
    subst hkn'
    obtain ⟨hoA, hoB⟩ := hown (by omega)
    obtain ⟨b1, hb1, rfl, rfl⟩ := hgA.own hoA
    obtain ⟨b2, hb2, rfl, rfl⟩ := hgB.own hoB
    have hne : b1 ≠ b2 := Heap.ne_of Heap.put_same hb2
    have hla : (fst_ (pls w ws ws.length)).length = ws.length + 1 := by simp [fst_]
    have hlb : (snd_ ((pls w ws ws.length).drop 1)).length = ws.length := by simp [snd_]
    have hs : slc 1 (.ref 1 b1 0 (ws.length + 1) none) none (some (.int .i64 (ws.length : Int))) none = some (.ref 1 b1 0 ws.length none) := by
      have e : natOf (some (.int .i64 (ws.length : Int))) (ws.length + 1) = some ws.length := by simp [natOf]
      have e2 : natOf none 0 = some 0 := rfl
      simp only [slc, e, e2, Option.bind_some]
      rw [if_pos ⟨by trivial, by omega, by omega, by simp⟩]
      simp
    simp only [hs, letO_some]
    refine endK_freeze (b := b2) (cells := ints (snd_ ((pls w ws ws.length).drop 1))) Heap.put_same ?_
    have e1 : lift (lift (frz1 b2 (ints (snd_ ((pls w ws ws.length).drop 1))))) (.tup [.ref 1 b1 0 ws.length none, .ref 1 b2 0 ws.length none]) = .tup [.ref 1 b1 0 ws.length none, sl (startsL w ws)] := by
      have f1 : frz1 b2 (ints (snd_ ((pls w ws ws.length).drop 1))) (.ref 1 b1 0 ws.length none) = .ref 1 b1 0 ws.length none := by simp [frz1, hne]
      have f2 : frz1 b2 (ints (snd_ ((pls w ws ws.length).drop 1))) (.ref 1 b2 0 ws.length none) = sl (startsL w ws) := by
        have : startsL w ws = snd_ ((pls w ws ws.length).drop 1) := rfl
        rw [this, sl, hlb]
        have h3 : (ints (snd_ ((pls w ws ws.length).drop 1))).length = ws.length := by rw [ints_length, hlb]
        simp only [frz1, Nat.mul_one, Nat.zero_add, h3, Nat.le_refl, and_self, if_true, List.drop_zero]
        rw [List.take_of_length_le (Nat.le_of_eq h3)]
      simp only [lift, List.map, f1, f2]
    rw [e1]
    refine endK_freeze (b := b1) (cells := ints (fst_ (pls w ws ws.length))) (by rw [Heap.put_del hb2]; exact Heap.put_same) ?_
    have e2 : lift (lift (frz1 b1 (ints (fst_ (pls w ws ws.length))))) (.tup [.ref 1 b1 0 ws.length none, sl (startsL w ws)]) = .tup [sl (pricesL w ws), sl (startsL w ws)] := by
      have f1 : frz1 b1 (ints (fst_ (pls w ws ws.length))) (.ref 1 b1 0 ws.length none) = sl (pricesL w ws) := by
        have : pricesL w ws = (fst_ (pls w ws ws.length)).take ws.length := by simp [pricesL, fst_, List.map_take]
        rw [this, sl, List.length_take, hla, Nat.min_eq_left (by omega)]
        have h3 : (ints (fst_ (pls w ws ws.length))).length = ws.length + 1 := by rw [ints_length, hla]
        simp only [frz1, Nat.mul_one, Nat.zero_add, h3, List.drop_zero]
        rw [if_pos ⟨by trivial, by omega⟩, ints_take]
      have f2 : frz1 b1 (ints (fst_ (pls w ws ws.length))) (sl (startsL w ws)) = sl (startsL w ws) := rfl
      simp only [lift, List.map, f1]
      rfl
    rw [e2, Heap.put_del hb2, Heap.put_del hb1]
    exact endK_ret hk

/-- cmp.Less, cmp.isNaN -/
theorem c94 {a : Int} {H : Heap} {K : AV → Heap → Prop} (hk : K (.bool false) H) : ACalls Try.prog 94 [.int .i64 a] H K := by
  apply W94_ok
  unfold W94
  simp only [letO_some, cellsOf?_agg, cellsOf?_int, cellsOf?_bool, cellsOf?_imm, cellsOf?_ref, cellsOf?_nils, faddr_iptr, faddr_ptr, List.drop_succ_cons, List.drop_zero, List.take_succ_cons, List.take_zero, load1_iptr, loadN_iptr, List.length_cons, List.length_nil, Nat.le_refl, if_true, List.getElem?_cons_zero, List.getElem?_cons_succ, List.getD_cons_zero, List.getD_cons_succ, extrF_tup, binF_add, binF_sub, binF_mul, binF_eql, binF_neq, binF_lss, binF_leq, binF_gtr, binF_geq, true_and, bne_self_eq_false]
  exact endK_ret hk
theorem c86 {a b : Int} {H : Heap} {K : AV → Heap → Prop} (hk : K (.bool (decide (a < b))) H) : ACalls Try.prog 86 [.int .i64 a, .int .i64 b] H K := by
  apply W86_ok
  unfold W86
  try simp only [letO_some, cellsOf?_agg, cellsOf?_int, cellsOf?_bool, cellsOf?_imm, cellsOf?_ref, cellsOf?_nils, faddr_iptr, faddr_ptr, List.drop_succ_cons, List.drop_zero, List.take_succ_cons, List.take_zero, load1_iptr, loadN_iptr, List.length_cons, List.length_nil, Nat.le_refl, if_true, List.getElem?_cons_zero, List.getElem?_cons_succ, List.getD_cons_zero, List.getD_cons_succ, extrF_tup, binF_add, binF_sub, binF_mul, binF_eql, binF_neq, binF_lss, binF_leq, binF_gtr, binF_geq, true_and]
  refine c94 ?_
  simp only [letO_some, cellsOf?_agg, cellsOf?_int, cellsOf?_bool, cellsOf?_imm, cellsOf?_ref, cellsOf?_nils, faddr_iptr, faddr_ptr, List.drop_succ_cons, List.drop_zero, List.take_succ_cons, List.take_zero, load1_iptr, loadN_iptr, List.length_cons, List.length_nil, Nat.le_refl, if_true, List.getElem?_cons_zero, List.getElem?_cons_succ, List.getD_cons_zero, List.getD_cons_succ, extrF_tup, binF_add, binF_sub, binF_mul, binF_eql, binF_neq, binF_lss, binF_leq, binF_gtr, binF_geq, true_and, gval_bool, Int.reduceBNe, Int.reduceBEq, pickF_true, pickF_false, reduceIte, Bool.true_eq_false, Bool.false_eq_true, if_false, condA_tt, condA_ff, condG_tt, condG_ff, condG_tt', condG_ff', condG_undef, gval_undef]
  refine exU ?_
  try simp only [letO_some, cellsOf?_agg, cellsOf?_int, cellsOf?_bool, cellsOf?_imm, cellsOf?_ref, cellsOf?_nils, faddr_iptr, faddr_ptr, List.drop_succ_cons, List.drop_zero, List.take_succ_cons, List.take_zero, load1_iptr, loadN_iptr, List.length_cons, List.length_nil, Nat.le_refl, if_true, List.getElem?_cons_zero, List.getElem?_cons_succ, List.getD_cons_zero, List.getD_cons_succ, extrF_tup, binF_add, binF_sub, binF_mul, binF_eql, binF_neq, binF_lss, binF_leq, binF_gtr, binF_geq, true_and, gval_bool, Int.reduceBNe, Int.reduceBEq, pickF_true, pickF_false, reduceIte, Bool.true_eq_false, Bool.false_eq_true, if_false, condA_tt, condA_ff, condG_tt, condG_ff, condG_tt', condG_ff', condG_undef, gval_undef]
  exact endK_ret hk
/-- slices.IsSorted -/
theorem c61 {v : AV} {l : List Int} {H : Heap} {K : AV → Heap → Prop} (hv : Reads H v l) (hl : l.length < 1000) (hs : ∀ k, k + 1 < l.length → l.getD k 0 ≤ l.getD (k + 1) 0) (hk : K (.bool true) H) : ACalls Try.prog 61 [v] H K := by
  apply W61_ok
  unfold W61
  simp only [letO_some, cellsOf?_agg, cellsOf?_int, cellsOf?_bool, cellsOf?_imm, cellsOf?_ref, cellsOf?_nils, faddr_iptr, faddr_ptr, List.drop_succ_cons, List.drop_zero, List.take_succ_cons, List.take_zero, load1_iptr, loadN_iptr, List.length_cons, List.length_nil, Nat.le_refl, if_true, List.getElem?_cons_zero, List.getElem?_cons_succ, List.getD_cons_zero, List.getD_cons_succ, extrF_tup, binF_add, binF_sub, binF_mul, binF_eql, binF_neq, binF_lss, binF_leq, binF_gtr, binF_geq, true_and, hv.len]
  rw [wrap_i64 (by omega) (by omega)]
  refine ⟨fun L H' => ∃ i : Nat, eqs L [.int .i64 ((i : Int) - 1)] ∧ i ≤ l.length ∧ eqs H' H, fun L _ => (iv L 0).toNat, ⟨l.length, rfl, by omega, rfl⟩, ?_⟩
  intro L H' hI
  obtain ⟨i, rfl, hi, rfl⟩ := hI
  simp only [letO_some, cellsOf?_agg, cellsOf?_int, cellsOf?_bool, cellsOf?_imm, cellsOf?_ref, cellsOf?_nils, faddr_iptr, faddr_ptr, List.drop_succ_cons, List.drop_zero, List.take_succ_cons, List.take_zero, load1_iptr, loadN_iptr, List.length_cons, List.length_nil, Nat.le_refl, if_true, List.getElem?_cons_zero, List.getElem?_cons_succ, List.getD_cons_zero, List.getD_cons_succ, extrF_tup, binF_add, binF_sub, binF_mul, binF_eql, binF_neq, binF_lss, binF_leq, binF_gtr, binF_geq, true_and]
  refine condA_t (fun hlt => ?_) (fun hge => ?_)
  · obtain ⟨i, rfl⟩ : ∃ i', i = i' + 2 := ⟨i - 2, by omega⟩
    rw [wrap_i64 (by omega) (by omega)]
    have h1 := hs i (by omega)
    refine hv.get (Heap.le_refl _) (by omega) (by omega) ?_
    rw [show (((i + 2 : Nat) : Int) - 1).toNat = i + 1 by omega]
    refine hv.get (Heap.le_refl _) (by omega) (by omega) ?_
    rw [show (((i + 2 : Nat) : Int) - 1 - 1).toNat = i by omega]
    refine c86 ?_
    have e : decide (l.getD (i + 1) 0 < l.getD i 0) = false := by simp only [decide_eq_false_iff_not]; omega
    rw [e]
    simp only [condA_ff]
    exact ⟨⟨i + 1, by unfold eqs; congr 2; omega, by omega, rfl⟩, by simp <;> omega⟩
  · exact endK_ret hk
end Go.Proofs.Ytlajhbpkogekfaa

namespace Go.Proofs.Ytlajhbpkogekfaa
open Go.Av Line
set_option linter.unusedVariables false
set_option linter.unusedSimpArgs false
set_option maxRecDepth 4000

def eqt {α : Type} (a b : α) : Prop := a = b
theorem not_b {b : Bool} : unF .not (.bool b) = some (.bool !b) := rfl
theorem frz_sl {b n : Nat} {l : List Int} (hn : n = l.length) : frz1 b (ints l) (.ref 1 b 0 n none) = sl l := by
  subst hn
  have h : (0 : Nat) + l.length * 1 ≤ (ints l).length := by simp
  show (if b = b ∧ 0 + l.length * 1 ≤ (ints l).length then AV.imm l.length false (((ints l).drop 0).take (l.length * 1)) else .ref 1 b 0 l.length none) = sl l
  rw [if_pos ⟨rfl, h⟩, List.drop_zero, List.take_of_length_le (by simp)]
  rfl
/-- filled -/
theorem c35 {w : Int} {v : AV} {ws : List Int} {H : Heap} {K : AV → Heap → Prop} (hv : Reads H v ws) (hc : chk w ws = 0) (hk : K (sl (up (fullE w ws ws.length 0))) H) : ACalls Try.prog 35 [.agg [.int .i64 w, v]] H K := by
  apply W35_ok
  unfold W35
  obtain ⟨w1, w2, n1, n2, hws⟩ := chk_ok hc
  simp only [letO_some, cellsOf?_agg, cellsOf?_int, cellsOf?_bool, cellsOf?_imm, cellsOf?_ref, cellsOf?_nils, faddr_iptr, faddr_ptr, List.drop_succ_cons, List.drop_zero, List.take_succ_cons, List.take_zero, load1_iptr, loadN_iptr, List.length_cons, List.length_nil, Nat.le_refl, if_true, List.getElem?_cons_zero, List.getElem?_cons_succ, List.getD_cons_zero, List.getD_cons_succ, extrF_tup, binF_add, binF_sub, binF_mul, binF_eql, binF_neq, binF_lss, binF_leq, binF_gtr, binF_geq, true_and]
  refine ⟨fun L H' => ∃ (fr f : Nat) (l : List Nat) (X : AV), eqt L [X, .int .i64 fr] ∧ fr ≤ ws.length ∧ Grow 1 H H' X l.length (ints (up l)) ∧ l.length ≤ fr ∧ ws.length - fr ≤ f ∧ l ++ fullE w ws f fr = fullE w ws ws.length 0, fun L _ => (ws.length - iv L 1).toNat,
    ⟨0, ws.length, [], .nils, rfl, by omega, Grow.nils 1 H, by simp, by omega, rfl⟩, ?_⟩
  intro L H' hI
  obtain ⟨fr, f, l, X, rfl, hn, hg, hl, hf, hE⟩ := hI
  have hv' := hv.le hg.le
  simp only [letO_some, cellsOf?_agg, cellsOf?_int, cellsOf?_bool, cellsOf?_imm, cellsOf?_ref, cellsOf?_nils, faddr_iptr, faddr_ptr, List.drop_succ_cons, List.drop_zero, List.take_succ_cons, List.take_zero, load1_iptr, loadN_iptr, List.length_cons, List.length_nil, Nat.le_refl, if_true, List.getElem?_cons_zero, List.getElem?_cons_succ, List.getD_cons_zero, List.getD_cons_succ, extrF_tup, binF_add, binF_sub, binF_mul, binF_eql, binF_neq, binF_lss, binF_leq, binF_gtr, binF_geq, true_and, hv.len]
  refine condA_t (fun hlt => ?_) (fun hge => ?_)
  · have hlt : fr < ws.length := by omega
    rw [wrap_i64 (by omega) (by omega)]
    refine ⟨fun L H'' => ∃ to : Nat, eqt L [.int .i64 to] ∧ fr < to ∧ to ≤ ws.length ∧ 0 ≤ lf w ws fr to ∧ eqt H'' H', fun L _ => (ws.length - iv L 0).toNat, ⟨fr + 1, rfl, by omega, by omega, lf_one hc hlt, rfl⟩, ?_⟩
    intro L H'' hJ
    obtain ⟨to, rfl, h1, h2, h3, rfl⟩ := hJ
    obtain ⟨f, rfl⟩ : ∃ f', f = f' + 1 := ⟨f - 1, by omega⟩
    simp only [letO_some, cellsOf?_agg, cellsOf?_int, cellsOf?_bool, cellsOf?_imm, cellsOf?_ref, cellsOf?_nils, faddr_iptr, faddr_ptr, List.drop_succ_cons, List.drop_zero, List.take_succ_cons, List.take_zero, load1_iptr, loadN_iptr, List.length_cons, List.length_nil, Nat.le_refl, if_true, List.getElem?_cons_zero, List.getElem?_cons_succ, List.getD_cons_zero, List.getD_cons_succ, extrF_tup, binF_add, binF_sub, binF_mul, binF_eql, binF_neq, binF_lss, binF_leq, binF_gtr, binF_geq, true_and]
    have stop : (to = ws.length ∨ lf w ws fr (to + 1) < 0) → appendA 1 8 X (.imm 1 true [.int .i64 to]) (fun t31 H14 => (∃ (fr f : Nat) (l : List Nat) (X : AV), eqt [t31, .int .i64 to] [X, .int .i64 fr] ∧ fr ≤ ws.length ∧ Grow 1 H H14 X l.length (ints (up l)) ∧ l.length ≤ fr ∧ ws.length - fr ≤ f ∧ l ++ fullE w ws f fr = fullE w ws ws.length 0) ∧
        (ws.length - iv [t31, .int .i64 to] 1).toNat < (ws.length - iv [X, .int .i64 fr] 1).toNat) H'' := by
      intro hgr
      refine appendA_one hg (by omega) fun v' H7 hg7 => ⟨⟨to, f, l ++ [to], v', rfl, h2, ?_, by simp; omega, by omega, ?_⟩, by simp; omega⟩
      · rw [up_snoc]; simpa using hg7
      · rw [← hE, fullE, if_pos hlt, endN_greedy hc h1 h3 h2 hgr]
        simp
    by_cases ht : to < ws.length
    · have e1 : decide ((to : Int) < (ws.length : Int)) = true := by simp; omega
      have hto1 : IntKind.i64.wrap ((to : Int) + 1) = ((to + 1 : Nat) : Int) := by rw [wrap_i64 (by omega) (by omega)]; simp
      simp only [e1, gval_bool, if_true, letO_some, hto1, binF_add, condG_tt]
      refine exJ ?_
      refine c43 hv' hc (show fr < to + 1 by omega) (by omega) ?_
      simp only [gval_bool, if_true, letO_some, binF_geq, pickF_true]
      refine condA_t (fun hnn => ?_) (fun hneg => ?_)
      · exact ⟨⟨to + 1, rfl, by omega, by omega, hnn, rfl⟩, by simp <;> omega⟩
      · simp only [l22 cellsOf?_int, letO_some]
        exact stop (.inr (by omega))
    · have e1 : decide ((to : Int) < (ws.length : Int)) = false := by simp; omega
      simp only [e1, gval_bool, Bool.false_eq_true, if_false, letO_some, condG_ff]
      refine exU ?_
      simp only [gval_bool, Bool.false_eq_true, if_false, letO_some, pickF_false, condA_ff, l22 cellsOf?_int]
      exact stop (.inl (by omega))
  · have hfr : fr = ws.length := by omega
    subst hfr
    rw [fullE_done, List.append_nil] at hE
    rw [← hE, sl, up_length] at hk
    exact hg.end1 hk

/-- each$1: the ends that begin so, in order, are handed to a function -/
theorem c80 {w : Int} {ws : List Int} {g : FuncId} {caps : List AV} {b4 : Nat} (hc : chk w ws = 0) (Inv : List (List Nat) → Heap → Prop)
    (hput : ∀ done H, Inv done H → H b4 = some [.fn 80 [.iptr [.int .i64 w, sl ws], .iptr [.fn g caps], .ptr b4 0]])
    (hvis : ∀ done H F, okEnds w ws F → Inv done H → ∀ K : AV → Heap → Prop, (∀ r H', Inv (done ++ [F]) H' → K r H') → ACalls Try.prog g ([sl (up F), sl (leftL w ws F F.length)] ++ caps) H K) :
    ∀ (f fr : Nat) (E : List Nat) (done : List (List Nat)) (H : Heap) (K : AV → Heap → Prop), prt w ws E → E.getLastD 0 = fr → fr ≤ ws.length → ws.length - fr ≤ f → E.length ≤ fr → Inv done H → (∀ H', Inv (done ++ (ext w ws f fr).map (fun G => E ++ G)) H' → K (.tup []) H') →
      ACalls Try.prog 80 [sl (up E), sl (leftL w ws E E.length), .int .i64 fr, .iptr [.int .i64 w, sl ws], .iptr [.fn g caps], .ptr b4 0] H K := by
  obtain ⟨w1, w2, n1, n2, hws⟩ := chk_ok hc
  intro f
  induction f with
  | zero =>
    intro fr E done H K hp he hn hf hel hI hk
    apply W80_ok
    unfold W80
    have hvl := (Reads.sl H ws).len
    have hfr : fr = ws.length := by omega
    have e1 : ((fr : Int) == (ws.length : Int)) = true := by rw [hfr]; exact beq_self_eq_true _
    simp only [letO_some, cellsOf?_agg, cellsOf?_int, cellsOf?_bool, cellsOf?_imm, cellsOf?_ref, cellsOf?_nils, faddr_iptr, faddr_ptr, List.drop_succ_cons, List.drop_zero, List.take_succ_cons, List.take_zero, load1_iptr, loadN_iptr, List.length_cons, List.length_nil, Nat.le_refl, if_true, List.getElem?_cons_zero, List.getElem?_cons_succ, List.getD_cons_zero, List.getD_cons_succ, extrF_tup, binF_add, binF_sub, binF_mul, binF_eql, binF_neq, binF_lss, binF_leq, binF_gtr, binF_geq, true_and, hvl, e1, condA_tt, callA_fn]
    refine hvis done H E ⟨hp.1, by omega, hp.2⟩ hI _ fun r H' hI' => ?_
    refine endK_ret (hk _ ?_)
    rw [ext, if_pos hfr]
    simpa using hI'
  | succ f ih =>
    intro fr E done H K hp he hn hf hel hI hk
    apply W80_ok
    unfold W80
    have hvl : ∀ H, lenA (sl ws) = some (.int .i64 ws.length) := fun H => (Reads.sl H ws).len
    by_cases hfr : fr = ws.length
    · have e1 : ((fr : Int) == (ws.length : Int)) = true := by rw [hfr]; exact beq_self_eq_true _
      simp only [letO_some, cellsOf?_agg, cellsOf?_int, cellsOf?_bool, cellsOf?_imm, cellsOf?_ref, cellsOf?_nils, faddr_iptr, faddr_ptr, List.drop_succ_cons, List.drop_zero, List.take_succ_cons, List.take_zero, load1_iptr, loadN_iptr, List.length_cons, List.length_nil, Nat.le_refl, if_true, List.getElem?_cons_zero, List.getElem?_cons_succ, List.getD_cons_zero, List.getD_cons_succ, extrF_tup, binF_add, binF_sub, binF_mul, binF_eql, binF_neq, binF_lss, binF_leq, binF_gtr, binF_geq, true_and, hvl H, e1, condA_tt, callA_fn]
      refine hvis done H E ⟨hp.1, by omega, hp.2⟩ hI _ fun r H' hI' => ?_
      refine endK_ret (hk _ ?_)
      rw [ext, if_pos hfr]
      simpa using hI'
    · have e1 : ((fr : Int) == (ws.length : Int)) = false := by simp; omega
      have hEl : lenA (sl (up E)) = some (.int .i64 E.length) := by have := (Reads.sl H (up E)).len; simpa using this
      simp only [letO_some, cellsOf?_agg, cellsOf?_int, cellsOf?_bool, cellsOf?_imm, cellsOf?_ref, cellsOf?_nils, faddr_iptr, faddr_ptr, List.drop_succ_cons, List.drop_zero, List.take_succ_cons, List.take_zero, load1_iptr, loadN_iptr, List.length_cons, List.length_nil, Nat.le_refl, if_true, List.getElem?_cons_zero, List.getElem?_cons_succ, List.getD_cons_zero, List.getD_cons_succ, extrF_tup, binF_add, binF_sub, binF_mul, binF_eql, binF_neq, binF_lss, binF_leq, binF_gtr, binF_geq, true_and, hvl H, hEl, e1, condA_ff]
      rw [wrap_i64 (by omega) (by omega)]
      rw [ext_succ hfr] at hk
      refine ⟨fun L H' => ∃ m : Nat, eqt L [.int .i64 ((fr + 1 + m : Nat) : Int)] ∧ fr + 1 + m ≤ ws.length + 1 ∧ Inv (done ++ (extTo w ws f fr m).map (fun G => E ++ G)) H', fun L _ => (ws.length + 1 - iv L 0).toNat, ⟨0, by unfold eqt; congr 2, by omega, by simpa [extTo] using hI⟩, ?_⟩
      intro L H' hJ
      obtain ⟨m, rfl, hm, hI'⟩ := hJ
      simp only [letO_some, cellsOf?_agg, cellsOf?_int, cellsOf?_bool, cellsOf?_imm, cellsOf?_ref, cellsOf?_nils, faddr_iptr, faddr_ptr, List.drop_succ_cons, List.drop_zero, List.take_succ_cons, List.take_zero, load1_iptr, loadN_iptr, List.length_cons, List.length_nil, Nat.le_refl, if_true, List.getElem?_cons_zero, List.getElem?_cons_succ, List.getD_cons_zero, List.getD_cons_succ, extrF_tup, binF_add, binF_sub, binF_mul, binF_eql, binF_neq, binF_lss, binF_leq, binF_gtr, binF_geq, true_and, hvl H']
      refine condA_t (fun hle => ?_) (fun hgt => ?_)
      · generalize hj : fr + 1 + m = j at *
        have hjn : j ≤ ws.length := by omega
        refine ⟨fun _ H'' => Inv (done ++ (extTo w ws f fr (m + 1)).map (fun G => E ++ G)) H'', ?_, ?_⟩
        · refine c43 (Reads.sl _ _) hc (show fr < j by omega) hjn ?_
          simp only [letO_some, cellsOf?_agg, cellsOf?_int, cellsOf?_bool, cellsOf?_imm, cellsOf?_ref, cellsOf?_nils, faddr_iptr, faddr_ptr, List.drop_succ_cons, List.drop_zero, List.take_succ_cons, List.take_zero, load1_iptr, loadN_iptr, List.length_cons, List.length_nil, Nat.le_refl, if_true, List.getElem?_cons_zero, List.getElem?_cons_succ, List.getD_cons_zero, List.getD_cons_succ, extrF_tup, binF_add, binF_sub, binF_mul, binF_eql, binF_neq, binF_lss, binF_leq, binF_gtr, binF_geq, true_and]
          refine condA_t (fun hnn => ?_) (fun hneg => ?_)
          · have hb4 := hput _ _ hI'
            have lp : load1 (.ptr b4 0) H' = some (.fn 80 [.iptr [.int .i64 w, sl ws], .iptr [.fn g caps], .ptr b4 0]) := load1_at hb4 rfl
            have hs : ∀ l : List Int, l.length = E.length → slc 1 (sl l) none (some (.int .i64 (E.length : Int))) (some (.int .i64 (E.length : Int))) = some (.imm E.length true (ints l)) := by
              intro l hl
              have e : ∀ d, natOf (some (.int .i64 (E.length : Int))) d = some E.length := fun d => by simp [natOf]
              have e2 : natOf none 0 = some 0 := rfl
              simp only [slc, sl, e, e2, Option.bind_some, hl]
              rw [if_pos ⟨by omega, by omega, by omega⟩]
              simp
              rw [List.take_of_length_le (by simp [hl])]
            simp only [lp, hs (up E) (by simp), hs (leftL w ws E E.length) (by simp), letO_some, l22 cellsOf?_int]
            refine ⟨rfl, ?_⟩
            refine appendA_oneR (H0 := H') (Grow.imm (by simp)) (by omega) fun A H10 gA oA => ⟨rfl, ?_⟩
            refine appendA_oneR (H0 := H10) (Grow.imm (by simp)) (by omega) fun B H11 gB oB => ?_
            obtain ⟨b10, hb10, rfl, rfl⟩ := gA.own oA
            obtain ⟨b11, hb11, rfl, rfl⟩ := gB.own oB
            have hne : b10 ≠ b11 := Heap.ne_of Heap.put_same hb11
            simp only [callA_fn, List.cons_append, List.nil_append]
            have hp1 : (up E ++ [(j : Int)]) = up (E ++ [j]) := by simp [up]
            have hp2 : leftL w ws E E.length ++ [lf w ws fr j] = leftL w ws (E ++ [j]) (E ++ [j]).length := by
              rw [List.length_append, List.length_singleton, leftL_snoc, he]
            rw [hp1] at hb11
            rw [hp1, hp2]
            let rest : List AV := [.int .i64 j, .iptr [.int .i64 w, sl ws], .iptr [.fn g caps], .ptr b4 0]
            have q1 : Pub (.tup (.ref 1 b10 0 (E.length + 1) none :: .ref 1 b11 0 (E.length + 1) none :: rest)) ((H'.put b10 (ints (up (E ++ [j])))).put b11 (ints (leftL w ws (E ++ [j]) (E ++ [j]).length))) (.tup (.ref 1 b10 0 (E.length + 1) none :: sl (leftL w ws (E ++ [j]) (E ++ [j]).length) :: rest)) (H'.put b10 (ints (up (E ++ [j])))) := by
              have := Pub.freeze (r := .tup (.ref 1 b10 0 (E.length + 1) none :: .ref 1 b11 0 (E.length + 1) none :: rest)) (H := (H'.put b10 (ints (up (E ++ [j])))).put b11 (ints (leftL w ws (E ++ [j]) (E ++ [j]).length))) (b := b11) (cells := ints (leftL w ws (E ++ [j]) (E ++ [j]).length)) Heap.put_same
              have f1 : frz1 b11 (ints (leftL w ws (E ++ [j]) (E ++ [j]).length)) (.ref 1 b10 0 (E.length + 1) none) = .ref 1 b10 0 (E.length + 1) none := by simp [frz1, hne]
              have f2 : frz1 b11 (ints (leftL w ws (E ++ [j]) (E ++ [j]).length)) (.ref 1 b11 0 (E.length + 1) none) = sl (leftL w ws (E ++ [j]) (E ++ [j]).length) := frz_sl (by simp)
              have f3 : lift (lift (frz1 b11 (ints (leftL w ws (E ++ [j]) (E ++ [j]).length)))) (.tup (.ref 1 b10 0 (E.length + 1) none :: .ref 1 b11 0 (E.length + 1) none :: rest)) = .tup (.ref 1 b10 0 (E.length + 1) none :: sl (leftL w ws (E ++ [j]) (E ++ [j]).length) :: rest) := by
                simp only [lift, List.map, f1, f2, rest]
                rfl
              rwa [f3, Heap.put_del hb11] at this
            have q2 : Pub (.tup (.ref 1 b10 0 (E.length + 1) none :: sl (leftL w ws (E ++ [j]) (E ++ [j]).length) :: rest)) (H'.put b10 (ints (up (E ++ [j])))) (.tup (sl (up (E ++ [j])) :: sl (leftL w ws (E ++ [j]) (E ++ [j]).length) :: rest)) H' := by
              have := Pub.freeze (r := .tup (.ref 1 b10 0 (E.length + 1) none :: sl (leftL w ws (E ++ [j]) (E ++ [j]).length) :: rest)) (H := H'.put b10 (ints (up (E ++ [j])))) (b := b10) (cells := ints (up (E ++ [j]))) Heap.put_same
              have f2 : frz1 b10 (ints (up (E ++ [j]))) (.ref 1 b10 0 (E.length + 1) none) = sl (up (E ++ [j])) := frz_sl (by simp)
              have f3 : lift (lift (frz1 b10 (ints (up (E ++ [j]))))) (.tup (.ref 1 b10 0 (E.length + 1) none :: sl (leftL w ws (E ++ [j]) (E ++ [j]).length) :: rest)) = .tup (sl (up (E ++ [j])) :: sl (leftL w ws (E ++ [j]) (E ++ [j]).length) :: rest) := by
                simp only [lift, List.map, f2, rest]
                rfl
              rwa [f3, Heap.put_del hb10] at this
            refine ACalls.pubArgs (q1.trans q2) ?_
            refine ih j (E ++ [j]) _ H' _ (part_snoc hp (by omega) hjn (by rw [he]; exact hnn)) (lastD_snoc _ _) hjn (by omega) (by simp; omega) hI' fun H12 hI12 => ?_
            have hx := extTo_succ w ws f fr m
            rw [hj, if_neg (by omega)] at hx
            rw [hx, List.map_append, ← List.append_assoc, List.map_map]
            have : ((fun G => E ++ G) ∘ fun G => j :: G) = fun G => E ++ [j] ++ G := by funext G; simp
            rw [this]
            exact hI12
          · have hx := extTo_succ w ws f fr m
            rw [hj, if_pos (by omega), List.append_nil] at hx
            rw [hx]
            exact hI'
        · intro L H'' hI''
          try simp only [letO_some, cellsOf?_agg, cellsOf?_int, cellsOf?_bool, cellsOf?_imm, cellsOf?_ref, cellsOf?_nils, faddr_iptr, faddr_ptr, List.drop_succ_cons, List.drop_zero, List.take_succ_cons, List.take_zero, load1_iptr, loadN_iptr, List.length_cons, List.length_nil, Nat.le_refl, if_true, List.getElem?_cons_zero, List.getElem?_cons_succ, List.getD_cons_zero, List.getD_cons_succ, extrF_tup, binF_add, binF_sub, binF_mul, binF_eql, binF_neq, binF_lss, binF_leq, binF_gtr, binF_geq, true_and]
          rw [wrap_i64 (by omega) (by omega)]
          exact ⟨⟨m + 1, by unfold eqt; congr 2; omega, by omega, hI''⟩, by simp <;> omega⟩
      · have hm' : m = ws.length - fr := by omega
        subst hm'
        exact endK_ret (hk _ hI')

/-- each -/
theorem c37 {w : Int} {ws : List Int} {g : FuncId} {caps : List AV} {H : Heap} {K : AV → Heap → Prop} (hc : chk w ws = 0) (Inv : Nat → List (List Nat) → Heap → Prop)
    (h0 : ∀ b, H b = none → Inv b [] (H.put b [.fn 80 [.iptr [.int .i64 w, sl ws], .iptr [.fn g caps], .ptr b 0]]))
    (hput : ∀ b done H, Inv b done H → H b = some [.fn 80 [.iptr [.int .i64 w, sl ws], .iptr [.fn g caps], .ptr b 0]])
    (hvis : ∀ b done H F, okEnds w ws F → Inv b done H → ∀ K : AV → Heap → Prop, (∀ r H', Inv b (done ++ [F]) H' → K r H') → ACalls Try.prog g ([sl (up F), sl (leftL w ws F F.length)] ++ caps) H K)
    (hk : ∀ b H', H b = none → Inv b (ext w ws ws.length 0) H' → K (.tup []) H') : ACalls Try.prog 37 [.agg [.int .i64 w, sl ws], .fn g caps] H K := by
  apply W37_ok
  unfold W37
  simp only [letO_some, cellsOf?_agg, cellsOf?_int, cellsOf?_bool, cellsOf?_imm, cellsOf?_ref, cellsOf?_nils, faddr_iptr, faddr_ptr, List.drop_succ_cons, List.drop_zero, List.take_succ_cons, List.take_zero, load1_iptr, loadN_iptr, List.length_cons, List.length_nil, Nat.le_refl, if_true, List.getElem?_cons_zero, List.getElem?_cons_succ, List.getD_cons_zero, List.getD_cons_succ, extrF_tup, binF_add, binF_sub, binF_mul, binF_eql, binF_neq, binF_lss, binF_leq, binF_gtr, binF_geq, true_and, cellsOf?_fn]
  obtain ⟨w1, w2, n1, n2, hws⟩ := chk_ok hc
  intro b hb
  refine storeA_of (cs := [.fn 80 [.iptr [.int .i64 w, sl ws], .iptr [.fn g caps], .ptr b 0]]) Heap.put_same rfl rfl rfl (by simp) ?_
  rw [Heap.put_put]
  have hsp : splice [AV.nilf] 0 [.fn 80 [.iptr [.int .i64 w, sl ws], .iptr [.fn g caps], .ptr b 0]] = [.fn 80 [.iptr [.int .i64 w, sl ws], .iptr [.fn g caps], .ptr b 0]] := rfl
  rw [hsp]
  rw [show load1 (.ptr b 0) (H.put b [.fn 80 [.iptr [.int .i64 w, sl ws], .iptr [.fn g caps], .ptr b 0]]) = some (.fn 80 [.iptr [.int .i64 w, sl ws], .iptr [.fn g caps], .ptr b 0]) from load1_at Heap.put_same rfl]
  simp only [letO_some, callA_fn, List.cons_append, List.nil_append]
  have hw : Pub (.tup [.nils, .nils, .int .i64 0, .iptr [.int .i64 w, sl ws], .iptr [.fn g caps], .ptr b 0]) (H.put b [.fn 80 [.iptr [.int .i64 w, sl ws], .iptr [.fn g caps], .ptr b 0]]) (.tup [sl (up []), sl (leftL w ws [] ([] : List Nat).length), .int .i64 (0 : Nat), .iptr [.int .i64 w, sl ws], .iptr [.fn g caps], .ptr b 0]) (H.put b [.fn 80 [.iptr [.int .i64 w, sl ws], .iptr [.fn g caps], .ptr b 0]]) := Pub.weak
  refine ACalls.pubArgs hw ?_
  refine c80 hc (Inv b) (hput b) (hvis b) ws.length 0 [] [] _ _ (part_nil w ws) rfl (by omega) (by omega) (by simp) (h0 b hb) fun H' hI => ?_
  refine endK_ret (hk b H' hb ?_)
  simpa using hI
end Go.Proofs.Ytlajhbpkogekfaa

namespace Go.Proofs.Ytlajhbpkogekfaa
open Go.Av Line
set_option linter.unusedVariables false
set_option linter.unusedSimpArgs false
set_option maxRecDepth 4000

theorem l88 {x : AV} (hx : cellsOf? x = some [x]) : literalF Try.prog 88 1 [(0, x)] = some [x] := by
  rw [literalF_of (show literalPlan Try.prog 88 = some ([.nils], 1) by kernel_rfl) (by decide) (by simp)]
  simp [fillA, hx, splice, rowOf]
theorem alloc_grow {sz : Nat} {H0 H : Heap} {v : AV} {n b : Nat} {cells cs : List AV} (h : Grow sz H0 H v n cells) (hb : H b = none) : Grow sz (H0.put b cs) (H.put b cs) v n cells := by
  refine ⟨h.1, ?_⟩
  rcases h.2 with ⟨e, e2, rfl⟩ | ⟨e, rfl⟩ | ⟨b3, hb3, e, rfl⟩
  · exact .inl ⟨e, e2, rfl⟩
  · exact .inr (.inl ⟨e, rfl⟩)
  · have hne : b3 ≠ b := Heap.ne_of (Heap.put_same) hb
    exact .inr (.inr ⟨b3, by rw [Heap.put_ne hne]; exact hb3, e, Heap.put_comm hne⟩)
theorem conv_grow {H H1 H' : Heap} {X : AV} {n : Nat} {xs : List AV} (h : Grow 1 H1 H' X n xs) (hle : H.le H1) : conv H H' 2 X = .imm n false (xs.map (conv H H' 1)) := by
  have hn : n = xs.length := by have := h.1; omega
  rcases h.2 with ⟨rfl, h0, rfl⟩ | ⟨rfl, rfl⟩ | ⟨b, hb, rfl, rfl⟩
  · have : xs = [] := List.eq_nil_of_length_eq_zero (by omega)
    subst this
    simp [conv, h0]
  · rfl
  · exact conv_out (fresh_of hle hb) Heap.put_same 1 hn

/-- What 'all' gives. -/
def allV (w : Int) (ws : List Int) (n f fr : Nat) (E : List Nat) (x : AV) : AV :=
  if fr = n then .imm 1 false [x] else .imm (extM w ws n f fr).length false ((extM w ws n f fr).map fun G => sl (up (E ++ G)))

/-- all -/
theorem c88 {w : Int} {ws : List Int} {n : Nat} (hc : chk w ws = 0) (hn : n ≤ ws.length) : ∀ (f fr : Nat) (E : List Nat) (v x : AV) (H : Heap) (K : AV → Heap → Prop), Reads H v ws → Reads H x (up E) → E.getLastD 0 = fr → fr ≤ n → n - fr ≤ f → f ≤ 10 → E.length ≤ fr →
    K (allV w ws n f fr E x) H → ACalls Try.prog 88 [.agg [.int .i64 w, v], .int .i64 n, x] H K := by
  obtain ⟨w1, w2, n1, n2, hws⟩ := chk_ok hc
  intro f
  induction f with
  | zero =>
    intro fr E v x H K hv hx he hfn hf hf10 hel hk
    apply W88_ok
    unfold W88
    have hxl := hx.len
    rw [up_length] at hxl
    have hst : stN E E.length = fr := by have := stN_append (E := E) (r := []); rwa [List.append_nil, he] at this
    simp only [letO_some, cellsOf?_agg, cellsOf?_int, cellsOf?_bool, cellsOf?_imm, cellsOf?_ref, cellsOf?_nils, faddr_iptr, faddr_ptr, List.drop_succ_cons, List.drop_zero, List.take_succ_cons, List.take_zero, load1_iptr, loadN_iptr, List.length_cons, List.length_nil, Nat.le_refl, if_true, List.getElem?_cons_zero, List.getElem?_cons_succ, List.getD_cons_zero, List.getD_cons_succ, extrF_tup, binF_add, binF_sub, binF_mul, binF_eql, binF_neq, binF_lss, binF_leq, binF_gtr, binF_geq, true_and, hxl]
    refine c78 (E := E) hx (Nat.le_refl _) (by omega) ?_
    have hfr : fr = n := by omega
    have e1 : ((fr : Int) == (n : Int)) = true := by rw [hfr]; exact beq_self_eq_true _
    rw [hst]
    simp only [letO_some, cellsOf?_agg, cellsOf?_int, cellsOf?_bool, cellsOf?_imm, cellsOf?_ref, cellsOf?_nils, faddr_iptr, faddr_ptr, List.drop_succ_cons, List.drop_zero, List.take_succ_cons, List.take_zero, load1_iptr, loadN_iptr, List.length_cons, List.length_nil, Nat.le_refl, if_true, List.getElem?_cons_zero, List.getElem?_cons_succ, List.getD_cons_zero, List.getD_cons_succ, extrF_tup, binF_add, binF_sub, binF_mul, binF_eql, binF_neq, binF_lss, binF_leq, binF_gtr, binF_geq, true_and, e1, condA_tt, l88 hx.cells]
    rw [allV, if_pos hfr] at hk
    exact endK_weak (endK_ret hk)
  | succ f ih =>
    intro fr E v x H K hv hx he hfn hf hf10 hel hk
    apply W88_ok
    unfold W88
    have hxl := hx.len
    rw [up_length] at hxl
    have hst : stN E E.length = fr := by have := stN_append (E := E) (r := []); rwa [List.append_nil, he] at this
    simp only [letO_some, cellsOf?_agg, cellsOf?_int, cellsOf?_bool, cellsOf?_imm, cellsOf?_ref, cellsOf?_nils, faddr_iptr, faddr_ptr, List.drop_succ_cons, List.drop_zero, List.take_succ_cons, List.take_zero, load1_iptr, loadN_iptr, List.length_cons, List.length_nil, Nat.le_refl, if_true, List.getElem?_cons_zero, List.getElem?_cons_succ, List.getD_cons_zero, List.getD_cons_succ, extrF_tup, binF_add, binF_sub, binF_mul, binF_eql, binF_neq, binF_lss, binF_leq, binF_gtr, binF_geq, true_and, hxl]
    refine c78 (E := E) hx (Nat.le_refl _) (by omega) ?_
    rw [hst]
    by_cases hfr : fr = n
    · have e1 : ((fr : Int) == (n : Int)) = true := by rw [hfr]; exact beq_self_eq_true _
      simp only [letO_some, cellsOf?_agg, cellsOf?_int, cellsOf?_bool, cellsOf?_imm, cellsOf?_ref, cellsOf?_nils, faddr_iptr, faddr_ptr, List.drop_succ_cons, List.drop_zero, List.take_succ_cons, List.take_zero, load1_iptr, loadN_iptr, List.length_cons, List.length_nil, Nat.le_refl, if_true, List.getElem?_cons_zero, List.getElem?_cons_succ, List.getD_cons_zero, List.getD_cons_succ, extrF_tup, binF_add, binF_sub, binF_mul, binF_eql, binF_neq, binF_lss, binF_leq, binF_gtr, binF_geq, true_and, e1, condA_tt, l88 hx.cells]
      rw [allV, if_pos hfr] at hk
      exact endK_weak (endK_ret hk)
    have e1 : ((fr : Int) == (n : Int)) = false := by simp; omega
    simp only [letO_some, cellsOf?_agg, cellsOf?_int, cellsOf?_bool, cellsOf?_imm, cellsOf?_ref, cellsOf?_nils, faddr_iptr, faddr_ptr, List.drop_succ_cons, List.drop_zero, List.take_succ_cons, List.take_zero, load1_iptr, loadN_iptr, List.length_cons, List.length_nil, Nat.le_refl, if_true, List.getElem?_cons_zero, List.getElem?_cons_succ, List.getD_cons_zero, List.getD_cons_succ, extrF_tup, binF_add, binF_sub, binF_mul, binF_eql, binF_neq, binF_lss, binF_leq, binF_gtr, binF_geq, true_and, e1, condA_ff]
    rw [wrap_i64 (by omega) (by omega)]
    rw [allV, if_neg hfr, extM_succ hfr] at hk
    have hB : ∀ j, (extM w ws n f j).length ≤ 10 ^ f := fun j => extM_len (by omega) f j
    have hp10 : 10 ^ f ≤ 10 ^ 9 := Nat.pow_le_pow_right (by decide) (by omega)
    refine ⟨fun L H' => ∃ (m : Nat) (X : AV) (xs : List AV) (H1 : Heap), eqv L [X, .int .i64 ((fr + 1 + m : Nat) : Int)] ∧ fr + m ≤ n ∧ H.le H1 ∧ Grow 1 H1 H' X xs.length xs ∧ ∀ H2, H1.le H2 → xs.map (conv H H2 1) = (extMTo w ws n f fr m).map fun G => sl (up (E ++ G)), fun L _ => (n + 1 - iv L 1).toNat,
      ⟨0, .nils, [], H, by unfold eqv; congr 2, by omega, Heap.le_refl _, Grow.nils 1 H, fun _ _ => by simp [extMTo]⟩, ?_⟩
    intro L H' hI
    obtain ⟨m, X, xs, H1, rfl, hm, hle1, hg, hxs⟩ := hI
    have hleH : H.le H' := Heap.le_trans hle1 hg.le
    have hxslen : xs.length = (extMTo w ws n f fr m).length := by
      have := congrArg List.length (hxs H1 (Heap.le_refl _)); simpa using this
    have hxb := extMTo_len (w := w) (ws := ws) (n := n) (f := f) (fr := fr) hB m
    have hxb2 : m * 10 ^ f ≤ 10 * 10 ^ f := Nat.mul_le_mul_right _ (by omega)
    simp only [letO_some, cellsOf?_agg, cellsOf?_int, cellsOf?_bool, cellsOf?_imm, cellsOf?_ref, cellsOf?_nils, faddr_iptr, faddr_ptr, List.drop_succ_cons, List.drop_zero, List.take_succ_cons, List.take_zero, load1_iptr, loadN_iptr, List.length_cons, List.length_nil, Nat.le_refl, if_true, List.getElem?_cons_zero, List.getElem?_cons_succ, List.getD_cons_zero, List.getD_cons_succ, extrF_tup, binF_add, binF_sub, binF_mul, binF_eql, binF_neq, binF_lss, binF_leq, binF_gtr, binF_geq, true_and]
    refine condA_t (fun hle => ?_) (fun hgt => ?_)
    · generalize hj : fr + 1 + m = j at *
      have hjn : j ≤ n := by omega
      refine ⟨fun L H'' => ∃ (X : AV) (xs : List AV) (H1 : Heap), eqv L [X] ∧ H.le H1 ∧ Grow 1 H1 H'' X xs.length xs ∧ ∀ H2, H1.le H2 → xs.map (conv H H2 1) = (extMTo w ws n f fr (m + 1)).map fun G => sl (up (E ++ G)), ?_, ?_⟩
      · refine c79 (hv.le hleH) hc (show fr ≤ j by omega) (by omega) ?_
        simp only [letO_some, cellsOf?_agg, cellsOf?_int, cellsOf?_bool, cellsOf?_imm, cellsOf?_ref, cellsOf?_nils, faddr_iptr, faddr_ptr, List.drop_succ_cons, List.drop_zero, List.take_succ_cons, List.take_zero, load1_iptr, loadN_iptr, List.length_cons, List.length_nil, Nat.le_refl, if_true, List.getElem?_cons_zero, List.getElem?_cons_succ, List.getD_cons_zero, List.getD_cons_succ, extrF_tup, binF_add, binF_sub, binF_mul, binF_eql, binF_neq, binF_lss, binF_leq, binF_gtr, binF_geq, true_and]
        refine condA_t (fun hnn => ?_) (fun hneg => ?_)
        · simp only [l22n, l22 cellsOf?_int, letO_some]
          refine ⟨rfl, ?_⟩
          refine appendA_grow (Grow.imm (H := H') (sz := 1) (n := 0) (cells := []) rfl) (reads_src (hx.le hleH)) (by simp [ints, isScalar]) (by simp) (by simp; omega) (by simp; omega) fun t36 H12 g36 => ?_
          rw [List.nil_append, Nat.zero_add, up_length] at g36
          refine appendA_oneR g36 (by omega) fun t39 H13 g39 o39 => ?_
          have hup : up E ++ [(j : Int)] = up (E ++ [j]) := by simp [up]
          rw [hup] at g39
          have hr39 := g39.reads
          obtain ⟨b13, hb13, rfl, rfl⟩ := g39.own o39
          have hle13 : H'.le (H'.put b13 (ints (up (E ++ [j])))) := Heap.le_put_self hb13
          refine ⟨_, ih j (E ++ [j]) v _ _ _ (hv.le (Heap.le_trans hleH hle13)) hr39 (lastD_one E j) hjn (by omega) (by omega) (by simp; omega) ⟨rfl, rfl⟩, ?_⟩
          have hb1 := fresh_of hg.le hb13
          have hbH := fresh_of hle1 hb1
          have hgX := alloc_grow (cs := ints (up (E ++ [j]))) hg hb13
          have hx2 := extMTo_succ w ws n f fr m
          rw [hj, if_neg (by omega)] at hx2
          have hle1' : H.le (H1.put b13 (ints (up (E ++ [j])))) := Heap.le_trans hle1 (Heap.le_put_self hb1)
          by_cases hjn2 : j = n
          · have hallv : allV w ws n f j (E ++ [j]) (.ref 1 b13 0 (E.length + 1) none) = .imm 1 false [.ref 1 b13 0 (E.length + 1) none] := by rw [allV, if_pos hjn2]
            rw [hallv]
            refine appendA_grow hgX (m := 1) (new := [.ref 1 b13 0 (E.length + 1) none]) (by simp [srcOf]) rfl rfl (by omega) (by omega) fun v' H14 g14 => ?_
            refine ⟨v', xs ++ [.ref 1 b13 0 (E.length + 1) none], _, rfl, hle1', by simpa using g14, fun H2 hle2 => ?_⟩
            rw [List.map_append, hxs H2 (Heap.le_trans (Heap.le_put_self hb1) hle2), hx2, hjn2, extM_done, List.map_append]
            have := conv_own (l := up (E ++ [j])) hbH (hle2 _ _ Heap.put_same) 0 (n := E.length + 1) (by simp)
            rw [hjn2] at this
            simp only [List.map_cons, List.map_nil]
            rw [← hjn2] at this ⊢
            rw [this]
          · have hallv : allV w ws n f j (E ++ [j]) (.ref 1 b13 0 (E.length + 1) none) = .imm (extM w ws n f j).length false ((extM w ws n f j).map fun G => sl (up (E ++ [j] ++ G))) := by rw [allV, if_neg hjn2]
            rw [hallv]
            have hBj := hB j
            refine appendA_grow hgX (m := (extM w ws n f j).length) (new := (extM w ws n f j).map fun G => sl (up (E ++ [j] ++ G))) (by simp [srcOf]) (by simp [isScalar, sl]) (by simp) (by omega) (by omega) fun v' H14 g14 => ?_
            refine ⟨v', xs ++ (extM w ws n f j).map fun G => sl (up (E ++ [j] ++ G)), _, rfl, hle1', by simpa using g14, fun H2 hle2 => ?_⟩
            rw [List.map_append, hxs H2 (Heap.le_trans (Heap.le_put_self hb1) hle2), hx2, List.map_append, List.map_map, List.map_map]
            congr 1
            refine List.map_congr_left fun G _ => ?_
            simp only [Function.comp, conv_sl]
            rw [List.append_assoc, List.singleton_append]
        · have hx2 := extMTo_succ w ws n f fr m
          rw [hj, if_pos (by omega), List.append_nil] at hx2
          refine ⟨X, xs, H1, rfl, hle1, hg, ?_⟩
          rw [hx2]; exact hxs
      · rintro L H'' ⟨X', xs', H1', rfl, h1, h2, h3⟩
        simp only [letO_some, cellsOf?_agg, cellsOf?_int, cellsOf?_bool, cellsOf?_imm, cellsOf?_ref, cellsOf?_nils, faddr_iptr, faddr_ptr, List.drop_succ_cons, List.drop_zero, List.take_succ_cons, List.take_zero, load1_iptr, loadN_iptr, List.length_cons, List.length_nil, Nat.le_refl, if_true, List.getElem?_cons_zero, List.getElem?_cons_succ, List.getD_cons_zero, List.getD_cons_succ, extrF_tup, binF_add, binF_sub, binF_mul, binF_eql, binF_neq, binF_lss, binF_leq, binF_gtr, binF_geq, true_and]
        rw [wrap_i64 (by omega) (by omega)]
        exact ⟨⟨m + 1, X', xs', H1', by unfold eqv; congr 3; omega, by omega, h1, h2, h3⟩, by simp <;> omega⟩
    · have hm' : m = n - fr := by omega
      subst hm'
      refine endK_all hleH 2 ?_
      rw [conv_grow hg hle1, hxs H' hg.le, hxslen]
      exact hk
end Go.Proofs.Ytlajhbpkogekfaa

namespace Go.Proofs.Ytlajhbpkogekfaa
open Go.Av Line
set_option linter.unusedVariables false
set_option linter.unusedSimpArgs false
set_option maxRecDepth 4000

theorem allV_top {w : Int} {ws : List Int} {n : Nat} (h : 1 ≤ n) (x : AV) : allV w ws n n 0 [] x = .imm (extM w ws n n 0).length false ((extM w ws n n 0).map fun G => sl (up G)) := by
  rw [allV, if_neg (by omega)]; rfl
/-- An element of a list of lists. -/
theorem lists_get {L : List (List Nat)} {i : Nat} {F : List Nat} {H : Heap} (h : L[i]? = some F) {k : AV → Prop} (hk : k (sl (up F))) :
    letO (idx 1 (.imm L.length false (L.map fun G => sl (up G))) (.int .i64 (i : Int))) fun p => letO (load1 p H) k := by
  have hi : i < L.length := (List.getElem?_eq_some_iff.1 h).1
  rw [idx_imm hi]
  simp only [letO_some, load1_iptr, List.getElem?_drop, Nat.mul_one, Nat.add_zero, List.getElem?_map, h, Option.map_some]
  exact hk
theorem sl_up_len {F : List Nat} : lenA (sl (up F)) = some (.int .i64 F.length) := by simp [sl, lenA]

/-- even -/
theorem c68 {w : Int} {v : AV} {ws : List Int} {n : Nat} {H : Heap} {K : AV → Heap → Prop} (hv : Reads H v ws) (hc : chk w ws = 0) (h1 : 1 ≤ n) (hn : n ≤ ws.length)
    (hk : K (.tup [.int .i64 ((pls w ws n).getD n (0, 0)).1, .int .i64 (((pls w ws n).getD n (0, 0)).2 : Nat)]) H) : ACalls Try.prog 68 [.agg [.int .i64 w, v], .int .i64 n] H K := by
  apply W68_ok
  unfold W68
  obtain ⟨w1, w2, n1, n2, hws⟩ := chk_ok hc
  simp only [letO_some, cellsOf?_agg, cellsOf?_int, cellsOf?_bool, cellsOf?_imm, cellsOf?_ref, cellsOf?_nils, faddr_iptr, faddr_ptr, List.drop_succ_cons, List.drop_zero, List.take_succ_cons, List.take_zero, load1_iptr, loadN_iptr, List.length_cons, List.length_nil, Nat.le_refl, if_true, List.getElem?_cons_zero, List.getElem?_cons_succ, List.getD_cons_zero, List.getD_cons_succ, extrF_tup, binF_add, binF_sub, binF_mul, binF_eql, binF_neq, binF_lss, binF_leq, binF_gtr, binF_geq, true_and]
  refine c88 hc hn n 0 [] v .nils H _ hv rfl rfl (by omega) (by omega) (by omega) (by simp) ?_
  rw [allV_top h1]
  have hlex := pls_lex hc n hn h1
  have hB := extM_len (w := w) (ws := ws) (n := n) (by omega) n 0
  have hp10 : 10 ^ n ≤ 10 ^ 10 := Nat.pow_le_pow_right (by decide) (by omega)
  have hmem : ∀ F ∈ extM w ws n n 0, chn w ws 0 F ∧ F.getLastD 0 = n := fun F hF => (mem_extM n 0 F (by omega) (by omega)).1 hF
  generalize (pls w ws n).getD n (0, 0) = r at *
  generalize extM w ws n n 0 = L at *
  have hLl : lenA (.imm L.length false (L.map fun G => sl (up G))) = some (.int .i64 L.length) := rfl
  simp only [letO_some, cellsOf?_agg, cellsOf?_int, cellsOf?_bool, cellsOf?_imm, cellsOf?_ref, cellsOf?_nils, faddr_iptr, faddr_ptr, List.drop_succ_cons, List.drop_zero, List.take_succ_cons, List.take_zero, load1_iptr, loadN_iptr, List.length_cons, List.length_nil, Nat.le_refl, if_true, List.getElem?_cons_zero, List.getElem?_cons_succ, List.getD_cons_zero, List.getD_cons_succ, extrF_tup, binF_add, binF_sub, binF_mul, binF_eql, binF_neq, binF_lss, binF_leq, binF_gtr, binF_geq, true_and, hLl]
  refine ⟨fun L' H' => ∃ (i : Nat) (least : Int) (start : Nat), eqv L' [.int .i64 least, .int .i64 start, .int .i64 i] ∧ i ≤ L.length ∧ eqv H' H ∧ (0 < i → lex w ws (L.take i) (least, start)) ∧ (i = 0 → least = 0 ∧ start = 0), fun L' _ => (L.length - iv L' 2).toNat,
    ⟨0, 0, 0, rfl, by omega, rfl, fun h => absurd h (by omega), fun _ => ⟨rfl, rfl⟩⟩, ?_⟩
  intro L' H' hI
  obtain ⟨i, least, start, rfl, hi, rfl, hlx, h0⟩ := hI
  simp only [letO_some, cellsOf?_agg, cellsOf?_int, cellsOf?_bool, cellsOf?_imm, cellsOf?_ref, cellsOf?_nils, faddr_iptr, faddr_ptr, List.drop_succ_cons, List.drop_zero, List.take_succ_cons, List.take_zero, load1_iptr, loadN_iptr, List.length_cons, List.length_nil, Nat.le_refl, if_true, List.getElem?_cons_zero, List.getElem?_cons_succ, List.getD_cons_zero, List.getD_cons_succ, extrF_tup, binF_add, binF_sub, binF_mul, binF_eql, binF_neq, binF_lss, binF_leq, binF_gtr, binF_geq, true_and]
  refine condA_t (fun hlt => ?_) (fun hge => ?_)
  · have hil : i < L.length := by omega
    have hx : L[i]? = some L[i] := by simp [hil]
    obtain ⟨g1, g2⟩ := hmem L[i] (by simp)
    have htake : L.take (i + 1) = L.take i ++ [L[i]] := by rw [List.take_add_one, hx]; rfl
    generalize L[i] = F at *
    have hlines := chn_lines (n := ws.length) g1 (by omega)
    have hflen := chn_length g1
    rw [g2, Nat.add_zero] at hflen
    have hFne : F ≠ [] := by rintro rfl; simp at g2; omega
    have hFpos : 0 < F.length := List.length_pos_iff.2 hFne
    refine ⟨fun L'' h => ∃ (least' : Int) (start' : Nat), eqv L'' [.int .i64 least', .int .i64 start'] ∧ eqv h H' ∧ lex w ws (L.take (i + 1)) (least', start'), ?_, ?_⟩
    · refine lists_get hx ?_
      refine lists_get hx ?_
      simp only [letO_some, cellsOf?_agg, cellsOf?_int, cellsOf?_bool, cellsOf?_imm, cellsOf?_ref, cellsOf?_nils, faddr_iptr, faddr_ptr, List.drop_succ_cons, List.drop_zero, List.take_succ_cons, List.take_zero, load1_iptr, loadN_iptr, List.length_cons, List.length_nil, Nat.le_refl, if_true, List.getElem?_cons_zero, List.getElem?_cons_succ, List.getD_cons_zero, List.getD_cons_succ, extrF_tup, binF_add, binF_sub, binF_mul, binF_eql, binF_neq, binF_lss, binF_leq, binF_gtr, binF_geq, true_and, sl_up_len]
      refine c66 (ends := up F) (m := F.length) hv (Reads.sl _ _) hc (by rw [toN_up]) (by simp) (by simp; omega) (by simpa [toN_up] using hlines) ?_
      rw [toN_up, want_cst]
      try simp only [letO_some, cellsOf?_agg, cellsOf?_int, cellsOf?_bool, cellsOf?_imm, cellsOf?_ref, cellsOf?_nils, faddr_iptr, faddr_ptr, List.drop_succ_cons, List.drop_zero, List.take_succ_cons, List.take_zero, load1_iptr, loadN_iptr, List.length_cons, List.length_nil, Nat.le_refl, if_true, List.getElem?_cons_zero, List.getElem?_cons_succ, List.getD_cons_zero, List.getD_cons_succ, extrF_tup, binF_add, binF_sub, binF_mul, binF_eql, binF_neq, binF_lss, binF_leq, binF_gtr, binF_geq, true_and]
      refine lists_get hx ?_
      refine lists_get hx ?_
      simp only [letO_some, cellsOf?_agg, cellsOf?_int, cellsOf?_bool, cellsOf?_imm, cellsOf?_ref, cellsOf?_nils, faddr_iptr, faddr_ptr, List.drop_succ_cons, List.drop_zero, List.take_succ_cons, List.take_zero, load1_iptr, loadN_iptr, List.length_cons, List.length_nil, Nat.le_refl, if_true, List.getElem?_cons_zero, List.getElem?_cons_succ, List.getD_cons_zero, List.getD_cons_succ, extrF_tup, binF_add, binF_sub, binF_mul, binF_eql, binF_neq, binF_lss, binF_leq, binF_gtr, binF_geq, true_and, sl_up_len]
      rw [wrap_i64 (by omega) (by omega), show ((F.length : Int) - 1) = ((F.length - 1 : Nat) : Int) by omega]
      refine c78 (E := F) (Reads.sl _ _) (by omega) (by omega) ?_
      have hls : stN F (F.length - 1) = lastSt F := rfl
      rw [hls]
      have new : (i = 0 ∨ cst w ws 0 F < least ∨ (cst w ws 0 F = least ∧ lastSt F < start)) → lex w ws (L.take (i + 1)) (cst w ws 0 F, lastSt F) := by
        intro h
        rw [htake]
        refine ⟨⟨F, by simp, rfl, rfl⟩, fun G hG => ?_⟩
        rcases List.mem_append.1 hG with hG | hG
        · have hi0 : 0 < i := by
            rcases Nat.eq_zero_or_pos i with h | h
            · subst h; simp at hG
            · exact h
          have := (hlx hi0).2 G hG
          simp only at this ⊢
          omega
        · rw [List.mem_singleton] at hG; subst hG
          exact .inr ⟨rfl, Nat.le_refl _⟩
      have old : 0 < i → ¬ cst w ws 0 F < least → ¬ (cst w ws 0 F = least ∧ lastSt F < start) → lex w ws (L.take (i + 1)) (least, start) := by
        intro hi0 hn1 hn2
        rw [htake]
        obtain ⟨⟨G, a1, a2, a3⟩, a4⟩ := hlx hi0
        refine ⟨⟨G, List.mem_append.2 (.inl a1), a2, a3⟩, fun G hG => ?_⟩
        rcases List.mem_append.1 hG with hG | hG
        · exact a4 G hG
        · rw [List.mem_singleton] at hG; subst hG
          simp only
          omega
      try simp only [letO_some, cellsOf?_agg, cellsOf?_int, cellsOf?_bool, cellsOf?_imm, cellsOf?_ref, cellsOf?_nils, faddr_iptr, faddr_ptr, List.drop_succ_cons, List.drop_zero, List.take_succ_cons, List.take_zero, load1_iptr, loadN_iptr, List.length_cons, List.length_nil, Nat.le_refl, if_true, List.getElem?_cons_zero, List.getElem?_cons_succ, List.getD_cons_zero, List.getD_cons_succ, extrF_tup, binF_add, binF_sub, binF_mul, binF_eql, binF_neq, binF_lss, binF_leq, binF_gtr, binF_geq, true_and]
      by_cases hi0 : i = 0
      · subst hi0
        have e : (((0 : Nat) : Int) == 0) = true := rfl
        simp only [e, gval_bool, Bool.true_eq_false, if_false, letO_some, gval_undef, pickF_true, condA_tt]
        exact ⟨_, _, rfl, rfl, new (.inl rfl)⟩
      · have e : ((i : Int) == 0) = false := by simp; omega
        simp only [e, gval_bool, if_true, letO_some, binF_lss, pickF_false]
        by_cases hl1 : cst w ws 0 F < least
        · have e2 : decide (cst w ws 0 F < least) = true := decide_eq_true hl1
          simp only [e2, gval_bool, Bool.true_eq_false, if_false, letO_some, gval_undef, pickF_true, condA_tt]
          exact ⟨_, _, rfl, rfl, new (.inr (.inl hl1))⟩
        · have e2 : decide (cst w ws 0 F < least) = false := decide_eq_false hl1
          simp only [e2, gval_bool, if_true, letO_some, binF_eql, pickF_false]
          by_cases he : cst w ws 0 F = least
          · have e3 : (cst w ws 0 F == least) = true := by simpa using he
            simp only [e3, gval_bool, if_true, letO_some, binF_lss, pickF_true]
            refine condA_t (fun hls => ?_) (fun hnls => ?_)
            · exact ⟨_, _, rfl, rfl, new (.inr (.inr ⟨he, by omega⟩))⟩
            · exact ⟨_, _, rfl, rfl, old (by omega) hl1 (fun h => hnls (by omega))⟩
          · have e3 : (cst w ws 0 F == least) = false := by simpa using he
            simp only [e3, gval_bool, Bool.false_eq_true, if_false, letO_some, pickF_false, condA_ff]
            exact ⟨_, _, rfl, rfl, old (by omega) hl1 (fun h => he h.1)⟩
    · rintro L'' h ⟨least', start', rfl, rfl, hl'⟩
      try simp only [letO_some, cellsOf?_agg, cellsOf?_int, cellsOf?_bool, cellsOf?_imm, cellsOf?_ref, cellsOf?_nils, faddr_iptr, faddr_ptr, List.drop_succ_cons, List.drop_zero, List.take_succ_cons, List.take_zero, load1_iptr, loadN_iptr, List.length_cons, List.length_nil, Nat.le_refl, if_true, List.getElem?_cons_zero, List.getElem?_cons_succ, List.getD_cons_zero, List.getD_cons_succ, extrF_tup, binF_add, binF_sub, binF_mul, binF_eql, binF_neq, binF_lss, binF_leq, binF_gtr, binF_geq, true_and]
      rw [wrap_i64 (by omega) (by omega)]
      exact ⟨⟨i + 1, least', start', rfl, by omega, rfl, fun _ => hl', fun h => by omega⟩, by simp <;> omega⟩
  · have hil : i = L.length := by omega
    subst hil
    have hpos : 0 < L.length := by
      obtain ⟨⟨F, hF, _⟩, _⟩ := hlex
      exact List.length_pos_of_mem hF
    have := hlx hpos
    rw [List.take_length] at this
    have he := lex_unique this hlex
    rw [← he] at hk
    exact endK_ret hk
end Go.Proofs.Ytlajhbpkogekfaa

namespace Go.Proofs.Ytlajhbpkogekfaa
open Go.Av Line
set_option linter.unusedVariables false
set_option linter.unusedSimpArgs false
set_option maxRecDepth 4000

/-- A price that is too high. -/
def viol (w : Int) (ws P : List Int) (i j : Nat) : Prop := 0 ≤ lf w ws i j ∧ P.getD i 0 + sqf w ws i j < P.getD j 0
/-- The least price of the places from which the last line may begin. -/
def mn (w : Int) (ws P : List Int) : Nat → Int → Int
  | 0, x => x
  | k + 1, x => if 0 ≤ lf w ws k ws.length then (if P.getD k 0 < mn w ws P k x then P.getD k 0 else mn w ws P k x) else mn w ws P k x
theorem mn_spec {w : Int} {ws P : List Int} : ∀ (k : Nat) (x : Int), mn w ws P k x ≤ x ∧ (∀ i, i < k → 0 ≤ lf w ws i ws.length → mn w ws P k x ≤ P.getD i 0) ∧ (mn w ws P k x = x ∨ ∃ i, i < k ∧ 0 ≤ lf w ws i ws.length ∧ mn w ws P k x = P.getD i 0)
  | 0, x => ⟨Int.le_refl _, fun i h => absurd h (by omega), .inl rfl⟩
  | k + 1, x => by
    obtain ⟨h1, h2, h3⟩ := mn_spec (w := w) (ws := ws) (P := P) k x
    unfold mn
    split
    · rename_i hf
      split
      · rename_i hlt
        refine ⟨by omega, fun i hi hfi => ?_, .inr ⟨k, by omega, hf, rfl⟩⟩
        by_cases he : i = k
        · subst he; exact Int.le_refl _
        · have := h2 i (by omega) hfi; omega
      · rename_i hnlt
        refine ⟨h1, fun i hi hfi => ?_, h3.imp id fun ⟨i, a, b⟩ => ⟨i, by omega, b⟩⟩
        by_cases he : i = k
        · subst he; omega
        · exact h2 i (by omega) hfi
    · rename_i hf
      refine ⟨h1, fun i hi hfi => ?_, h3.imp id fun ⟨i, a, b⟩ => ⟨i, by omega, b⟩⟩
      by_cases he : i = k
      · subst he; exact absurd hfi hf
      · exact h2 i (by omega) hfi
theorem mn_same {w : Int} {ws P : List Int} (hc : chk w ws = 0) (hP : P.getD (ws.length - 1) 0 ≤ 20000) : mn w ws P ws.length 20000 = mn w ws P ws.length (P.getD (ws.length - 1) 0) := by
  have hn := chk_ok hc
  obtain ⟨a1, a2, a3⟩ := mn_spec (w := w) (ws := ws) (P := P) ws.length 20000
  obtain ⟨b1, b2, b3⟩ := mn_spec (w := w) (ws := ws) (P := P) ws.length (P.getD (ws.length - 1) 0)
  have hone : 0 ≤ lf w ws (ws.length - 1) ws.length := by
    have := lf_one hc (show ws.length - 1 < ws.length by omega)
    rwa [show ws.length - 1 + 1 = ws.length by omega] at this
  have h1 := a2 (ws.length - 1) (by omega) hone
  have h2 := b2 (ws.length - 1) (by omega) hone
  have h3 : mn w ws P ws.length 20000 ≤ mn w ws P ws.length (P.getD (ws.length - 1) 0) := by
    rcases b3 with h | ⟨i, hi, hf, h⟩
    · omega
    · have := a2 i hi hf; omega
  have h4 : mn w ws P ws.length (P.getD (ws.length - 1) 0) ≤ mn w ws P ws.length 20000 := by
    rcases a3 with h | ⟨i, hi, hf, h⟩
    · omega
    · have := b2 i hi hf; omega
  omega
theorem bndJ_bad {w : Int} {ws P : List Int} {i : Nat} (hc : chk w ws = 0) : ∀ (f j : Nat) (least : Int), i < j → (∃ j', j ≤ j' ∧ j' < j + f ∧ j' < ws.length ∧ viol w ws P i j') → j + f ≤ ws.length + 1 → bndJ w ws P i f j least = none
  | 0, j, least, _, ⟨j', h1, h2, _⟩, _ => by omega
  | f + 1, j, least, hij, ⟨j', h1, h2, h3, h4⟩, hb => by
    have hm : 0 ≤ lf w ws i j := by
      have := lf_mono hc (i := i) (j := j) (k := j') (by omega) h1 (by omega)
      have := h4.1
      omega
    rw [bndJ, if_neg (by omega)]
    rw [if_neg (by omega)]
    by_cases he : j = j'
    · subst he
      rw [if_pos h4.2]
    · split
      · rfl
      · exact bndJ_bad hc f (j + 1) least (by omega) ⟨j', by omega, by omega, h3, h4⟩ (by omega)
theorem bndJ_good {w : Int} {ws P : List Int} {i : Nat} (hc : chk w ws = 0) : ∀ (f j : Nat) (least : Int), i < j → (∀ j', j ≤ j' → j' < ws.length → ¬ viol w ws P i j') → j + f = ws.length + 1 → j ≤ ws.length →
    bndJ w ws P i f j least = some (if 0 ≤ lf w ws i ws.length then (if P.getD i 0 < least then P.getD i 0 else least) else least)
  | 0, j, least, _, _, h, h2 => by omega
  | f + 1, j, least, hij, hg, hb, hj => by
    rw [bndJ]
    by_cases hneg : lf w ws i j < 0
    · rw [if_pos hneg]
      have := lf_mono hc (i := i) (j := j) (k := ws.length) (by omega) hj (Nat.le_refl _)
      rw [if_neg (by omega)]
    · rw [if_neg hneg]
      by_cases he : j = ws.length
      · have hf0 : f = 0 := by omega
        subst hf0
        rw [if_pos he, bndJ]
        subst he
        rw [if_pos (show 0 ≤ lf w ws i ws.length by omega)]
      · rw [if_neg he]
        have := hg j (Nat.le_refl _) (by omega)
        rw [if_neg (fun h => this ⟨by omega, h⟩)]
        exact bndJ_good hc f (j + 1) least (by omega) (fun j' h1 h2 => hg j' (by omega) h2) (by omega) (by omega)
theorem bndI_bad {w : Int} {ws P : List Int} (hc : chk w ws = 0) : ∀ (f i : Nat) (least : Int), i + f = ws.length → (∃ i' j', i ≤ i' ∧ i' < j' ∧ j' < ws.length ∧ viol w ws P i' j') → bndI w ws P f i least = none
  | 0, i, least, h, ⟨i', j', h1, h2, h3, _⟩ => by omega
  | f + 1, i, least, h, ⟨i', j', h1, h2, h3, h4⟩ => by
    rw [bndI]
    cases hb : bndJ w ws P i (ws.length - i) (i + 1) least with
    | none => rfl
    | some l =>
      rw [Option.bind_some]
      by_cases he : i' = i
      · subst he
        have := bndJ_bad hc (ws.length - i') (i' + 1) least (by omega) ⟨j', by omega, by omega, h3, h4⟩ (by omega)
        rw [this] at hb; cases hb
      · exact bndI_bad hc f (i + 1) l (by omega) ⟨i', j', by omega, h2, h3, h4⟩
theorem bndI_good {w : Int} {ws P : List Int} (hc : chk w ws = 0) (hg : ∀ i j, i < j → j < ws.length → ¬ viol w ws P i j) (x : Int) : ∀ (f i : Nat), i + f = ws.length → bndI w ws P f i (mn w ws P i x) = some (mn w ws P ws.length x)
  | 0, i, h => by rw [bndI, show i = ws.length by omega]
  | f + 1, i, h => by
    rw [bndI, bndJ_good hc (ws.length - i) (i + 1) _ (by omega) (fun j' h1 h2 => hg i j' (by omega) h2) (by omega) (by omega), Option.bind_some]
    have := bndI_good hc hg x f (i + 1) (by omega)
    rw [mn] at this
    exact this

/-- bound, of the reference -/
theorem c71 {w : Int} {v u : AV} {ws P : List Int} {H : Heap} {K : AV → Heap → Prop} (hv : Reads H v ws) (hu : Reads H u P) (hc : chk w ws = 0) (hlP : P.length < 2 ^ 60) (hk : K (.tup [.int .i64 (bndR w ws P).1, .int .i64 (bndR w ws P).2]) H) :
    ACalls Try.prog 71 [.agg [.int .i64 w, v], u] H K := by
  apply W71_ok
  unfold W71
  obtain ⟨w1, w2, n1, n2, hws⟩ := chk_ok hc
  simp only [letO_some, cellsOf?_agg, cellsOf?_int, cellsOf?_bool, cellsOf?_imm, cellsOf?_ref, cellsOf?_nils, faddr_iptr, faddr_ptr, List.drop_succ_cons, List.drop_zero, List.take_succ_cons, List.take_zero, load1_iptr, loadN_iptr, List.length_cons, List.length_nil, Nat.le_refl, if_true, List.getElem?_cons_zero, List.getElem?_cons_succ, List.getD_cons_zero, List.getD_cons_succ, extrF_tup, binF_add, binF_sub, binF_mul, binF_eql, binF_neq, binF_lss, binF_leq, binF_gtr, binF_geq, true_and, hv.len, hu.len, condA_bool]
  refine ⟨fun h5 => ?_, fun h5 => ?_⟩
  · have h5 : P.length ≠ ws.length := by simp at h5; omega
    rw [bndR, if_pos h5] at hk
    exact endK_ret hk
  have h5 : P.length = ws.length := by simp at h5; omega
  refine ⟨fun L H' => ∃ i : Nat, eqv L [.int .i64 i] ∧ i ≤ ws.length ∧ eqv H' H ∧ ∀ k, k < i → badP (P.getD k 0) = false, fun L _ => (ws.length - iv L 0).toNat, ⟨0, rfl, by omega, rfl, fun k h => absurd h (by omega)⟩, ?_⟩
  intro L H' hI
  obtain ⟨i, rfl, hi, rfl, hall⟩ := hI
  simp only [letO_some, cellsOf?_agg, cellsOf?_int, cellsOf?_bool, cellsOf?_imm, cellsOf?_ref, cellsOf?_nils, faddr_iptr, faddr_ptr, List.drop_succ_cons, List.drop_zero, List.take_succ_cons, List.take_zero, load1_iptr, loadN_iptr, List.length_cons, List.length_nil, Nat.le_refl, if_true, List.getElem?_cons_zero, List.getElem?_cons_succ, List.getD_cons_zero, List.getD_cons_succ, extrF_tup, binF_add, binF_sub, binF_mul, binF_eql, binF_neq, binF_lss, binF_leq, binF_gtr, binF_geq, true_and]
  refine condA_t (fun hlt => ?_) (fun hge => ?_)
  · have hil : i < ws.length := by omega
    refine hu.get (Heap.le_refl _) (by omega) (by omega) ?_
    rw [Int.toNat_natCast]
    refine c77 ?_
    simp only [not_bool, letO_some]
    by_cases hin : 0 ≤ P.getD i 0 ∧ P.getD i 0 ≤ 20000
    · rw [decide_eq_true hin]
      simp only [Bool.not_true, condA_ff]
      rw [wrap_i64 (by omega) (by omega)]
      refine ⟨⟨i + 1, rfl, by omega, rfl, fun k hk => ?_⟩, by simp <;> omega⟩
      by_cases he : k = i
      · subst he; simp only [badP, decide_eq_false_iff_not]; omega
      · exact hall k (by omega)
    · rw [decide_eq_false hin]
      simp only [Bool.not_false, condA_tt]
      have hbad : P.any badP = true := by
        rw [List.any_eq_true]
        refine ⟨P.getD i 0, by rw [List.getD_eq_getElem?_getD]; simp [show i < P.length by omega], ?_⟩
        simp only [badP, decide_eq_true_eq]; omega
      rw [bndR, if_neg (by omega), if_pos hbad] at hk
      exact endK_ret hk
  have hin : i = ws.length := by omega
  subst hin
  have hnb : P.any badP = false := by
    rw [List.any_eq_false]
    intro x hx
    obtain ⟨k, hk, rfl⟩ := List.mem_iff_getElem.1 hx
    have := hall k (by omega)
    rw [List.getD_eq_getElem?_getD, List.getElem?_eq_getElem hk] at this
    simpa using this
  have hP : ∀ i, 0 ≤ P.getD i 0 ∧ P.getD i 0 ≤ 20000 := by
    intro i
    by_cases hi : i < ws.length
    · have := hall i hi
      simp only [badP, decide_eq_false_iff_not] at this
      omega
    · rw [List.getD_eq_getElem?_getD, List.getElem?_eq_none (by omega)]; simp
  refine hu.get (Heap.le_refl _) (by omega) (by omega) ?_
  simp only [letO_some, cellsOf?_agg, cellsOf?_int, cellsOf?_bool, cellsOf?_imm, cellsOf?_ref, cellsOf?_nils, faddr_iptr, faddr_ptr, List.drop_succ_cons, List.drop_zero, List.take_succ_cons, List.take_zero, load1_iptr, loadN_iptr, List.length_cons, List.length_nil, Nat.le_refl, if_true, List.getElem?_cons_zero, List.getElem?_cons_succ, List.getD_cons_zero, List.getD_cons_succ, extrF_tup, binF_add, binF_sub, binF_mul, binF_eql, binF_neq, binF_lss, binF_leq, binF_gtr, binF_geq, true_and, condA_bool, Int.toNat_zero]
  refine ⟨fun h7 => ?_, fun h7 => ?_⟩
  · have h7 : P.getD 0 0 ≠ 0 := by simpa using h7
    rw [bndR, if_neg (by omega), if_neg (by rw [hnb]; simp), if_pos h7] at hk
    exact endK_ret hk
  have h7 : P.getD 0 0 = 0 := by simpa using h7
  rw [bndR, if_neg (by omega), if_neg (by rw [hnb]; simp), if_neg (by omega)] at hk
  rw [wrap_i64 (by omega) (by omega)]
  refine hu.get (Heap.le_refl _) (by omega) (by omega) ?_
  rw [show ((ws.length : Int) - 1).toNat = ws.length - 1 by omega]
  have hmb : ∀ k, -20000 ≤ mn w ws P k (P.getD (ws.length - 1) 0) ∧ mn w ws P k (P.getD (ws.length - 1) 0) ≤ 20000 := by
    intro k
    obtain ⟨a1, _, a3⟩ := mn_spec (w := w) (ws := ws) (P := P) k (P.getD (ws.length - 1) 0)
    have := hP (ws.length - 1)
    rcases a3 with h | ⟨i, _, _, h⟩
    · omega
    · have := hP i; omega
  have fail : ∀ i j, i < j → j < ws.length → viol w ws P i j → K (.tup [.int .i64 0, .int .i64 14]) H' := by
    intro i j h1 h2 h3
    have := bndI_bad (w := w) (ws := ws) (P := P) hc ws.length 0 20000 (by omega) ⟨i, j, by omega, h1, h2, h3⟩
    rw [this] at hk
    exact hk
  refine ⟨fun L h => ∃ i : Nat, eqv L [.int .i64 (mn w ws P i (P.getD (ws.length - 1) 0)), .int .i64 i] ∧ i ≤ ws.length ∧ eqv h H' ∧ ∀ i' j, i' < i → i' < j → j < ws.length → ¬ viol w ws P i' j, fun L _ => (ws.length - iv L 1).toNat, ⟨0, rfl, by omega, rfl, fun i' j h => absurd h (by omega)⟩, ?_⟩
  intro L h hJ
  obtain ⟨i, rfl, hi2, rfl, hnv⟩ := hJ
  simp only [letO_some, cellsOf?_agg, cellsOf?_int, cellsOf?_bool, cellsOf?_imm, cellsOf?_ref, cellsOf?_nils, faddr_iptr, faddr_ptr, List.drop_succ_cons, List.drop_zero, List.take_succ_cons, List.take_zero, load1_iptr, loadN_iptr, List.length_cons, List.length_nil, Nat.le_refl, if_true, List.getElem?_cons_zero, List.getElem?_cons_succ, List.getD_cons_zero, List.getD_cons_succ, extrF_tup, binF_add, binF_sub, binF_mul, binF_eql, binF_neq, binF_lss, binF_leq, binF_gtr, binF_geq, true_and]
  refine condA_t (fun hlt => ?_) (fun hge2 => ?_)
  · have hil : i < ws.length := by omega
    rw [wrap_i64 (by omega) (by omega)]
    refine ⟨fun L h' => ∃ j : Nat, eqv L [.int .i64 (mn w ws P (if j ≤ ws.length then i else i + 1) (P.getD (ws.length - 1) 0)), .int .i64 j] ∧ i < j ∧ j ≤ ws.length + 1 ∧ eqv h' h ∧ ∀ j', i < j' → j' < j → j' < ws.length → ¬ viol w ws P i j', fun L _ => (ws.length + 1 - iv L 1).toNat,
      ⟨i + 1, by unfold eqv; rw [if_pos (by omega)]; rfl, by omega, by omega, rfl, fun j' h1 h2 => absurd h2 (by omega)⟩, ?_⟩
    intro L h' hJ2
    obtain ⟨j, rfl, hij, hjn, rfl, hnv2⟩ := hJ2
    simp only [letO_some, cellsOf?_agg, cellsOf?_int, cellsOf?_bool, cellsOf?_imm, cellsOf?_ref, cellsOf?_nils, faddr_iptr, faddr_ptr, List.drop_succ_cons, List.drop_zero, List.take_succ_cons, List.take_zero, load1_iptr, loadN_iptr, List.length_cons, List.length_nil, Nat.le_refl, if_true, List.getElem?_cons_zero, List.getElem?_cons_succ, List.getD_cons_zero, List.getD_cons_succ, extrF_tup, binF_add, binF_sub, binF_mul, binF_eql, binF_neq, binF_lss, binF_leq, binF_gtr, binF_geq, true_and]
    refine condA_t (fun hle => ?_) (fun hgt => ?_)
    · have hjn' : j ≤ ws.length := by omega
      rw [if_pos hjn']
      have hmi := hmb i
      have hq := sqf_bnd hc i j
      have hPi := hP i
      have hsqf : lf w ws i j * lf w ws i j = sqf w ws i j := rfl
      refine ⟨fun L h'' => eqv L [.int .i64 (mn w ws P (if j + 1 ≤ ws.length then i else i + 1) (P.getD (ws.length - 1) 0))] ∧ eqv h'' h' ∧ (j < ws.length → ¬ viol w ws P i j), ?_, ?_⟩
      · refine c79 hv hc (by omega) hjn' ?_
        simp only [letO_some, cellsOf?_agg, cellsOf?_int, cellsOf?_bool, cellsOf?_imm, cellsOf?_ref, cellsOf?_nils, faddr_iptr, faddr_ptr, List.drop_succ_cons, List.drop_zero, List.take_succ_cons, List.take_zero, load1_iptr, loadN_iptr, List.length_cons, List.length_nil, Nat.le_refl, if_true, List.getElem?_cons_zero, List.getElem?_cons_succ, List.getD_cons_zero, List.getD_cons_succ, extrF_tup, binF_add, binF_sub, binF_mul, binF_eql, binF_neq, binF_lss, binF_leq, binF_gtr, binF_geq, true_and]
        by_cases hnn : 0 ≤ lf w ws i j
        · have e1 : decide (0 ≤ lf w ws i j) = true := decide_eq_true hnn
          simp only [e1, gval_bool, if_true, letO_some, binF_lss, binF_eql, pickF_true]
          by_cases hjl : j < ws.length
          · have e2 : decide ((j : Int) < (ws.length : Int)) = true := by simp; omega
            have e3 : ((j : Int) == (ws.length : Int)) = false := by simp; omega
            simp only [e2, e3, gval_bool, if_true, letO_some, binF_mul, binF_add, binF_gtr]
            refine hu.get (Heap.le_refl _) (by omega) (by omega) ?_
            rw [Int.toNat_natCast]
            refine hu.get (Heap.le_refl _) (by omega) (by omega) ?_
            rw [Int.toNat_natCast, hsqf, wrap_i64 (n := sqf w ws i j) (by omega) (by omega)]
            simp only [letO_some, cellsOf?_agg, cellsOf?_int, cellsOf?_bool, cellsOf?_imm, cellsOf?_ref, cellsOf?_nils, faddr_iptr, faddr_ptr, List.drop_succ_cons, List.drop_zero, List.take_succ_cons, List.take_zero, load1_iptr, loadN_iptr, List.length_cons, List.length_nil, Nat.le_refl, if_true, List.getElem?_cons_zero, List.getElem?_cons_succ, List.getD_cons_zero, List.getD_cons_succ, extrF_tup, binF_add, binF_sub, binF_mul, binF_eql, binF_neq, binF_lss, binF_leq, binF_gtr, binF_geq, true_and, pickF_true]
            rw [wrap_i64 (by omega) (by omega)]
            refine condA_t (fun hv2 => ?_) (fun hnv3 => ?_)
            · exact endK_ret (fail i j hij hjl ⟨hnn, hv2⟩)
            · simp only [condA_ff]
              refine ⟨?_, rfl, fun _ hh => hnv3 hh.2⟩
              rw [if_pos (by omega)]; rfl
          · have hje : j = ws.length := by omega
            have e2 : decide ((j : Int) < (ws.length : Int)) = false := by simp; omega
            have e3 : ((j : Int) == (ws.length : Int)) = true := by rw [hje]; exact beq_self_eq_true _
            simp only [e2, e3, gval_bool, Bool.false_eq_true, if_false, letO_some, pickF_false, condA_ff, condA_tt]
            refine hu.get (Heap.le_refl _) (by omega) (by omega) ?_
            rw [Int.toNat_natCast]
            simp only [min2F, letO_some]
            refine ⟨?_, rfl, fun h => absurd h hjl⟩
            rw [if_neg (show ¬ (j + 1 ≤ ws.length) by omega), mn, if_pos (show 0 ≤ lf w ws i ws.length by rw [← hje]; exact hnn)]
            rfl
        · have e1 : decide (0 ≤ lf w ws i j) = false := decide_eq_false hnn
          simp only [e1, gval_bool, Bool.false_eq_true, if_false, letO_some, pickF_false, condA_ff]
          refine ⟨?_, rfl, fun _ hh => hnn hh.1⟩
          by_cases hjl : j < ws.length
          · rw [if_pos (by omega)]; rfl
          · have hje : j = ws.length := by omega
            rw [if_neg (show ¬ (j + 1 ≤ ws.length) by omega), mn, if_neg (show ¬ 0 ≤ lf w ws i ws.length by rw [← hje]; exact hnn)]; rfl
      · rintro L h'' ⟨rfl, rfl, hv3⟩
        simp only [letO_some, cellsOf?_agg, cellsOf?_int, cellsOf?_bool, cellsOf?_imm, cellsOf?_ref, cellsOf?_nils, faddr_iptr, faddr_ptr, List.drop_succ_cons, List.drop_zero, List.take_succ_cons, List.take_zero, load1_iptr, loadN_iptr, List.length_cons, List.length_nil, Nat.le_refl, if_true, List.getElem?_cons_zero, List.getElem?_cons_succ, List.getD_cons_zero, List.getD_cons_succ, extrF_tup, binF_add, binF_sub, binF_mul, binF_eql, binF_neq, binF_lss, binF_leq, binF_gtr, binF_geq, true_and]
        rw [wrap_i64 (by omega) (by omega)]
        refine ⟨⟨j + 1, rfl, by omega, by omega, rfl, fun j' h1 h2 h3 => ?_⟩, by simp <;> omega⟩
        by_cases he : j' = j
        · subst he; exact hv3 h3
        · exact hnv2 j' h1 (by omega) h3
    · rw [if_neg (show ¬ (j ≤ ws.length) by omega)]
      try rw [wrap_i64 (by omega) (by omega)]
      refine ⟨⟨i + 1, rfl, by omega, rfl, fun i' j' h1 h2 h3 => ?_⟩, by simp <;> omega⟩
      by_cases he : i' = i
      · subst he; exact hnv2 j' h2 (by omega) h3
      · exact hnv i' j' (by omega) h2 h3
  · have hin2 : i = ws.length := by omega
    subst hin2
    have hg := bndI_good (w := w) (ws := ws) (P := P) hc (fun i j h1 h2 => hnv i j (by omega) h1 h2) 20000 ws.length 0 (by omega)
    rw [mn] at hg
    rw [hg, mn_same hc (hP _).2] at hk
    exact endK_ret hk
end Go.Proofs.Ytlajhbpkogekfaa

namespace Go.Proofs.Ytlajhbpkogekfaa
open Go.Av Line
set_option linter.unusedVariables false
set_option linter.unusedSimpArgs false
set_option maxRecDepth 4000

theorem prices_len {w : Int} {ws : List Int} : (pricesL w ws).length = ws.length := by simp [pricesL]
theorem starts_len {w : Int} {ws : List Int} : (startsL w ws).length = ws.length := by simp [startsL]
theorem pls_at {w : Int} {ws : List Int} {k : Nat} (h : k ≤ ws.length) : (pls w ws ws.length).getD k (0, 0) = (pls w ws k).getD k (0, 0) := by
  have := pls_get (w := w) (ws := ws) (k := k) (m := k) (Nat.le_refl _) (ws.length - k)
  rwa [show k + (ws.length - k) = ws.length by omega] at this
theorem starts_get {w : Int} {ws : List Int} {k : Nat} (h : k < ws.length) : (startsL w ws)[k]? = some (((pls w ws (k + 1)).getD (k + 1) (0, 0)).2 : Int) := by
  rw [← pls_at h]
  simp only [startsL, List.getElem?_map, List.getElem?_drop, List.getD_eq_getElem?_getD]
  rw [Nat.add_comm 1 k, List.getElem?_eq_getElem (by simp; omega)]
  rfl
theorem prices_get {w : Int} {ws : List Int} {k : Nat} (h : k < ws.length) : (pricesL w ws)[k]? = some ((pls w ws k).getD k (0, 0)).1 := by
  rw [← pls_at (by omega)]
  simp only [pricesL, List.getElem?_map, List.getElem?_take_of_lt h, List.getD_eq_getElem?_getD]
  rw [List.getElem?_eq_getElem (by simp; omega)]
  rfl
theorem take_one {l : List Int} {k : Nat} {x : Int} (h : l[k]? = some x) : l.take (k + 1) = l.take k ++ [x] := by rw [List.take_add_one, h]; rfl

/-- Starts, of the reference -/
theorem c24 {w : Int} {v : AV} {ws : List Int} {H : Heap} {K : AV → Heap → Prop} (hv : Reads H v ws) (hlen : ws.length < 2 ^ 60) (hk : K (.tup [sl (startsO w ws), .int .i64 (chk w ws)]) H) : ACalls Try.prog 24 [.agg [.int .i64 w, v]] H K := by
  apply W24_ok
  unfold W24
  simp only [letO_some, cellsOf?_agg, cellsOf?_int, cellsOf?_bool, cellsOf?_imm, cellsOf?_ref, cellsOf?_nils, faddr_iptr, faddr_ptr, List.drop_succ_cons, List.drop_zero, List.take_succ_cons, List.take_zero, load1_iptr, loadN_iptr, List.length_cons, List.length_nil, Nat.le_refl, if_true, List.getElem?_cons_zero, List.getElem?_cons_succ, List.getD_cons_zero, List.getD_cons_succ, extrF_tup, binF_add, binF_sub, binF_mul, binF_eql, binF_neq, binF_lss, binF_leq, binF_gtr, binF_geq, true_and]
  refine c51 hv (by omega) ?_
  simp only [letO_some, cellsOf?_agg, cellsOf?_int, cellsOf?_bool, cellsOf?_imm, cellsOf?_ref, cellsOf?_nils, faddr_iptr, faddr_ptr, List.drop_succ_cons, List.drop_zero, List.take_succ_cons, List.take_zero, load1_iptr, loadN_iptr, List.length_cons, List.length_nil, Nat.le_refl, if_true, List.getElem?_cons_zero, List.getElem?_cons_succ, List.getD_cons_zero, List.getD_cons_succ, extrF_tup, binF_add, binF_sub, binF_mul, binF_eql, binF_neq, binF_lss, binF_leq, binF_gtr, binF_geq, true_and, condA_bool]
  refine ⟨fun h => ?_, fun h => ?_⟩
  · have h : ¬ chk w ws = 0 := by simpa using h
    rw [startsO, if_neg h] at hk
    exact endK_nil (Heap.le_refl _) hk
  have hc : chk w ws = 0 := by simpa using h
  rw [startsO, if_pos hc, hc] at hk
  obtain ⟨w1, w2, n1, n2, hws⟩ := chk_ok hc
  refine ⟨fun L H' => ∃ (k : Nat) (X : AV), eqv L [X, .int .i64 ((k + 1 : Nat) : Int)] ∧ k ≤ ws.length ∧ Grow 1 H H' X k (ints ((startsL w ws).take k)), fun L _ => (ws.length + 1 - iv L 1).toNat, ⟨0, .nils, rfl, by omega, Grow.nils 1 H⟩, ?_⟩
  intro L H' hI
  obtain ⟨k, X, rfl, hkn, hg⟩ := hI
  have hv' := hv.le hg.le
  simp only [letO_some, cellsOf?_agg, cellsOf?_int, cellsOf?_bool, cellsOf?_imm, cellsOf?_ref, cellsOf?_nils, faddr_iptr, faddr_ptr, List.drop_succ_cons, List.drop_zero, List.take_succ_cons, List.take_zero, load1_iptr, loadN_iptr, List.length_cons, List.length_nil, Nat.le_refl, if_true, List.getElem?_cons_zero, List.getElem?_cons_succ, List.getD_cons_zero, List.getD_cons_succ, extrF_tup, binF_add, binF_sub, binF_mul, binF_eql, binF_neq, binF_lss, binF_leq, binF_gtr, binF_geq, true_and, hv.len]
  refine condA_t (fun hlt => ?_) (fun hge => ?_)
  · refine c68 (n := k + 1) hv' hc (by omega) (by omega) ?_
    simp only [letO_some, cellsOf?_agg, cellsOf?_int, cellsOf?_bool, cellsOf?_imm, cellsOf?_ref, cellsOf?_nils, faddr_iptr, faddr_ptr, List.drop_succ_cons, List.drop_zero, List.take_succ_cons, List.take_zero, load1_iptr, loadN_iptr, List.length_cons, List.length_nil, Nat.le_refl, if_true, List.getElem?_cons_zero, List.getElem?_cons_succ, List.getD_cons_zero, List.getD_cons_succ, extrF_tup, binF_add, binF_sub, binF_mul, binF_eql, binF_neq, binF_lss, binF_leq, binF_gtr, binF_geq, true_and, l22 cellsOf?_int]
    refine appendA_one hg (by omega) fun v' H7 hg7 => ?_
    rw [wrap_i64 (by omega) (by omega)]
    refine ⟨⟨k + 1, v', rfl, by omega, ?_⟩, by simp <;> omega⟩
    rw [take_one (starts_get (show k < ws.length by omega))]
    exact hg7
  · have hk2 : k = ws.length := by omega
    subst hk2
    rw [List.take_of_length_le (by rw [starts_len]; omega)] at hg
    refine hg.end2 ?_
    rw [sl, starts_len] at hk
    exact hk

/-- prices, of the reference -/
theorem c69 {w : Int} {v : AV} {ws : List Int} {H : Heap} {K : AV → Heap → Prop} (hv : Reads H v ws) (hc : chk w ws = 0) (hk : K (sl (pricesL w ws)) H) : ACalls Try.prog 69 [.agg [.int .i64 w, v]] H K := by
  apply W69_ok
  unfold W69
  obtain ⟨w1, w2, n1, n2, hws⟩ := chk_ok hc
  simp only [letO_some, cellsOf?_agg, cellsOf?_int, cellsOf?_bool, cellsOf?_imm, cellsOf?_ref, cellsOf?_nils, faddr_iptr, faddr_ptr, List.drop_succ_cons, List.drop_zero, List.take_succ_cons, List.take_zero, load1_iptr, loadN_iptr, List.length_cons, List.length_nil, Nat.le_refl, if_true, List.getElem?_cons_zero, List.getElem?_cons_succ, List.getD_cons_zero, List.getD_cons_succ, extrF_tup, binF_add, binF_sub, binF_mul, binF_eql, binF_neq, binF_lss, binF_leq, binF_gtr, binF_geq, true_and, l22 cellsOf?_int]
  have h0 : ints ((pricesL w ws).take 1) = [.int .i64 0] := by
    rw [take_one (prices_get (show 0 < ws.length by omega))]; simp [pls, ints]
  refine ⟨fun L H' => ∃ (k : Nat) (X : AV), eqv L [X, .int .i64 (k : Int)] ∧ 1 ≤ k ∧ k ≤ ws.length ∧ Grow 1 H H' X k (ints ((pricesL w ws).take k)), fun L _ => (ws.length - iv L 1).toNat, ⟨1, .imm 1 true [.int .i64 0], rfl, by omega, by omega, by rw [h0]; exact Grow.imm rfl⟩, ?_⟩
  intro L H' hI
  obtain ⟨k, X, rfl, hk1, hkn, hg⟩ := hI
  have hv' := hv.le hg.le
  simp only [letO_some, cellsOf?_agg, cellsOf?_int, cellsOf?_bool, cellsOf?_imm, cellsOf?_ref, cellsOf?_nils, faddr_iptr, faddr_ptr, List.drop_succ_cons, List.drop_zero, List.take_succ_cons, List.take_zero, load1_iptr, loadN_iptr, List.length_cons, List.length_nil, Nat.le_refl, if_true, List.getElem?_cons_zero, List.getElem?_cons_succ, List.getD_cons_zero, List.getD_cons_succ, extrF_tup, binF_add, binF_sub, binF_mul, binF_eql, binF_neq, binF_lss, binF_leq, binF_gtr, binF_geq, true_and, hv.len]
  refine condA_t (fun hlt => ?_) (fun hge => ?_)
  · refine c68 (n := k) hv' hc (by omega) (by omega) ?_
    simp only [letO_some, cellsOf?_agg, cellsOf?_int, cellsOf?_bool, cellsOf?_imm, cellsOf?_ref, cellsOf?_nils, faddr_iptr, faddr_ptr, List.drop_succ_cons, List.drop_zero, List.take_succ_cons, List.take_zero, load1_iptr, loadN_iptr, List.length_cons, List.length_nil, Nat.le_refl, if_true, List.getElem?_cons_zero, List.getElem?_cons_succ, List.getD_cons_zero, List.getD_cons_succ, extrF_tup, binF_add, binF_sub, binF_mul, binF_eql, binF_neq, binF_lss, binF_leq, binF_gtr, binF_geq, true_and, l22 cellsOf?_int]
    refine appendA_one hg (by omega) fun v' H7 hg7 => ?_
    rw [wrap_i64 (by omega) (by omega)]
    refine ⟨⟨k + 1, v', rfl, by omega, by omega, ?_⟩, by simp <;> omega⟩
    rw [take_one (prices_get (show k < ws.length by omega))]
    exact hg7
  · have hk2 : k = ws.length := by omega
    subst hk2
    rw [List.take_of_length_le (by rw [prices_len]; omega)] at hg
    refine hg.end1 ?_
    rw [sl, prices_len] at hk
    exact hk

/-- Prices, of the reference -/
theorem c27 {w : Int} {v : AV} {ws : List Int} {H : Heap} {K : AV → Heap → Prop} (hv : Reads H v ws) (hlen : ws.length < 2 ^ 60) (hk : K (.tup [sl (pricesO w ws), .int .i64 (chk w ws)]) H) : ACalls Try.prog 27 [.agg [.int .i64 w, v]] H K := by
  apply W27_ok
  unfold W27
  simp only [letO_some, cellsOf?_agg, cellsOf?_int, cellsOf?_bool, cellsOf?_imm, cellsOf?_ref, cellsOf?_nils, faddr_iptr, faddr_ptr, List.drop_succ_cons, List.drop_zero, List.take_succ_cons, List.take_zero, load1_iptr, loadN_iptr, List.length_cons, List.length_nil, Nat.le_refl, if_true, List.getElem?_cons_zero, List.getElem?_cons_succ, List.getD_cons_zero, List.getD_cons_succ, extrF_tup, binF_add, binF_sub, binF_mul, binF_eql, binF_neq, binF_lss, binF_leq, binF_gtr, binF_geq, true_and]
  refine c51 hv (by omega) ?_
  simp only [letO_some, cellsOf?_agg, cellsOf?_int, cellsOf?_bool, cellsOf?_imm, cellsOf?_ref, cellsOf?_nils, faddr_iptr, faddr_ptr, List.drop_succ_cons, List.drop_zero, List.take_succ_cons, List.take_zero, load1_iptr, loadN_iptr, List.length_cons, List.length_nil, Nat.le_refl, if_true, List.getElem?_cons_zero, List.getElem?_cons_succ, List.getD_cons_zero, List.getD_cons_succ, extrF_tup, binF_add, binF_sub, binF_mul, binF_eql, binF_neq, binF_lss, binF_leq, binF_gtr, binF_geq, true_and, condA_bool]
  refine ⟨fun h => ?_, fun h => ?_⟩
  · have h : ¬ chk w ws = 0 := by simpa using h
    rw [pricesO, if_neg h] at hk
    exact endK_nil (Heap.le_refl _) hk
  have hc : chk w ws = 0 := by simpa using h
  rw [pricesO, if_pos hc, hc] at hk
  refine c69 hv hc ?_
  try simp only [letO_some, cellsOf?_agg, cellsOf?_int, cellsOf?_bool, cellsOf?_imm, cellsOf?_ref, cellsOf?_nils, faddr_iptr, faddr_ptr, List.drop_succ_cons, List.drop_zero, List.take_succ_cons, List.take_zero, load1_iptr, loadN_iptr, List.length_cons, List.length_nil, Nat.le_refl, if_true, List.getElem?_cons_zero, List.getElem?_cons_succ, List.getD_cons_zero, List.getD_cons_succ, extrF_tup, binF_add, binF_sub, binF_mul, binF_eql, binF_neq, binF_lss, binF_leq, binF_gtr, binF_geq, true_and]
  exact endK_ret hk

/-- Bound, of the reference -/
theorem c29 {w : Int} {v u : AV} {ws P : List Int} {H : Heap} {K : AV → Heap → Prop} (hv : Reads H v ws) (hu : Reads H u P) (hlen : ws.length < 2 ^ 60) (hlen2 : P.length < 2 ^ 60) (hk : K (.tup [.int .i64 (boundO w ws P).1, .int .i64 (boundO w ws P).2]) H) :
    ACalls Try.prog 29 [.agg [.int .i64 w, v], u] H K := by
  apply W29_ok
  unfold W29
  simp only [letO_some, cellsOf?_agg, cellsOf?_int, cellsOf?_bool, cellsOf?_imm, cellsOf?_ref, cellsOf?_nils, faddr_iptr, faddr_ptr, List.drop_succ_cons, List.drop_zero, List.take_succ_cons, List.take_zero, load1_iptr, loadN_iptr, List.length_cons, List.length_nil, Nat.le_refl, if_true, List.getElem?_cons_zero, List.getElem?_cons_succ, List.getD_cons_zero, List.getD_cons_succ, extrF_tup, binF_add, binF_sub, binF_mul, binF_eql, binF_neq, binF_lss, binF_leq, binF_gtr, binF_geq, true_and]
  refine c51 hv (by omega) ?_
  simp only [letO_some, cellsOf?_agg, cellsOf?_int, cellsOf?_bool, cellsOf?_imm, cellsOf?_ref, cellsOf?_nils, faddr_iptr, faddr_ptr, List.drop_succ_cons, List.drop_zero, List.take_succ_cons, List.take_zero, load1_iptr, loadN_iptr, List.length_cons, List.length_nil, Nat.le_refl, if_true, List.getElem?_cons_zero, List.getElem?_cons_succ, List.getD_cons_zero, List.getD_cons_succ, extrF_tup, binF_add, binF_sub, binF_mul, binF_eql, binF_neq, binF_lss, binF_leq, binF_gtr, binF_geq, true_and, condA_bool]
  refine ⟨fun h => ?_, fun h => ?_⟩
  · have h : ¬ chk w ws = 0 := by simpa using h
    rw [boundO, if_neg h] at hk
    exact endK_ret hk
  have hc : chk w ws = 0 := by simpa using h
  rw [boundO, if_pos hc] at hk
  refine c71 hv hu hc hlen2 ?_
  try simp only [letO_some, cellsOf?_agg, cellsOf?_int, cellsOf?_bool, cellsOf?_imm, cellsOf?_ref, cellsOf?_nils, faddr_iptr, faddr_ptr, List.drop_succ_cons, List.drop_zero, List.take_succ_cons, List.take_zero, load1_iptr, loadN_iptr, List.length_cons, List.length_nil, Nat.le_refl, if_true, List.getElem?_cons_zero, List.getElem?_cons_succ, List.getD_cons_zero, List.getD_cons_succ, extrF_tup, binF_add, binF_sub, binF_mul, binF_eql, binF_neq, binF_lss, binF_leq, binF_gtr, binF_geq, true_and]
  exact endK_ret hk

/-- Proves, of the reference -/
theorem c31 {w : Int} {v u p : AV} {ws ends P : List Int} {H : Heap} {K : AV → Heap → Prop} (hv : Reads H v ws) (hu : Reads H u ends) (hp : Reads H p P) (hlen : ws.length < 2 ^ 60) (hlen2 : ends.length < 2 ^ 60) (hlen3 : P.length < 2 ^ 60)
    (hk : K (.int .i64 (provesO w ws ends P)) H) : ACalls Try.prog 31 [.agg [.int .i64 w, v], u, p] H K := by
  apply W31_ok
  unfold W31
  simp only [letO_some, cellsOf?_agg, cellsOf?_int, cellsOf?_bool, cellsOf?_imm, cellsOf?_ref, cellsOf?_nils, faddr_iptr, faddr_ptr, List.drop_succ_cons, List.drop_zero, List.take_succ_cons, List.take_zero, load1_iptr, loadN_iptr, List.length_cons, List.length_nil, Nat.le_refl, if_true, List.getElem?_cons_zero, List.getElem?_cons_succ, List.getD_cons_zero, List.getD_cons_succ, extrF_tup, binF_add, binF_sub, binF_mul, binF_eql, binF_neq, binF_lss, binF_leq, binF_gtr, binF_geq, true_and]
  refine c52 hv hu hlen hlen2 ?_
  simp only [letO_some, cellsOf?_agg, cellsOf?_int, cellsOf?_bool, cellsOf?_imm, cellsOf?_ref, cellsOf?_nils, faddr_iptr, faddr_ptr, List.drop_succ_cons, List.drop_zero, List.take_succ_cons, List.take_zero, load1_iptr, loadN_iptr, List.length_cons, List.length_nil, Nat.le_refl, if_true, List.getElem?_cons_zero, List.getElem?_cons_succ, List.getD_cons_zero, List.getD_cons_succ, extrF_tup, binF_add, binF_sub, binF_mul, binF_eql, binF_neq, binF_lss, binF_leq, binF_gtr, binF_geq, true_and, condA_bool]
  refine ⟨fun h => ?_, fun h => ?_⟩
  · have h : ¬ endedE w ws ends = 0 := by simpa using h
    rw [provesO, if_neg h] at hk
    exact endK_ret hk
  have h : endedE w ws ends = 0 := by simpa using h
  rw [provesO, if_pos h] at hk
  obtain ⟨hc, hs, hov⟩ := ended_ok h
  obtain ⟨hup, ha, hl1, hl2, hE, hf⟩ := ord_facts hc hs
  have hEl := toN_len ends
  refine c71 hv hp hc hlen3 ?_
  simp only [letO_some, cellsOf?_agg, cellsOf?_int, cellsOf?_bool, cellsOf?_imm, cellsOf?_ref, cellsOf?_nils, faddr_iptr, faddr_ptr, List.drop_succ_cons, List.drop_zero, List.take_succ_cons, List.take_zero, load1_iptr, loadN_iptr, List.length_cons, List.length_nil, Nat.le_refl, if_true, List.getElem?_cons_zero, List.getElem?_cons_succ, List.getD_cons_zero, List.getD_cons_succ, extrF_tup, binF_add, binF_sub, binF_mul, binF_eql, binF_neq, binF_lss, binF_leq, binF_gtr, binF_geq, true_and]
  refine ⟨fun L h' => eqv L [.int .i64 (if (bndR w ws P).2 ≠ 0 then (bndR w ws P).2 else if (bndR w ws P).1 ≠ costE w ws ends then 14 else 0)] ∧ eqv h' H, ?_, ?_⟩
  · by_cases he : (bndR w ws P).2 = 0
    · have e : ((bndR w ws P).2 == 0) = true := by rw [he]; rfl
      rw [if_neg (show ¬ ((bndR w ws P).2 ≠ 0) by omega)]
      simp only [e, gval_bool, if_true, letO_some, hu.len, binF_sub, condG_tt]
      rw [wrap_i64 (by omega) (by omega), show ((ends.length : Int) - 1) = ((ends.length - 1 : Nat) : Int) by omega]
      refine exJ ?_
      refine c66 hv hu hc hup (by omega) hl1 hf ?_
      have hne : toN ends ≠ [] := by intro h0; rw [h0] at hEl; simp at hEl; omega
      have e2 : costE w ws ends = wantE w ws (toN ends) (ends.length - 1) (ends.length - 1) := by
        unfold costE
        have := costE_eq (w := w) (ws := ws) ha hne ends.length (by omega)
        rw [hEl] at this
        rw [this]
        obtain ⟨m, hm⟩ : ∃ m, ends.length = m + 1 := ⟨ends.length - 1, by omega⟩
        rw [hm, Nat.add_sub_cancel, wantE, if_neg (show ¬ (m < m) by omega), Int.add_zero]
      rw [← e2]
      simp only [gval_bool, if_true, letO_some, binF_neq, pickF_true, condA_bool]
      refine ⟨fun hn => ?_, fun hn => ?_⟩
      · rw [if_pos (by simpa using hn)]; exact ⟨rfl, rfl⟩
      · rw [if_neg (by simpa using hn), he]; exact ⟨rfl, rfl⟩
    · have e : ((bndR w ws P).2 == 0) = false := by simpa using he
      rw [if_pos he]
      simp only [e, gval_bool, Bool.false_eq_true, if_false, letO_some, condG_ff]
      refine exU ?_
      simp only [gval_bool, Bool.false_eq_true, if_false, letO_some, pickF_false, condA_ff]
      exact ⟨rfl, rfl⟩
  rintro L h' ⟨rfl, rfl⟩
  simp only [letO_some, cellsOf?_agg, cellsOf?_int, cellsOf?_bool, cellsOf?_imm, cellsOf?_ref, cellsOf?_nils, faddr_iptr, faddr_ptr, List.drop_succ_cons, List.drop_zero, List.take_succ_cons, List.take_zero, load1_iptr, loadN_iptr, List.length_cons, List.length_nil, Nat.le_refl, if_true, List.getElem?_cons_zero, List.getElem?_cons_succ, List.getD_cons_zero, List.getD_cons_succ, extrF_tup, binF_add, binF_sub, binF_mul, binF_eql, binF_neq, binF_lss, binF_leq, binF_gtr, binF_geq, true_and]
  exact endK_ret hk
end Go.Proofs.Ytlajhbpkogekfaa
