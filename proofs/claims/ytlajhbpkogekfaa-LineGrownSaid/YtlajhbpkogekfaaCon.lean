import Derived.Test.YtlajhbpkogekfaaBase
import Derived.Test.YtlajhbpkogekfaaAvB
/- What the functions of the line package compute: a contract each, in plain Lean. Conditions: each theorem names its own. -/
/- What the functions compute. -/
namespace Line

/-- The length of the first words, each with a blank. -/
def psum (ws : List Int) (k : Nat) : Int := (ws.take k).sum + k
theorem psum_zero (ws : List Int) : psum ws 0 = 0 := by simp [psum]
theorem psum_succ {ws : List Int} {k : Nat} (h : k < ws.length) : psum ws (k + 1) = psum ws k + ws.getD k 0 + 1 := by
  simp only [psum, List.take_add_one, List.sum_append]
  simp [List.getD_eq_getElem?_getD, h]
  omega
def sumsN (ws : List Int) (k : Nat) : List Int := (List.range (k + 1)).map (psum ws)
theorem sumsN_succ (ws : List Int) (k : Nat) : sumsN ws (k + 1) = sumsN ws k ++ [psum ws (k + 1)] := by
  simp [sumsN, List.range_succ]
@[simp] theorem sumsN_length (ws : List Int) (k : Nat) : (sumsN ws k).length = k + 1 := by simp [sumsN]
theorem sumsN_get {ws : List Int} {n k : Nat} (h : k ≤ n) : (sumsN ws n).getD k 0 = psum ws k := by
  rw [List.getD_eq_getElem?_getD]
  simp only [sumsN, List.getElem?_map]
  rw [List.getElem?_range (by omega)]
  rfl
/-- The error of a text. -/
def chk (w : Int) (ws : List Int) : Int := if w < 1 ∨ 40 < w then 1 else if ws.length = 0 then 4 else if 10 < ws.length then 3 else if ∀ x ∈ ws, 1 ≤ x ∧ x ≤ w then 0 else 1
theorem psum_le {ws : List Int} {k : Nat} (h : ∀ x ∈ ws.take k, 1 ≤ x ∧ x ≤ 40) : 0 ≤ psum ws k ∧ psum ws k ≤ 41 * k := by
  unfold psum
  have : ∀ l : List Int, (∀ x ∈ l, 1 ≤ x ∧ x ≤ 40) → 0 ≤ l.sum ∧ l.sum ≤ 40 * l.length := by
    intro l
    induction l with
    | nil => simp
    | cons a l ih =>
      intro h
      have h1 := h a (by simp)
      have h2 := ih fun x hx => h x (by simp [hx])
      simp only [List.sum_cons, List.length_cons]
      omega
  have h3 := this _ h
  have h4 : (ws.take k).length ≤ k := by simp; omega
  omega
end Line
namespace Line
/-- What is left of a line, by sums. -/
def leftS (w : Int) (S : List Int) (i j : Nat) : Int := w + 1 - (S.getD j 0 - S.getD i 0)
def Bnd (S : List Int) : Prop := ∀ k, 0 ≤ S.getD k 0 ∧ S.getD k 0 ≤ 100000
theorem leftS_bnd {w : Int} {S : List Int} (h : Bnd S) (hw : 0 ≤ w ∧ w ≤ 1000) (i j : Nat) : -200000 ≤ leftS w S i j ∧ leftS w S i j ≤ 200000 := by
  have := h i; have := h j; unfold leftS; omega
end Line

namespace Line
theorem sq_nn (x : Int) : 0 ≤ x * x := by
  rw [← Int.natAbs_mul_self' x, ← Int.natCast_mul]
  exact Int.natCast_nonneg _
theorem sq_le {x : Int} (c : Nat) (h : -c ≤ x ∧ x ≤ c) : x * x ≤ c * c := by
  rw [← Int.natAbs_mul_self' x, ← Int.natCast_mul, ← Int.natCast_mul]
  have : x.natAbs ≤ c := by omega
  exact Int.ofNat_le.2 (Nat.mul_le_mul this this)
end Line
namespace Line
/-- Where the k-th line begins. -/
def stN (E : List Nat) (k : Nat) : Nat := if k = 0 then 0 else E.getD (k - 1) 0
def spanN (E : List Nat) (k : Nat) : Nat × Nat := (stN E k, E.getD k 0)
def spansN (E : List Nat) (n : Nat) : List (Nat × Nat) := (List.range n).map (spanN E)
theorem spansN_succ (E : List Nat) (n : Nat) : spansN E (n + 1) = spansN E n ++ [spanN E n] := by simp [spansN, List.range_succ]
@[simp] theorem spansN_length (E : List Nat) (n : Nat) : (spansN E n).length = n := by simp [spansN]
theorem spansN_get {E : List Nat} {n k : Nat} (h : k < n) : (spansN E n)[k]? = some (spanN E k) := by
  simp only [spansN, List.getElem?_map]
  rw [List.getElem?_range h]
  rfl
def up (E : List Nat) : List Int := E.map fun (x : Nat) => (x : Int)
@[simp] theorem up_length (E : List Nat) : (up E).length = E.length := by simp [up]
@[simp] theorem up_getD (E : List Nat) (k : Nat) : (up E).getD k 0 = (E.getD k 0 : Nat) := by
  simp only [up, List.getD_eq_getElem?_getD, List.getElem?_map]
  cases E[k]? <;> simp
end Line
namespace Line
/-- The error of ends, without what fits. -/
def scan (n : Int) : Int → List Int → Int
  | last, [] => if last ≠ n then 5 else 0
  | last, e :: r => if e < 1 ∨ n < e then 2 else if e ≤ last then 7 else scan n e r
def toN (l : List Int) : List Nat := l.map Int.toNat
def lf (w : Int) (ws : List Int) (i j : Nat) : Int := leftS w (sumsN ws ws.length) i j
def over (w : Int) (ws : List Int) (E : List Nat) : Bool := (spansN E E.length).any fun p => decide (lf w ws p.1 p.2 < 0)
def endedE (w : Int) (ws ends : List Int) : Int :=
  if chk w ws ≠ 0 then chk w ws else if scan ws.length 0 ends ≠ 0 then scan ws.length 0 ends else if over w ws (toN ends) then 15 else 0
theorem chk_ok {w : Int} {ws : List Int} (h : chk w ws = 0) : 1 ≤ w ∧ w ≤ 40 ∧ 1 ≤ ws.length ∧ ws.length ≤ 10 ∧ ∀ x ∈ ws, 1 ≤ x ∧ x ≤ w := by
  unfold chk at h
  split at h; · omega
  split at h; · omega
  split at h; · omega
  split at h
  · refine ⟨by omega, by omega, by omega, by omega, by assumption⟩
  · omega
theorem bnd_sums {w : Int} {ws : List Int} (h : chk w ws = 0) : Bnd (sumsN ws ws.length) := by
  obtain ⟨h1, h2, h3, h4, h5⟩ := chk_ok h
  intro k
  by_cases hk : k ≤ ws.length
  · rw [sumsN_get hk]
    have := psum_le (ws := ws) (k := k) fun x hx => by have := h5 x (List.mem_of_mem_take hx); omega
    omega
  · rw [List.getD_eq_getElem?_getD, List.getElem?_eq_none (by simp; omega)]
    simp
theorem scan_range {n : Int} : ∀ {l : List Int} {last : Int}, scan n last l = 0 → ∀ e ∈ l, 1 ≤ e ∧ e ≤ n
  | [], _, _ => by simp
  | e :: r, last, h => by
    unfold scan at h
    split at h; · omega
    split at h; · omega
    intro x hx
    rcases List.mem_cons.1 hx with rfl | hx
    · omega
    · exact scan_range h x hx
theorem up_toN {l : List Int} (h : ∀ e ∈ l, 1 ≤ e) : up (toN l) = l := by
  unfold up toN
  rw [List.map_map]
  conv => rhs; rw [← List.map_id l]
  refine List.map_congr_left fun x hx => ?_
  have := h x hx
  simp; omega
theorem stN_le {E : List Nat} {n : Nat} (h : ∀ e ∈ E, e ≤ n) (k : Nat) : stN E k ≤ n ∧ E.getD k 0 ≤ n := by
  have : ∀ k, E.getD k 0 ≤ n := by
    intro k
    rw [List.getD_eq_getElem?_getD]
    cases hk : E[k]? with
    | none => simp
    | some e => exact h e (List.mem_of_getElem? hk)
  refine ⟨?_, this k⟩
  unfold stN
  split
  · omega
  · exact this _
end Line
namespace Line
theorem scan_len {n : Int} : ∀ {l : List Int} {last : Int}, scan n last l = 0 → (l.length : Int) ≤ n - last
  | [], last, h => by
    unfold scan at h
    split at h
    · omega
    · simp; omega
  | e :: r, last, h => by
    unfold scan at h
    split at h; · omega
    split at h; · omega
    have := scan_len h
    simp; omega
end Line

/- What the functions compute: left, cost, places, rests, ends. -/
namespace Line
def sqf (w : Int) (ws : List Int) (i j : Nat) : Int := lf w ws i j * lf w ws i j

/-- What is left of the first lines. -/
def leftL (w : Int) (ws : List Int) (E : List Nat) (k : Nat) : List Int := (List.range k).map fun i => lf w ws (stN E i) (E.getD i 0)
theorem leftL_succ (w : Int) (ws : List Int) (E : List Nat) (k : Nat) : leftL w ws E (k + 1) = leftL w ws E k ++ [lf w ws (stN E k) (E.getD k 0)] := by simp [leftL, List.range_succ]
@[simp] theorem leftL_length (w : Int) (ws : List Int) (E : List Nat) (k : Nat) : (leftL w ws E k).length = k := by simp [leftL]

/-- What lines cost, but for those that are as the last one. -/
def costS (w : Int) (ws : List Int) (last : Nat × Nat) (l : List (Nat × Nat)) : Int := (l.map fun p => if p = last then 0 else sqf w ws p.1 p.2).sum

/-- The best of the last lines to a place, from a number of places on back. -/
def scanB (w : Int) (ws : List Int) (P : List (Int × Nat)) (j : Nat) : Nat → Int × Nat → Int × Nat
  | 0, acc => acc
  | m + 1, acc => if lf w ws m j < 0 then acc else
      scanB w ws P j m (if m + 1 = j ∨ (P.getD m (0, 0)).1 + sqf w ws m j ≤ acc.1 then ((P.getD m (0, 0)).1 + sqf w ws m j, m) else acc)
/-- What is known of the places. -/
def pls (w : Int) (ws : List Int) : Nat → List (Int × Nat)
  | 0 => [(0, 0)]
  | k + 1 => pls w ws k ++ [scanB w ws (pls w ws k) (k + 1) (k + 1) (0, 0)]
@[simp] theorem pls_length (w : Int) (ws : List Int) (k : Nat) : (pls w ws k).length = k + 1 := by
  induction k with
  | zero => rfl
  | succ k ih => simp [pls, ih]

/-- A best end: its cost, where its first line ends, how many ways. -/
abbrev Best := Int × Nat × Nat
def stepR (w : Int) (ws : List Int) (n : Nat) (R : Nat → Best) (i j : Nat) (acc : Best) : Best :=
  if lf w ws i j < 0 then acc else
    let now : Best := if j < n then (sqf w ws i j + (R j).1, j, (R j).2.2) else (0, n, 1)
    if acc.2.2 = 0 ∨ now.1 < acc.1 then now else if now.1 = acc.1 then (now.1, j, acc.2.2 + now.2.2) else acc
/-- The best of the first lines from a place: to the places up to 'i + m', back. -/
def scanR (w : Int) (ws : List Int) (n : Nat) (R : Nat → Best) (i : Nat) : Nat → Best → Best
  | 0, acc => acc
  | m + 1, acc => scanR w ws n R i m (stepR w ws n R i (i + m + 1) acc)
/-- The best of what is behind the last 'k' places. -/
def rst (w : Int) (ws : List Int) (n : Nat) : Nat → List Best
  | 0 => []
  | k + 1 => scanR w ws n (fun j => (rst w ws n k).getD (j - (n - k)) (0, 0, 0)) (n - (k + 1)) (k + 1) (0, 0, 0) :: rst w ws n k
@[simp] theorem rst_length (w : Int) (ws : List Int) (n k : Nat) : (rst w ws n k).length = k := by
  induction k with
  | zero => rfl
  | succ k ih => simp [rst, ih]

/-- The greatest place, at most another one, to which a line fits. -/
def endN (w : Int) (ws : List Int) (i : Nat) : Nat → Nat
  | 0 => 0
  | m + 1 => if lf w ws i (m + 1) < 0 then endN w ws i m else m + 1
/-- Ends of lines as full as they can be. -/
def fullE (w : Int) (ws : List Int) : Nat → Nat → List Nat
  | 0, _ => []
  | f + 1, at' => if at' < ws.length then endN w ws at' ws.length :: fullE w ws f (endN w ws at' ws.length) else []
/-- The first best ends, by a table. -/
def firstE (R : List Best) (n : Nat) : Nat → Nat → List Nat
  | 0, _ => []
  | f + 1, at' => if at' < n then (R.getD at' (0, 0, 0)).2.1 :: firstE R n f (R.getD at' (0, 0, 0)).2.1 else []
end Line

/- Bounds on what is computed. -/
namespace Line
theorem lf_eq {w : Int} {ws : List Int} {i j : Nat} (hi : i ≤ ws.length) (hj : j ≤ ws.length) : lf w ws i j = w + 1 - (psum ws j - psum ws i) := by
  unfold lf leftS
  rw [sumsN_get hi, sumsN_get hj]
theorem lf_one {w : Int} {ws : List Int} {i : Nat} (hc : chk w ws = 0) (hi : i < ws.length) : 0 ≤ lf w ws i (i + 1) := by
  rw [lf_eq (by omega) (by omega), psum_succ hi]
  have : ws.getD i 0 ∈ ws := by
    rw [List.getD_eq_getElem?_getD]; simp [hi]
  have := (chk_ok hc).2.2.2.2 _ this
  omega
theorem lf_bnd {w : Int} {ws : List Int} (hc : chk w ws = 0) (i j : Nat) : -200000 ≤ lf w ws i j ∧ lf w ws i j ≤ 200000 := by
  obtain ⟨w1, w2, _⟩ := chk_ok hc
  exact leftS_bnd (bnd_sums hc) ⟨by omega, by omega⟩ i j
theorem sqf_bnd {w : Int} {ws : List Int} (hc : chk w ws = 0) (i j : Nat) : 0 ≤ sqf w ws i j ∧ sqf w ws i j ≤ 40000000000 := by
  have h3 := lf_bnd hc i j
  have h4 := sq_le 200000 h3
  exact ⟨sq_nn _, by simpa [sqf] using h4⟩

section
variable {w : Int} {ws : List Int} {n : Nat} {R : Nat → Best} {i : Nat}
theorem stepR_bd (hc : chk w ws = 0) {k p s j : Nat} (hp : 1 ≤ p) (hR : ∀ j, 0 ≤ (R j).1 ∧ (R j).1 ≤ 40000000000 * k ∧ (R j).2.2 ≤ p) {acc : Best} (ha : 0 ≤ acc.1 ∧ acc.1 ≤ 40000000000 * (k + 1) ∧ acc.2.2 ≤ s * p) :
    0 ≤ (stepR w ws n R i j acc).1 ∧ (stepR w ws n R i j acc).1 ≤ 40000000000 * (k + 1) ∧ (stepR w ws n R i j acc).2.2 ≤ (s + 1) * p := by
  have hq := sqf_bnd hc i j
  have hr := hR j
  have e : (s + 1) * p = s * p + p := by rw [Nat.add_mul, Nat.one_mul]
  rw [e]
  unfold stepR
  generalize sqf w ws i j = q at *
  generalize R j = r at *
  split
  · omega
  · by_cases hj : j < n
    · simp only [hj, if_true]
      split
      · simp only; omega
      · split
        · simp only; omega
        · omega
    · simp only [hj, if_false]
      split
      · simp only; omega
      · split
        · simp only; omega
        · omega
theorem scanR_bd (hc : chk w ws = 0) {k p : Nat} (hp : 1 ≤ p) (hR : ∀ j, 0 ≤ (R j).1 ∧ (R j).1 ≤ 40000000000 * k ∧ (R j).2.2 ≤ p) : ∀ (m s : Nat) (acc : Best), (0 ≤ acc.1 ∧ acc.1 ≤ 40000000000 * (k + 1) ∧ acc.2.2 ≤ s * p) →
    0 ≤ (scanR w ws n R i m acc).1 ∧ (scanR w ws n R i m acc).1 ≤ 40000000000 * (k + 1) ∧ (scanR w ws n R i m acc).2.2 ≤ (s + m) * p
  | 0, s, acc, h => h
  | m + 1, s, acc, h => by
    have := scanR_bd hc hp hR m (s + 1) _ (stepR_bd (n := n) (i := i) (j := i + m + 1) hc hp hR h)
    rw [show s + (m + 1) = s + 1 + m by omega]
    exact this
theorem rst_bd (hc : chk w ws = 0) : ∀ (k : Nat), k ≤ 10 → ∀ b ∈ rst w ws n k, 0 ≤ b.1 ∧ b.1 ≤ 40000000000 * k ∧ b.2.2 ≤ 11 ^ k
  | 0, _ => by simp [rst]
  | k + 1, hk => by
    have ih := rst_bd hc k (by omega)
    have hp : 1 ≤ 11 ^ k := Nat.one_le_pow _ _ (by decide)
    have e : 11 ^ (k + 1) = 11 * 11 ^ k := by rw [Nat.pow_succ, Nat.mul_comm]
    intro b hb
    rcases List.mem_cons.1 hb with rfl | hb
    · have hR : ∀ j, 0 ≤ ((rst w ws n k).getD (j - (n - k)) (0, 0, 0)).1 ∧ ((rst w ws n k).getD (j - (n - k)) (0, 0, 0)).1 ≤ 40000000000 * k ∧ ((rst w ws n k).getD (j - (n - k)) (0, 0, 0)).2.2 ≤ 11 ^ k := by
        intro j
        rw [List.getD_eq_getElem?_getD]
        cases hx : (rst w ws n k)[j - (n - k)]? with
        | none => simp; omega
        | some b => exact ih b (List.mem_of_getElem? hx)
      have := scanR_bd (w := w) (ws := ws) (n := n) (i := n - (k + 1)) hc hp hR (k + 1) 0 (0, 0, 0) ⟨by simp, by simp; omega, by simp⟩
      obtain ⟨h1, h2, h3⟩ := this
      refine ⟨h1, by omega, Nat.le_trans h3 ?_⟩
      rw [e]
      exact Nat.mul_le_mul_right _ (by omega)
    · have := ih b hb
      refine ⟨this.1, by omega, ?_⟩
      rw [e]; omega

/-- It ends behind where it begins. -/
theorem stepR_end {j : Nat} (hj : i < j) (hjn : j ≤ n) (hR : j < n → 1 ≤ (R j).2.2) {acc : Best} (ha : acc = (0, 0, 0) ∨ (i < acc.2.1 ∧ acc.2.1 ≤ n ∧ 1 ≤ acc.2.2)) :
    (stepR w ws n R i j acc = acc ∧ lf w ws i j < 0) ∨ (i < (stepR w ws n R i j acc).2.1 ∧ (stepR w ws n R i j acc).2.1 ≤ n ∧ 1 ≤ (stepR w ws n R i j acc).2.2) := by
  unfold stepR
  split
  · exact .inl ⟨rfl, by assumption⟩
  · right
    by_cases hjn' : j < n
    · have := hR hjn'
      simp only [hjn', if_true]
      split
      · simp only; omega
      · split
        · simp only; omega
        · rcases ha with rfl | ha
          · simp at *
          · exact ha
    · simp only [hjn', if_false]
      split
      · simp only; omega
      · split
        · simp only; omega
        · rcases ha with rfl | ha
          · simp at *
          · exact ha
theorem scanR_end (hR : ∀ j, i < j → j < n → 1 ≤ (R j).2.2) (h1 : 0 ≤ lf w ws i (i + 1)) : ∀ (m : Nat) (acc : Best), i + m ≤ n → (acc = (0, 0, 0) ∨ (i < acc.2.1 ∧ acc.2.1 ≤ n ∧ 1 ≤ acc.2.2)) →
    (m = 0 ∧ scanR w ws n R i m acc = acc) ∨ (i < (scanR w ws n R i m acc).2.1 ∧ (scanR w ws n R i m acc).2.1 ≤ n ∧ 1 ≤ (scanR w ws n R i m acc).2.2)
  | 0, acc, _, _ => .inl ⟨rfl, rfl⟩
  | m + 1, acc, hm, ha => by
    have hs := stepR_end (w := w) (ws := ws) (n := n) (R := R) (i := i) (j := i + m + 1) (by omega) (by omega) (fun h => hR _ (by omega) h) ha
    have ha2 : stepR w ws n R i (i + m + 1) acc = (0, 0, 0) ∨ (i < (stepR w ws n R i (i + m + 1) acc).2.1 ∧ (stepR w ws n R i (i + m + 1) acc).2.1 ≤ n ∧ 1 ≤ (stepR w ws n R i (i + m + 1) acc).2.2) := by
      rcases hs with hs | hs
      · rw [hs.1]; exact ha
      · exact .inr hs
    have := scanR_end hR h1 m (stepR w ws n R i (i + m + 1) acc) (by omega) ha2
    right
    rcases this with ⟨rfl, he⟩ | h
    · show i < (scanR w ws n R i 0 _).2.1 ∧ _
      rw [he]
      rcases hs with hs | hs
      · exact absurd hs.2 (by simpa using h1)
      · exact hs
    · exact h
theorem rst_end (hc : chk w ws = 0) : ∀ (k : Nat), k ≤ ws.length → ∀ i, ws.length - k ≤ i → i < ws.length → i < ((rst w ws ws.length k).getD (i - (ws.length - k)) (0, 0, 0)).2.1 ∧ ((rst w ws ws.length k).getD (i - (ws.length - k)) (0, 0, 0)).2.1 ≤ ws.length ∧ 1 ≤ ((rst w ws ws.length k).getD (i - (ws.length - k)) (0, 0, 0)).2.2
  | 0, _ => by intro i h1 h2; omega
  | k + 1, hk => by
    intro i h1 h2
    have ih := rst_end hc k (by omega)
    by_cases hi : i = ws.length - (k + 1)
    · have := scanR_end (w := w) (ws := ws) (n := ws.length) (R := fun j => (rst w ws ws.length k).getD (j - (ws.length - k)) (0, 0, 0)) (i := i) (fun j hj hj2 => (ih j (by omega) hj2).2.2) (lf_one hc h2) (k + 1) (0, 0, 0) (by omega) (.inl rfl)
      rcases this with ⟨h, _⟩ | h
      · omega
      · rw [hi] at h ⊢
        simpa only [rst, Nat.sub_self, List.getD_cons_zero] using h
    · have := ih i (by omega) h2
      rw [show i - (ws.length - (k + 1)) = (i - (ws.length - k)) + 1 by omega]
      simpa only [rst, List.getD_cons_succ] using this
end
end Line

/- Bounds on ends and places. -/
namespace Line
theorem endN_range {w : Int} {ws : List Int} {i : Nat} (hc : chk w ws = 0) (hi : i < ws.length) : ∀ m, i < m → i < endN w ws i m ∧ endN w ws i m ≤ m
  | 0, h => absurd h (by omega)
  | m + 1, h => by
    unfold endN
    split
    · rename_i hneg
      have : i < m := by
        by_cases he : m = i
        · subst he
          have := lf_one hc hi
          omega
        · omega
      have := endN_range hc hi m this
      omega
    · omega
theorem scanB_bd {w : Int} {ws : List Int} (hc : chk w ws = 0) {P : List (Int × Nat)} {j : Nat} {B : Int} (hP : ∀ m, 0 ≤ (P.getD m (0, 0)).1 ∧ (P.getD m (0, 0)).1 ≤ B) : ∀ (m : Nat) (acc : Int × Nat), 0 ≤ acc.1 ∧ acc.1 ≤ B + 40000000000 →
    0 ≤ (scanB w ws P j m acc).1 ∧ (scanB w ws P j m acc).1 ≤ B + 40000000000
  | 0, acc, h => h
  | m + 1, acc, h => by
    unfold scanB
    split
    · exact h
    · have := hP m
      have := sqf_bnd hc m j
      refine scanB_bd hc hP m _ ?_
      split
      · simp only; omega
      · exact h
theorem pls_bd {w : Int} {ws : List Int} (hc : chk w ws = 0) : ∀ (k m : Nat), 0 ≤ ((pls w ws k).getD m (0, 0)).1 ∧ ((pls w ws k).getD m (0, 0)).1 ≤ 40000000000 * k
  | 0, m => by
    cases m <;> simp [pls]
  | k + 1, m => by
    have ih := pls_bd hc k
    by_cases h : m < k + 1
    · have := ih m
      rw [pls, List.getD_eq_getElem?_getD, List.getElem?_append_left (by simpa using h), ← List.getD_eq_getElem?_getD]
      omega
    · by_cases h2 : m = k + 1
      · subst h2
        rw [pls, List.getD_eq_getElem?_getD, List.getElem?_append_right (by simp)]
        simp only [pls_length, Nat.sub_self, List.getElem?_cons_zero, Option.getD_some]
        have := scanB_bd hc (j := k + 1) ih (k + 1) (0, 0) ⟨by simp, by simp; omega⟩
        omega
      · rw [List.getD_eq_getElem?_getD, List.getElem?_eq_none (by simp; omega)]
        simp; omega
/-- The first rows stay. -/
theorem pls_get {w : Int} {ws : List Int} {k m : Nat} (h : m ≤ k) : ∀ d, (pls w ws (k + d)).getD m (0, 0) = (pls w ws k).getD m (0, 0)
  | 0 => rfl
  | d + 1 => by
    rw [← pls_get h d, ← Nat.add_assoc, pls, List.getD_eq_getElem?_getD, List.getElem?_append_left (by simp; omega), ← List.getD_eq_getElem?_getD]
end Line

/- A longer word. -/
set_option linter.unusedVariables false
namespace Line
theorem set_getD {l : List Int} {i j : Nat} {x : Int} : (l.set i x).getD j 0 = if i = j ∧ j < l.length then x else l.getD j 0 := by
  rw [List.getD_eq_getElem?_getD, List.getElem?_set, List.getD_eq_getElem?_getD]
  by_cases h : i = j
  · subst h
    by_cases h2 : i < l.length <;> simp [h2]
  · simp [h]
theorem psum_set {ws : List Int} {word : Nat} {b : Int} (hw : word < ws.length) : ∀ k, k ≤ ws.length → psum (ws.set word (ws.getD word 0 + b)) k = psum ws k + if word < k then b else 0
  | 0, _ => by simp [psum]
  | k + 1, h => by
    rw [psum_succ (by simp; omega), psum_set hw k (by omega), psum_succ (by omega), set_getD]
    by_cases h1 : word < k
    · rw [if_pos h1, if_neg (by omega), if_pos (by omega)]; omega
    · by_cases h2 : word = k
      · subst h2
        rw [if_neg (by omega), if_pos (by omega), if_pos (by omega)]; omega
      · rw [if_neg h1, if_neg (by omega), if_neg (by omega)]; omega
theorem chk_set {w : Int} {ws : List Int} {word : Nat} {x : Int} (hc : chk w ws = 0) (hx : 1 ≤ x ∧ x ≤ w) : chk w (ws.set word x) = 0 := by
  obtain ⟨h1, h2, h3, h4, h5⟩ := chk_ok hc
  unfold chk
  rw [if_neg (by omega), if_neg (by simp; intro h; simp [h] at h3), if_neg (by simp; omega), if_pos]
  intro y hy
  rcases List.mem_or_eq_of_mem_set hy with hy | rfl
  · exact h5 y hy
  · exact hx
/-- The sums, as far as they are longer. -/
def sumsG (ws : List Int) (word : Nat) (b : Int) (i : Nat) : List Int := (List.range (ws.length + 1)).map fun k => psum ws k + if word < k ∧ k < i then b else 0
@[simp] theorem sumsG_length (ws : List Int) (word : Nat) (b : Int) (i : Nat) : (sumsG ws word b i).length = ws.length + 1 := by simp [sumsG]
theorem sumsG_get {ws : List Int} {word k i : Nat} {b : Int} (h : k ≤ ws.length) : (sumsG ws word b i)[k]? = some (psum ws k + if word < k ∧ k < i then b else 0) := by
  simp only [sumsG, List.getElem?_map]
  rw [List.getElem?_range (by omega)]
  rfl
theorem sumsG_zero {ws : List Int} {word : Nat} {b : Int} : sumsG ws word b (word + 1) = sumsN ws ws.length := by
  unfold sumsG sumsN
  refine List.map_congr_left fun k _ => ?_
  rw [if_neg (by omega)]; omega
theorem sumsG_succ {ws : List Int} {word i : Nat} {b : Int} (h : word < i) : (sumsG ws word b i).set i (psum ws i + b) = sumsG ws word b (i + 1) := by
  apply List.ext_getElem?
  intro k
  rw [List.getElem?_set]
  by_cases hk : k ≤ ws.length
  · rw [sumsG_get hk, sumsG_get hk]
    by_cases he : i = k
    · subst he
      rw [if_pos rfl, if_pos (by simp; omega), if_pos (by omega)]
    · rw [if_neg he]
      congr 2
      by_cases h2 : word < k ∧ k < i
      · rw [if_pos h2, if_pos (by omega)]
      · rw [if_neg h2, if_neg (by omega)]
  · rw [List.getElem?_eq_none (by simp; omega), List.getElem?_eq_none (by simp; omega)]
    split
    · split
      · rename_i h1 h2; simp at h2; omega
      · rfl
    · rfl
theorem sumsG_end {ws : List Int} {word : Nat} {b : Int} (hw : word < ws.length) : sumsG ws word b (ws.length + 1) = sumsN (ws.set word (ws.getD word 0 + b)) ws.length := by
  unfold sumsG sumsN
  refine List.map_congr_left fun k hk => ?_
  have := List.mem_range.1 hk
  rw [psum_set hw k (by omega)]
  congr 1
  by_cases h : word < k
  · rw [if_pos (by omega), if_pos h]
  · rw [if_neg (by omega), if_neg h]

/-- How lines run over. -/
def gr (w : Int) (ws : List Int) : Nat → List Nat → Nat → Nat → List Nat × Nat
  | 0, E, line, _ => (E, line)
  | f + 1, E, line, fr =>
    if endN w ws fr (E.getD line 0) = E.getD line 0 then (E, line) else
    if line + 1 = E.length then gr w ws f (E.set line (endN w ws fr (E.getD line 0)) ++ [ws.length]) (line + 1) (endN w ws fr (E.getD line 0)) else
    gr w ws f (E.set line (endN w ws fr (E.getD line 0))) (line + 1) (endN w ws fr (E.getD line 0))
/-- The line of a word. -/
def lineOf (E : List Nat) (word : Nat) : Nat := ((spansN E E.length).findIdx? fun p => decide (word < p.2)).getD 0
/-- The text with the longer word. -/
def wide (ws : List Int) (word : Nat) (b : Int) : List Int := ws.set word (ws.getD word 0 + b)
def growE (w : Int) (ws ends : List Int) (word : Nat) (b : Int) : List Nat × Nat :=
  gr w (wide ws word b) ws.length (toN ends) (lineOf (toN ends) word) (stN (toN ends) (lineOf (toN ends) word))
/-- Grow: ends, line, error. -/
def growO (w : Int) (ws ends : List Int) (word b : Int) : List Int × Int × Int :=
  if endedE w ws ends ≠ 0 then ([], 0, endedE w ws ends) else if word < 0 ∨ ws.length ≤ word then ([], 0, 2) else if b < 1 ∨ 40 < b then ([], 0, 1) else
  if w < ws.getD word.toNat 0 + b then ([], 0, 12) else (up (growE w ws ends word.toNat b).1, (growE w ws ends word.toNat b).2, 0)

theorem scan_sorted {n : Int} : ∀ {l : List Int} {last : Int}, 0 ≤ last → scan n last l = 0 → ∀ k, k + 1 < (toN l).length → (toN l).getD k 0 < (toN l).getD (k + 1) 0
  | [], _, _, _ => by intro k hk; simp [toN] at hk
  | [a], _, _, _ => by intro k hk; simp [toN] at hk
  | a :: c :: r, last, hl, h => by
    have h' := h
    rw [scan] at h
    split at h; · omega
    split at h; · omega
    have h2 := h
    rw [scan] at h
    split at h; · omega
    split at h; · omega
    intro k hk
    cases k with
    | zero => simp [toN]; omega
    | succ k =>
      have := scan_sorted (l := c :: r) (last := a) (by omega) h2 k (by simpa [toN] using hk)
      simpa [toN] using this
theorem scan_last {n : Int} : ∀ {l : List Int} {last : Int}, scan n last l = 0 → l ≠ [] → l.getD (l.length - 1) 0 = n
  | [], _, _, h => absurd rfl h
  | [a], last, h, _ => by
    rw [scan] at h
    split at h; · omega
    split at h; · omega
    rw [scan] at h
    split at h
    · omega
    · simp; omega
  | a :: c :: r, last, h, _ => by
    rw [scan] at h
    split at h; · omega
    split at h; · omega
    have := scan_last h (by simp)
    simpa using this
theorem scan_first {n : Int} {l : List Int} {last : Int} (hl : 0 ≤ last) (h : scan n last l = 0) (hne : l ≠ []) : last < l.getD 0 0 := by
  cases l with
  | nil => exact absurd rfl hne
  | cons a r =>
    rw [scan] at h
    split at h; · omega
    split at h; · omega
    simp; omega
end Line

namespace Go.Proofs.Ytlajhbpkogekfaa
open Go.Av
set_option linter.unusedVariables false
set_option linter.unusedSimpArgs false

theorem c25 (v w : AV) (l m : List Int) (H : Heap) (hv : Reads H v l) (hw : Reads H w m) (hl : l.length < 2 ^ 62) : ACalls Try.prog 25 [v, w] H fun r H' => r = .bool (decide (l = m)) ∧ H' = H := by
  apply W25_ok
  unfold W25
  simp only [letO_some, hv.len, hw.len, binF_neq, condA_bool, condG_bool]
  refine ⟨fun h => endK_ret ⟨?_, rfl⟩, fun h => ⟨trivial, fun L H' => ∃ i : Int, L = [.int .i64 i] ∧ H' = H ∧ 0 ≤ i ∧ i ≤ l.length ∧ l.take i.toNat = m.take i.toNat, fun L _ => (l.length - iv L 0).toNat, ⟨0, rfl, rfl, by omega, by omega, by simp⟩, ?_⟩⟩
  · simp at h
    have : l ≠ m := fun e => h (by rw [e])
    simp [this]
  · have h : l.length = m.length := by simp at h; omega
    rintro L H' ⟨i, rfl, rfl, h0, h1, h2⟩
    simp only [List.getD_cons_zero, binF_lss, letO_some]
    refine condA_t (fun hi => ⟨trivial, ?_⟩) fun hi => ?_
    · refine hv.get (Heap.le_refl _) h0 hi ?_
      refine hw.get (Heap.le_refl _) h0 (by omega) ?_
      simp only [binF_neq, binF_add, letO_some, condA_bool, condG_bool]
      refine ⟨fun h => endK_ret ⟨?_, rfl⟩, fun h => ⟨⟨i + 1, ?_, trivial, by omega, by omega, ?_⟩, ?_⟩⟩
      · have : l ≠ m := fun e => by subst e; simp at h
        simp [this]
      · rw [wrap_i64 (by omega) (by omega)]
      · have a1 : i.toNat < l.length := by omega
        have a2 : i.toNat < m.length := by omega
        rw [show (i + 1).toNat = i.toNat + 1 by omega, List.take_add_one, List.take_add_one, h2]
        simp [a1, a2] at h
        simp [a1, a2, h]
      · simp only [iv_zero]; rw [wrap_i64 (by omega) (by omega)]; omega
    · refine endK_ret ⟨?_, rfl⟩
      have : i.toNat = l.length := by omega
      rw [this, List.take_length, h, List.take_length] at h2
      simp [h2]
end Go.Proofs.Ytlajhbpkogekfaa

namespace Go.Proofs.Ytlajhbpkogekfaa
open Go.Av
set_option linter.unusedVariables false
set_option linter.unusedSimpArgs false
theorem b80 {x y : AV} (hx : cellsOf? x = some [x]) (hy : cellsOf? y = some [y]) : buildF Try.prog 80 [(0, x), (1, y)] = some (.agg [x, y]) := by
  rw [buildF_of (show buildPlan Try.prog 80 = some ([.int .i64 0, .nils], [(0, 1), (1, 1)]) by kernel_rfl)]
  simp [fillA, hx, hy, splice]
theorem b80n : buildF Try.prog 80 [] = some (.agg [.int .i64 0, .nils]) := by
  rw [buildF_of (show buildPlan Try.prog 80 = some ([.int .i64 0, .nils], [(0, 1), (1, 1)]) by kernel_rfl)]
  simp [fillA]
theorem l22 {x : AV} (hx : cellsOf? x = some [x]) : literalF Try.prog 22 1 [(0, x)] = some [x] := by
  rw [literalF_of (show literalPlan Try.prog 22 = some ([.int .i64 0], 1) by kernel_rfl) (by decide) (by simp)]
  simp [fillA, hx, splice, rowOf]

open Line in
theorem c62 {w : Int} {v : AV} {ws : List Int} {H : Heap} {K : AV → Heap → Prop} (hv : Reads H v ws) (hlen : ws.length < 2 ^ 62) (hf : chk w ws ≠ 0 → K (.tup [.agg [.int .i64 0, .nils], .int .i64 (chk w ws)]) H)
    (hk : chk w ws = 0 → ∀ v' H', Grow 1 H H' v' (ws.length + 1) (ints (sumsN ws ws.length)) → isOwn v' → K (.tup [.agg [.int .i64 w, v'], .int .i64 0]) H') : ACalls Try.prog 62 [.agg [.int .i64 w, v]] H K := by
  apply W62_ok
  unfold W62
  have hvc := hv.cells
  have hvs := hv.scalar
  simp only [letO_some, cellsOf?_agg, faddr_iptr, List.drop_zero, List.drop_succ_cons, load1_iptr, List.getElem?_cons_zero, binF_lss, binF_gtr, binF_eql, gval_bool, hv.len, b80n, l22 cellsOf?_int, b80 cellsOf?_int cellsOf?_imm]
  intro b2 hb2
  have fail : ∀ (e : Int) (H' : Heap), (H.put b2 [.int .i64 0, .nils]).le H' → chk w ws = e → e ≠ 0 → storeA 2 (.ptr b2 0) (.agg [.int .i64 0, .nils]) (fun H3 => letO (loadN 2 (.ptr b2 0) H3) fun r4 => endK (.tup [r4, .int .i64 e]) H3 K) H' := by
    intro e H' hle he he0
    have h2 : H' b2 = some _ := hle _ _ Heap.put_same
    refine storeA_of h2 cellsOf?_agg rfl rfl (by simp) ?_
    simp only [splice, loadN_ptr, Heap.put_same]
    subst he
    exact endK_drop (Heap.le_put (Heap.le_trans (Heap.le_put_self hb2) hle) hb2) (hf he0)
  have fail' : ∀ e : Int, chk w ws = e → e ≠ 0 → storeA 2 (.ptr b2 0) (.agg [.int .i64 0, .nils]) (fun H3 => letO (loadN 2 (.ptr b2 0) H3) fun r4 => endK (.tup [r4, .int .i64 e]) H3 K) (H.put b2 [.int .i64 0, .nils]) := fun e => fail e _ (Heap.le_refl _)
  by_cases h1 : w < 1
  · simp only [h1, decide_true, Bool.true_eq_false, if_false, letO_some, pickF_true, condA_bool, condG_bool, ne_eq, not_true, true_implies, false_implies, and_true]
    exact fail' 1 (by simp [chk, h1]) (by decide)
  by_cases h2 : 40 < w
  · simp only [h1, h2, decide_true, decide_false, if_true, letO_some, binF_gtr, pickF_false, condA_bool, condG_bool, ne_eq, not_true, true_implies, false_implies, and_true, load1_iptr, List.getElem?_cons_zero]
    exact fail' 1 (by simp [chk, h2]) (by decide)
  simp only [h1, h2, decide_true, decide_false, if_true, letO_some, binF_gtr, pickF_false, condA_bool, condG_bool, ne_eq, not_true, true_implies, false_implies, true_and, Bool.false_eq_true, not_false_eq_true, load1_iptr, List.getElem?_cons_zero]
  refine ⟨fun h3 => fail' 4 (by simp at h3; simp [chk, h1, h2, h3]) (by decide), fun h3 => ⟨fun h4 => fail' 3 (by simp at h3 h4; simp [chk, h1, h2, h3, show 10 < ws.length by omega]) (by decide), fun h4 => ?_⟩⟩
  intro b4 hb4
  have hne : b2 ≠ b4 := Heap.ne_of Heap.put_same hb4
  have hb4' : H b4 = none := by rwa [Heap.put_ne (Ne.symm hne)] at hb4
  refine storeA_of Heap.put_same cellsOf?_agg rfl rfl (by simp) ?_
  simp only [Heap.put_put, splice, List.take_zero, List.nil_append]
  have h3' : 1 ≤ ws.length := by simp at h3; cases ws <;> simp at h3 ⊢
  have h4' : ws.length ≤ 10 := by simp at h4; omega
  let z : List AV := [.int .i64 0, .nils]
  refine ⟨fun L H' => ∃ (i : Nat) (X : AV), L = [.int .i64 i] ∧ i ≤ ws.length ∧ (∀ x ∈ ws.take i, 1 ≤ x ∧ x ≤ w) ∧ Grow 1 ((H.put b2 z).put b4 [.int .i64 w, X]) H' X (i + 1) (ints (sumsN ws i)) ∧ (0 < i → isOwn X), fun L _ => (ws.length - iv L 0).toNat,
    ⟨0, .imm 1 true [.int .i64 0], rfl, by omega, by simp, by simpa [sumsN, ints, psum] using Grow.imm (H := (H.put b2 z).put b4 [.int .i64 w, .imm 1 true [.int .i64 0]]) (n := 1) (sz := 1) (cells := [.int .i64 0]) rfl, fun h => absurd h (by omega)⟩, ?_⟩
  rintro L H' ⟨i, X, rfl, hi, hall, hg, hr0⟩
  have hlt : (H.put b2 z).le H' := fun x c e => hg.le x c (by rw [Heap.put_ne (by rintro rfl; rw [hb4] at e; cases e)]; exact e)
  have hle : H.le H' := Heap.le_trans (Heap.le_put_self hb2) hlt
  have hH4 : H' b4 = some [.int .i64 w, X] := hg.le _ _ Heap.put_same
  simp only [List.getD_cons_zero, binF_lss, letO_some]
  refine condA_t (fun hlt' => ?_) (fun hge => ?_)
  · have hil : i < ws.length := by omega
    refine hv.get hle (by omega) hlt' ?_
    simp only [Int.toNat_natCast, binF_lss, letO_some]
    have hget : ws.getD i 0 ∈ ws := by
      rw [List.getD_eq_getElem?_getD]; simp [hil]
    generalize hx : ws.getD i 0 = x at *
    have bad : ¬ (1 ≤ x ∧ x ≤ w) → chk w ws = 1 := by
      intro hx'
      unfold chk
      rw [if_neg (by omega), if_neg (by omega), if_neg (by omega), if_neg]
      exact fun ha => hx' (ha x hget)
    by_cases hx1 : x < 1
    · simp only [hx1, decide_true, gval_bool, Bool.true_eq_false, if_false, letO_some, pickF_true, condA_bool, condG_bool, true_implies, ne_eq, not_true, false_implies, and_true]
      exact fail 1 _ hlt (bad (by omega)) (by decide)
    by_cases hx2 : w < x
    · simp only [hx1, hx2, decide_true, decide_false, gval_bool, if_true, letO_some, load1_iptr, List.getElem?_cons_zero, binF_gtr, pickF_false, condA_bool, condG_bool, true_implies, ne_eq, not_true, false_implies, and_true]
      exact fail 1 _ hlt (bad (by omega)) (by decide)
    simp only [hx1, hx2, decide_true, decide_false, gval_bool, if_true, letO_some, load1_iptr, List.getElem?_cons_zero, binF_gtr, pickF_false, condA_bool, condG_bool, true_implies, ne_eq, false_implies, true_and, Bool.false_eq_true, not_false_eq_true, faddr_ptr, load1_ptr, hH4, Option.bind_some, Nat.zero_add, List.getElem?_cons_succ]
    refine hg.reads.get (Heap.le_refl _) (by omega) (by simp; omega) ?_
    simp only [Int.toNat_natCast, sumsN_get (Nat.le_refl i), binF_add, letO_some]
    have hps := psum_le (ws := ws) (k := i) fun x hx => by have := hall x hx; omega
    have hps2 := psum_succ hil
    rw [hx] at hps2
    rw [wrap_i64 (n := psum ws i + x) (by omega) (by omega), wrap_i64 (n := psum ws i + x + 1) (by omega) (by omega), ← hps2, l22 cellsOf?_int, letO_some, wrap_i64 (n := (i : Int) + 1) (by omega) (by omega)]
    refine appendA_oneR hg (by omega) fun v' H'' hg' hr' => ?_
    have hH4' : H'' b4 = some [.int .i64 w, X] := hg'.le _ _ Heap.put_same
    refine storeA_of hH4' hg'.cells (by simp [hg'.scalar]) rfl (by simp) ⟨⟨i + 1, v', by simp, by omega, ?_, ?_, fun _ => hr'⟩, ?_⟩
    · intro y hy
      rw [List.take_add_one] at hy
      rcases List.mem_append.1 hy with hy | hy
      · exact hall y hy
      · have : ws[i]? = some x := by rw [← hx, List.getD_eq_getElem?_getD]; simp [hil]
        simp [this] at hy
        subst hy
        omega
    · rw [sumsN_succ]
      simpa [splice] using hg'.put (y := [.int .i64 w, v']) Heap.put_same
    · simp; omega
  · have hil : i = ws.length := by omega
    subst hil
    rw [List.take_length] at hall
    have hok : chk w ws = 0 := by
      unfold chk
      rw [if_neg (by omega), if_neg (by omega), if_neg (by omega), if_pos hall]
    simp only [loadN_ptr, hH4, Option.bind_some, List.drop_zero, List.length_cons, List.length_nil, Nat.le_refl, if_true, letO_some]
    refine storeA_of (cs := [.int .i64 w, X]) (hlt _ _ Heap.put_same) rfl (by simp only [List.all_cons, hg.scalar]; rfl) rfl (by simp [z]) ?_
    simp only [splice, loadN_ptr, Heap.put_same, Option.bind_some, z, List.take_zero, List.nil_append, List.drop_zero, List.length_append, List.length_cons, List.length_nil]
    have hg2 := hg.put (c := b2) (x := z) (y := [.int .i64 w, X]) (by rw [Heap.put_ne hne]; exact Heap.put_same)
    obtain ⟨H2, hl2, hg3⟩ := hg2.shrink (H := H) (Heap.le_put (Heap.le_put (Heap.le_put_self hb2) hb4') hb2)
    exact endK_drop (r := .tup [.agg [.int .i64 w, X], .int .i64 0]) hl2 (hk hok _ _ hg3 (hr0 (by omega)))
end Go.Proofs.Ytlajhbpkogekfaa

namespace Go.Proofs.Ytlajhbpkogekfaa
open Go.Av Line
set_option linter.unusedVariables false
set_option linter.unusedSimpArgs false

def sp (i j : Nat) : AV := .agg [.int .i64 i, .int .i64 j]
def spC (p : Nat × Nat) : List AV := [.int .i64 p.1, .int .i64 p.2]
theorem spC_len (p : Nat × Nat) : (spC p).length = 2 := rfl

/-- .n() -/
theorem c64 {w : Int} {s : AV} {S : List Int} {H : Heap} {K : AV → Heap → Prop} (hs : Reads H s S) (hl : S.length < 2 ^ 60) (hk : K (.int .i64 (S.length - 1)) H) : ACalls Try.prog 64 [.agg [.int .i64 w, s]] H K := by
  apply W64_ok
  unfold W64
  simp only [letO_some, cellsOf?_agg, faddr_iptr, List.drop_succ_cons, List.drop_zero, load1_iptr, List.getElem?_cons_zero, hs.len, binF_sub]
  rw [wrap_i64 (by omega) (by omega)]
  exact endK_ret hk

/-- .left(s) -/
theorem c81 {w : Int} {s : AV} {S : List Int} {i j : Nat} {H : Heap} {K : AV → Heap → Prop} (hs : Reads H s S) (hw : 0 ≤ w ∧ w ≤ 1000) (hb : Bnd S) (hi : i < S.length) (hj : j < S.length) (hk : K (.int .i64 (leftS w S i j)) H) :
    ACalls Try.prog 81 [.agg [.int .i64 w, s], sp i j] H K := by
  apply W81_ok
  unfold W81 sp
  simp only [letO_some, cellsOf?_agg, faddr_iptr, List.drop_succ_cons, List.drop_zero, load1_iptr, List.getElem?_cons_zero, true_and, binF_add, idxArr]
  simp only [show ((0 : Int) ≤ 1 ∧ (1 : Int) < (2 : Nat)) = True by simp, show ((0 : Int) ≤ 0 ∧ (0 : Int) < (2 : Nat)) = True by simp, if_true, letO_some, load1_iptr]
  refine hs.get (Heap.le_refl _) (by omega) (by omega) ?_
  refine hs.get (Heap.le_refl _) (by omega) (by omega) ?_
  have h1 := hb i
  have h2 := hb j
  simp only [Int.toNat_natCast, binF_sub, letO_some]
  rw [wrap_i64 (n := w + 1) (by omega) (by omega), wrap_i64 (n := S.getD j 0 - S.getD i 0) (by omega) (by omega), wrap_i64 (by omega) (by omega)]
  exact endK_ret hk

/-- .square(s) -/
theorem c87 {w : Int} {s : AV} {S : List Int} {i j : Nat} {H : Heap} {K : AV → Heap → Prop} (hs : Reads H s S) (hw : 0 ≤ w ∧ w ≤ 1000) (hb : Bnd S) (hi : i < S.length) (hj : j < S.length) (hk : K (.int .i64 (leftS w S i j * leftS w S i j)) H) :
    ACalls Try.prog 87 [.agg [.int .i64 w, s], sp i j] H K := by
  apply W87_ok
  unfold W87
  simp only [letO_some, cellsOf?_agg, sp, loadN_iptr, List.length_cons, List.length_nil, Nat.le_refl, if_true, List.take_succ_cons, List.take_zero, true_and]
  refine ⟨_, c81 hs hw hb hi hj ⟨rfl, rfl⟩, c81 hs hw hb hi hj ?_⟩
  simp only [binF_mul, letO_some]
  have h3 := leftS_bnd hb hw i j
  have h4 := sq_le 200000 h3
  have h5 := sq_nn (leftS w S i j)
  rw [wrap_i64 (by omega) (by omega)]
  exact endK_ret hk

/-- the closure of 'ended' -/
theorem c93 {w : Int} {s : AV} {S : List Int} {i j b : Nat} {H : Heap} {K : AV → Heap → Prop} (hH : H b = some [.int .i64 w, s]) (hs : Reads H s S) (hw : 0 ≤ w ∧ w ≤ 1000) (hb : Bnd S) (hi : i < S.length) (hj : j < S.length) (hk : K (.bool (decide (leftS w S i j < 0))) H) :
    ACalls Try.prog 93 [sp i j, .ptr b 0] H K := by
  apply W93_ok
  unfold W93
  simp only [letO_some, cellsOf?_agg, sp, loadN_iptr, loadN_ptr, hH, Option.bind_some, List.drop_zero, List.length_cons, List.length_nil, Nat.le_refl, if_true, List.take_succ_cons, List.take_zero, true_and]
  refine c81 hs hw hb hi hj ?_
  simp only [binF_lss, letO_some]
  exact endK_ret hk

/-- Check -/
theorem c50 {w : Int} {v : AV} {ws : List Int} {H : Heap} {K : AV → Heap → Prop} (hv : Reads H v ws) (hlen : ws.length < 2 ^ 62) (hk : K (.int .i64 (chk w ws)) H) : ACalls Try.prog 50 [.agg [.int .i64 w, v]] H K := by
  apply W50_ok
  unfold W50
  simp only [letO_some, cellsOf?_agg, loadN_iptr, List.length_cons, List.length_nil, Nat.le_refl, if_true, List.take_succ_cons, List.take_zero]
  refine c62 hv hlen (fun h => ?_) fun h v' H' hg _ => ?_
  · simp only [extrF_tup, List.getElem?_cons_zero, List.getElem?_cons_succ, letO_some]
    intro b hb
    refine storeA_of Heap.put_same cellsOf?_agg rfl rfl (by simp) ?_
    exact endK_drop (Heap.le_put (Heap.le_put_self hb) hb) hk
  · simp only [extrF_tup, List.getElem?_cons_zero, List.getElem?_cons_succ, letO_some]
    intro b hb
    refine storeA_of (cs := [.int .i64 w, v']) Heap.put_same cellsOf?_agg (by simp only [List.all_cons, hg.scalar]; rfl) rfl (by simp) ?_
    have hb' : H b = none := by
      cases hx : H b with
      | none => rfl
      | some c => rw [hg.le _ _ hx] at hb; cases hb
    rw [h] at hk
    exact endK_drop (Heap.le_put (Heap.le_put hg.le hb') hb') hk
end Go.Proofs.Ytlajhbpkogekfaa

namespace Go.Proofs.Ytlajhbpkogekfaa
open Go.Av Line
set_option linter.unusedVariables false
set_option linter.unusedSimpArgs false

theorem b104 {x y : AV} (hx : cellsOf? x = some [x]) (hy : cellsOf? y = some [y]) : buildF Try.prog 104 [(0, x), (1, y)] = some (.agg [x, y]) := by
  rw [arrayF_of (show arrayPlan Try.prog 104 = some ([.int .i64 0, .int .i64 0], 1) by kernel_rfl)]
  simp [fillA, hx, hy, splice]
theorem l99 {x y : AV} : literalF Try.prog 99 1 [(0, .agg [x, y])] = some [x, y] := by
  rw [literalF_of (show literalPlan Try.prog 99 = some ([.int .i64 0, .int .i64 0], 2) by kernel_rfl) (by decide) (by simp)]
  simp [fillA, splice, rowOf]

/-- spans -/
theorem c91 {v : AV} {E : List Nat} {H : Heap} {K : AV → Heap → Prop} (hv : Reads H v (up E)) (hl : E.length < 1000) (hk : K (.imm E.length false ((spansN E E.length).flatMap spC)) H) : ACalls Try.prog 91 [v] H K := by
  apply W91_ok
  unfold W91
  simp only [letO_some, hv.len, up_length]
  refine ⟨trivial, fun L H' => ∃ (i : Nat) (X : AV), L = [X, .int .i64 (stN E i), .int .i64 i] ∧ i ≤ E.length ∧ Grow 2 H H' X i ((spansN E i).flatMap spC), fun L _ => (E.length - iv L 2).toNat,
    ⟨0, .nils, rfl, by omega, Grow.nils 2 H⟩, ?_⟩
  rintro L H' ⟨i, X, rfl, hi, hg⟩
  simp only [List.getD_cons_zero, List.getD_cons_succ, binF_lss, letO_some]
  refine condA_t (fun hlt => ?_) (fun hge => ?_)
  · refine hv.get hg.le (by omega) (by simpa using hlt) ?_
    simp only [Int.toNat_natCast, up_getD, letO_some, b104 cellsOf?_int cellsOf?_int, l99]
    refine appendA_grow hg (m := 1) (new := spC (spanN E i)) (by simp [srcOf, spC, spanN]) rfl rfl (by omega) (by omega) fun v' H'' hg' => ?_
    simp only [binF_add, letO_some]
    rw [wrap_i64 (by omega) (by omega)]
    refine ⟨⟨i + 1, v', by simp [stN], by omega, ?_⟩, by simp; omega⟩
    rw [spansN_succ]
    simpa using hg'
  · have : i = E.length := by omega
    subst this
    exact hg.end1 hk

/-- slices.IndexFunc of spans -/
theorem c74 {v : AV} {l : List (Nat × Nat)} {p : Nat × Nat → Bool} {fid : FuncId} {caps : List AV} {H : Heap} {K : AV → Heap → Prop} (hv : ReadsC 2 H v l.length (l.flatMap spC)) (hl : l.length < 1000)
    (hf : ∀ x ∈ l, ∀ K, K (.bool (p x)) H → ACalls Try.prog fid ([sp x.1 x.2] ++ caps) H K) (hk : K (.int .i64 (match l.findIdx? p with | some i => (i : Int) | none => -1)) H) : ACalls Try.prog 74 [v, .fn fid caps] H K := by
  apply W74_ok
  unfold W74
  simp only [letO_some, hv.len]
  refine ⟨trivial, fun L H' => ∃ (i : Nat), L = [.int .i64 i] ∧ H' = H ∧ i ≤ l.length ∧ ∀ j x, j < i → l[j]? = some x → p x = false, fun L _ => (l.length - iv L 0).toNat, ⟨0, rfl, rfl, by omega, fun j x h => by omega⟩, ?_⟩
  rintro L H' ⟨i, rfl, rfl, hi, hall⟩
  simp only [List.getD_cons_zero, binF_lss, letO_some]
  refine condA_t (fun hlt => ?_) (fun hge => ?_)
  · have hil : i < l.length := by omega
    have hx : l[i]? = some l[i] := by simp [hil]
    refine hv.getN (Heap.le_refl _) (by omega) hlt ?_
    rw [Int.toNat_natCast, rows_get spC_len hx]
    refine hf l[i] (by simp) _ ⟨fun hp => ?_, fun hp => ?_⟩
    · refine endK_ret ?_
      have : l.findIdx? p = some i := by
        rw [List.findIdx?_eq_some_iff_getElem]
        refine ⟨hil, hp, fun j hj => ?_⟩
        have := hall j (l[j]'(by omega)) hj (by simp)
        simpa using this
      rw [this] at hk
      exact hk
    · simp only [binF_add, letO_some]
      rw [wrap_i64 (by omega) (by omega)]
      refine ⟨⟨i + 1, by simp, trivial, by omega, fun j x hj hx' => ?_⟩, by simp; omega⟩
      by_cases hji : j = i
      · subst hji
        rw [hx] at hx'
        cases hx'
        simpa using hp
      · exact hall j x (by omega) hx'
  · have : i = l.length := by omega
    subst this
    refine endK_ret ?_
    have : l.findIdx? p = none := by
      rw [List.findIdx?_eq_none_iff]
      intro x hx
      obtain ⟨j, hj, rfl⟩ := List.mem_iff_getElem.1 hx
      exact hall j _ hj (by simp [hj])
    rw [this] at hk
    exact hk

/-- slices.ContainsFunc of spans -/
theorem c92 {v : AV} {l : List (Nat × Nat)} {p : Nat × Nat → Bool} {fid : FuncId} {caps : List AV} {H : Heap} {K : AV → Heap → Prop} (hv : ReadsC 2 H v l.length (l.flatMap spC)) (hl : l.length < 1000)
    (hf : ∀ x ∈ l, ∀ K, K (.bool (p x)) H → ACalls Try.prog fid ([sp x.1 x.2] ++ caps) H K) (hk : K (.bool (l.any p)) H) : ACalls Try.prog 92 [v, .fn fid caps] H K := by
  apply W92_ok
  unfold W92
  simp only [letO_some]
  refine c74 hv hl hf ?_
  simp only [binF_geq, letO_some]
  refine endK_ret ?_
  have : decide (0 ≤ (match l.findIdx? p with | some i => (i : Int) | none => -1)) = l.any p := by
    cases h : l.findIdx? p with
    | none =>
      rw [List.findIdx?_eq_none_iff] at h
      have : l.any p = false := by simpa using h
      simp [this]
    | some i =>
      rw [List.findIdx?_eq_some_iff_getElem] at h
      obtain ⟨h1, h2, _⟩ := h
      have : l.any p = true := List.any_eq_true.2 ⟨l[i], by simp, h2⟩
      simp [this]
  rw [this]
  exact hk
end Go.Proofs.Ytlajhbpkogekfaa

namespace Go.Proofs.Ytlajhbpkogekfaa
open Go.Av Line
set_option linter.unusedVariables false
set_option linter.unusedSimpArgs false

/-- ended -/
theorem c72 {w : Int} {v u : AV} {ws ends : List Int} {H : Heap} {K : AV → Heap → Prop} (hv : Reads H v ws) (hu : Reads H u ends) (hlen : ws.length < 2 ^ 60) (hlen2 : ends.length < 2 ^ 60)
    (hf : endedE w ws ends ≠ 0 → ∀ a s, isScalar s = true → K (.tup [.agg [.int .i64 a, s], .nils, .int .i64 (endedE w ws ends)]) H)
    (hk : endedE w ws ends = 0 → ∀ s H', Grow 1 H H' s (ws.length + 1) (ints (sumsN ws ws.length)) → isOwn s → K (.tup [.agg [.int .i64 w, s], .imm ends.length false ((spansN (toN ends) ends.length).flatMap spC), .int .i64 0]) H') :
    ACalls Try.prog 72 [.agg [.int .i64 w, v], u] H K := by
  apply W72_ok
  unfold W72
  simp only [letO_some, cellsOf?_agg, loadN_iptr, List.length_cons, List.length_nil, Nat.le_refl, if_true, List.take_succ_cons, List.take_zero]
  intro b4 hb4
  have hle2 : H.le (H.put b4 [.int .i64 0, .nils]) := Heap.le_put_self hb4
  -- how an error is told
  have fail : ∀ (e a : Int) (s : AV) (H' : Heap), isScalar s = true → (H.put b4 [.int .i64 0, .nils]).le H' → endedE w ws ends = e → e ≠ 0 →
      storeA 2 (.ptr b4 0) (.agg [.int .i64 a, s]) (fun H6 => letO (loadN 2 (.ptr b4 0) H6) fun r7 => endK (.tup [r7, .nils, .int .i64 e]) H6 K) H' := by
    intro e a s H' hs hle he he0
    refine storeA_of (cs := [.int .i64 a, s]) (hle _ _ Heap.put_same) rfl (by simp only [List.all_cons, hs]; rfl) rfl (by simp) ?_
    simp only [splice, loadN_ptr, Heap.put_same, Option.bind_some, List.take_zero, List.nil_append, List.drop_zero, List.length_append, List.length_cons, List.length_nil]
    subst he
    exact endK_drop (r := .tup [.agg [.int .i64 a, s], .nils, .int .i64 (endedE w ws ends)]) (Heap.le_put (Heap.le_trans hle2 hle) hb4) (hf he0 a s hs)
  refine c62 (hv.le hle2) (by omega) (fun h => ?_) fun h s H3 hg hr3 => ?_
  · simp only [extrF_tup, List.getElem?_cons_zero, List.getElem?_cons_succ, letO_some]
    intro b7 hb7
    refine storeA_of (cs := [.int .i64 0, .nils]) Heap.put_same rfl rfl rfl (by simp) ?_
    simp only [Heap.put_put, splice, List.take_zero, List.nil_append, binF_neq, letO_some, condA_bool, condG_bool]
    refine ⟨fun _ => ?_, fun hh => by simp [h] at hh⟩
    have hL : loadN 2 (.ptr b7 0) ((H.put b4 [.int .i64 0, .nils]).put b7 [.int .i64 0, .nils]) = some (.agg [.int .i64 0, .nils]) := loadN_at Heap.put_same
    simp only [hL, letO_some, List.length_cons, List.length_nil, List.drop_succ_cons, List.drop_zero, List.append_nil, List.drop_nil]
    exact fail (chk w ws) _ _ _ rfl (Heap.le_put (Heap.le_refl _) hb7) (by simp [endedE, h]) h
  obtain ⟨w1, w2, n1, n2, hws⟩ := chk_ok h
  have hbnd := bnd_sums h
  simp only [extrF_tup, List.getElem?_cons_zero, List.getElem?_cons_succ, letO_some]
  intro b7 hb7
  have hb7' : H b7 = none := by
    cases hx : H b7 with
    | none => rfl
    | some c => rw [hg.le _ _ (hle2 _ _ hx)] at hb7; cases hb7
  have hne : b4 ≠ b7 := Heap.ne_of (hg.le _ _ Heap.put_same) hb7
  refine storeA_of (cs := [.int .i64 w, s]) Heap.put_same rfl (by simp only [List.all_cons, hg.scalar]; rfl) rfl (by simp) ?_
  simp only [Heap.put_put, splice, List.take_zero, List.nil_append, binF_neq, letO_some, condA_bool, condG_bool, List.length_cons, List.length_nil, List.drop_succ_cons, List.drop_zero, List.append_nil, List.drop_nil]
  refine ⟨fun hh => by simp at hh, fun _ => ?_⟩
  generalize hH5 : H3.put b7 [.int .i64 w, s] = H5
  have hle35 : H3.le H5 := by subst hH5; exact Heap.le_put_self hb7
  have hle25 : (H.put b4 [.int .i64 0, .nils]).le H5 := Heap.le_trans hg.le hle35
  have hH7 : H5 b7 = some [.int .i64 w, s] := by subst hH5; exact Heap.put_same
  have hL : loadN 2 (.ptr b7 0) H5 = some (.agg [.int .i64 w, s]) := loadN_at hH7
  have hS : Reads H5 s (sumsN ws ws.length) := hg.reads.le hle35
  have hu5 : Reads H5 u ends := hu.le (Heap.le_trans hle2 hle25)
  simp only [hu.len, letO_some]
  refine ⟨trivial, fun L H' => ∃ (i : Nat) (last : Int), L = [.int .i64 last, .int .i64 i] ∧ H' = H5 ∧ i ≤ ends.length ∧ scan ws.length 0 ends = scan ws.length last (ends.drop i), fun L _ => (ends.length - iv L 1).toNat,
    ⟨0, 0, rfl, rfl, by omega, rfl⟩, ?_⟩
  rintro L H' ⟨i, last, rfl, rfl, hi, hsc⟩
  simp only [List.getD_cons_zero, List.getD_cons_succ, binF_lss, letO_some]
  refine condA_t (fun hlt => ?_) (fun hge => ?_)
  · have hil : i < ends.length := by omega
    refine hu5.get (Heap.le_refl _) (by omega) hlt ?_
    have hd : ends.drop i = ends.getD i 0 :: ends.drop (i + 1) := by
      rw [List.drop_eq_getElem_cons hil, List.getD_eq_getElem?_getD]; simp [hil]
    rw [hd] at hsc
    simp only [Int.toNat_natCast]
    generalize ends.getD i 0 = e at hsc
    simp only [binF_lss, letO_some, hL]
    by_cases h1 : e < 1
    · have : endedE w ws ends = 2 := by
        have : scan ws.length 0 ends = 2 := by rw [hsc]; simp [scan, h1]
        simp [endedE, h, this]
      simp only [h1, decide_true, gval_bool, Bool.true_eq_false, if_false, letO_some, pickF_true, condA_bool, condG_bool]
      refine ⟨fun r h' => r = .tup [] ∧ h' = H', ⟨fun hh => by simp at hh, fun _ => ⟨rfl, rfl⟩⟩, ?_⟩
      rintro t34 H14 ⟨rfl, rfl⟩
      exact ⟨fun _ => by rw [hL]; simp only [letO_some]; exact fail 2 _ _ _ hg.scalar hle25 this (by decide), fun hh => by simp at hh⟩
    simp only [h1, decide_false, gval_bool, if_true, letO_some, condA_bool, condG_bool]
    refine ⟨fun r h' => r = .int .i64 ws.length ∧ h' = H', ⟨fun _ => c64 hS (by simp; omega) ⟨by simp, rfl⟩, fun hh => by simp at hh⟩, ?_⟩
    rintro t34 H14 ⟨rfl, rfl⟩
    simp only [binF_gtr, letO_some, pickF_false, condA_bool, condG_bool]
    refine ⟨fun hh => ?_, fun hh => ?_⟩
    · have h2 : (ws.length : Int) < e := by simpa using hh
      have : endedE w ws ends = 2 := by
        have : scan ws.length 0 ends = 2 := by rw [hsc]; simp [scan, h2]
        simp [endedE, h, this]
      simp only [hL, letO_some]
      exact fail 2 _ _ _ hg.scalar hle25 this (by decide)
    have h2 : ¬ (ws.length : Int) < e := by simpa using hh
    simp only [binF_leq, letO_some, condA_bool, condG_bool]
    refine ⟨fun hh => ?_, fun hh => ?_⟩
    · have h3 : e ≤ last := by simpa using hh
      have : endedE w ws ends = 7 := by
        have : scan ws.length 0 ends = 7 := by rw [hsc]; simp [scan, h1, h2, h3]
        simp [endedE, h, this]
      simp only [hL, letO_some]
      exact fail 7 _ _ _ hg.scalar hle25 this (by decide)
    have h3 : ¬ e ≤ last := by simpa using hh
    simp only [binF_add, letO_some]
    rw [wrap_i64 (by omega) (by omega)]
    refine ⟨⟨i + 1, e, by simp, trivial, by omega, ?_⟩, by simp; omega⟩
    rw [hsc]
    conv => lhs; unfold scan
    rw [if_neg (by omega), if_neg h3]
  · have hil : i = ends.length := by omega
    subst hil
    rw [List.drop_length] at hsc
    simp only [hL, letO_some]
    refine c64 hS (by simp; omega) ?_
    simp only [binF_neq, letO_some, condA_bool, condG_bool, sumsN_length]
    refine ⟨fun hh => ?_, fun hh => ?_⟩
    · have h2 : ¬ last = ws.length := by simpa using hh
      have : endedE w ws ends = 5 := by
        have : scan ws.length 0 ends = 5 := by rw [hsc]; simp [scan, h2]
        simp [endedE, h, this]
      simp only [hL, letO_some]
      exact fail 5 _ _ _ hg.scalar hle25 this (by decide)
    have h2 : last = ws.length := by simpa using hh
    have hsc0 : scan ws.length 0 ends = 0 := by rw [hsc]; simp [scan, h2]
    have hr := scan_range hsc0
    have hup : up (toN ends) = ends := up_toN fun e he => (hr e he).1
    have hE : (toN ends).length = ends.length := by simp [toN]
    have hl10 := scan_len hsc0
    have hEr : ∀ e ∈ toN ends, e ≤ ws.length := by
      intro e he
      obtain ⟨x, hx, rfl⟩ := List.mem_map.1 he
      have := hr x hx
      omega
    refine c91 (E := toN ends) (by rw [hup]; exact hu5) (by omega) ?_
    have hspan : ∀ q ∈ spansN (toN ends) (toN ends).length, q.1 < ws.length + 1 ∧ q.2 < ws.length + 1 := by
      intro q hq
      obtain ⟨k, _, rfl⟩ := List.mem_map.1 hq
      have := stN_le hEr k
      simp only [spanN]
      omega
    have hC : ReadsC 2 H' (.imm (toN ends).length false ((spansN (toN ends) (toN ends).length).flatMap spC)) (spansN (toN ends) (toN ends).length).length ((spansN (toN ends) (toN ends).length).flatMap spC) := by
      rw [spansN_length]
      exact ReadsC.imm (by rw [rows_len spC_len, spansN_length])
    refine c92 (p := fun q => decide (lf w ws q.1 q.2 < 0)) hC (by rw [spansN_length]; omega) (fun q hq K hK => ?_) ?_
    · have := hspan q hq
      exact c93 hH7 hS ⟨by omega, by omega⟩ hbnd (by simpa using this.1) (by simpa using this.2) hK
    simp only [condA_bool, condG_bool]
    refine ⟨fun hh => ?_, fun hh => ?_⟩
    · have : endedE w ws ends = 15 := by simp [endedE, h, hsc0, over, hh]
      simp only [hL, letO_some]
      exact fail 15 _ _ _ hg.scalar hle25 this (by decide)
    · have hov : over w ws (toN ends) = false := by unfold over; simpa using hh
      have : endedE w ws ends = 0 := by simp [endedE, h, hsc0, hov]
      simp only [hL, letO_some]
      refine storeA_of (cs := [.int .i64 w, s]) (hle25 _ _ Heap.put_same) rfl (by simp only [List.all_cons, hg.scalar]; rfl) rfl (by simp) ?_
      simp only [splice, List.take_zero, List.nil_append, List.length_cons, List.length_nil, List.drop_succ_cons, List.drop_zero, List.append_nil, List.drop_nil]
      rw [show loadN 2 (.ptr b4 0) (Heap.put H' b4 [.int .i64 w, s]) = some (.agg [.int .i64 w, s]) from loadN_at Heap.put_same]
      simp only [letO_some]
      have hg1 := hg.put (c := b4) (y := [.int .i64 w, s]) Heap.put_same
      obtain ⟨H2, hl2, hg2⟩ := hg1.shrink (H := H) (by rw [Heap.put_put]; exact Heap.le_put_self hb4)
      have hH2b4 : H2.le (Heap.put H' b4 [.int .i64 w, s]) := Heap.le_trans hl2 (Heap.put_mono hle35)
      rw [hE]
      exact endK_drop hH2b4 (hk this s H2 hg2 hr3)
end Go.Proofs.Ytlajhbpkogekfaa

namespace Go.Proofs.Ytlajhbpkogekfaa
open Go.Av Line
set_option linter.unusedVariables false
set_option linter.unusedSimpArgs false

theorem ended_ok {w : Int} {ws ends : List Int} (h : endedE w ws ends = 0) : chk w ws = 0 ∧ scan ws.length 0 ends = 0 ∧ over w ws (toN ends) = false := by
  unfold endedE at h
  by_cases h1 : chk w ws = 0 <;> simp only [h1, ne_eq, not_true, not_false_eq_true, if_true, if_false] at h
  · by_cases h2 : scan ws.length 0 ends = 0 <;> simp only [h2, ne_eq, not_true, not_false_eq_true, if_true, if_false] at h
    · refine ⟨h1, h2, ?_⟩
      cases h3 : over w ws (toN ends) <;> simp [h3] at h ⊢
@[simp] theorem toN_len (l : List Int) : (toN l).length = l.length := by simp [toN]
theorem ended_le {w : Int} {ws ends : List Int} (h : endedE w ws ends = 0) : ∀ e ∈ toN ends, e ≤ ws.length := by
  obtain ⟨h1, h2, h3⟩ := ended_ok h
  intro e he
  obtain ⟨x, hx, rfl⟩ := List.mem_map.1 he
  have := scan_range h2 x hx
  omega
theorem ended_short {w : Int} {ws ends : List Int} (h : endedE w ws ends = 0) : ends.length ≤ 10 ∧ 1 ≤ ends.length := by
  obtain ⟨h1, h2, h3⟩ := ended_ok h
  have := scan_len h2
  have h4 := chk_ok h1
  refine ⟨by omega, ?_⟩
  cases ends with
  | nil => simp [scan] at h2; omega
  | cons a l => simp
theorem spans_reads {H : Heap} (E : List Nat) : ReadsC 2 H (.imm E.length false ((spansN E E.length).flatMap spC)) (spansN E E.length).length ((spansN E E.length).flatMap spC) := by
  rw [spansN_length]
  exact ReadsC.imm (by rw [rows_len spC_len, spansN_length])

/-- Fits -/
theorem c42 {w : Int} {v u : AV} {ws ends : List Int} {H : Heap} {K : AV → Heap → Prop} (hv : Reads H v ws) (hu : Reads H u ends) (hlen : ws.length < 2 ^ 60) (hlen2 : ends.length < 2 ^ 60) (hk : K (.int .i64 (endedE w ws ends)) H) :
    ACalls Try.prog 42 [.agg [.int .i64 w, v], u] H K := by
  apply W42_ok
  unfold W42
  simp only [letO_some, cellsOf?_agg, cellsOf?_int, cellsOf?_bool, cellsOf?_imm, cellsOf?_ref, cellsOf?_nils, faddr_iptr, faddr_ptr, List.drop_succ_cons, List.drop_zero, List.take_succ_cons, List.take_zero, load1_iptr, loadN_iptr, List.length_cons, List.length_nil, Nat.le_refl, if_true, List.getElem?_cons_zero, List.getElem?_cons_succ, List.getD_cons_zero, List.getD_cons_succ, extrF_tup, binF_add, binF_sub, binF_mul, binF_eql, binF_neq, binF_lss, binF_leq, binF_gtr, binF_geq, true_and]
  refine c72 hv hu hlen hlen2 (fun h a s hs => ?_) fun h s H' hg _ => ?_
  · simp only [letO_some, cellsOf?_agg, cellsOf?_int, cellsOf?_bool, cellsOf?_imm, cellsOf?_ref, cellsOf?_nils, faddr_iptr, faddr_ptr, List.drop_succ_cons, List.drop_zero, List.take_succ_cons, List.take_zero, load1_iptr, loadN_iptr, List.length_cons, List.length_nil, Nat.le_refl, if_true, List.getElem?_cons_zero, List.getElem?_cons_succ, List.getD_cons_zero, List.getD_cons_succ, extrF_tup, binF_add, binF_sub, binF_mul, binF_eql, binF_neq, binF_lss, binF_leq, binF_gtr, binF_geq, true_and]
    refine alloc_store (cs := [.int .i64 a, s]) rfl (by simp only [List.all_cons, hs]; rfl) rfl rfl fun b hb => ?_
    exact endK_drop (Heap.le_put_self hb) hk
  · simp only [letO_some, cellsOf?_agg, cellsOf?_int, cellsOf?_bool, cellsOf?_imm, cellsOf?_ref, cellsOf?_nils, faddr_iptr, faddr_ptr, List.drop_succ_cons, List.drop_zero, List.take_succ_cons, List.take_zero, load1_iptr, loadN_iptr, List.length_cons, List.length_nil, Nat.le_refl, if_true, List.getElem?_cons_zero, List.getElem?_cons_succ, List.getD_cons_zero, List.getD_cons_succ, extrF_tup, binF_add, binF_sub, binF_mul, binF_eql, binF_neq, binF_lss, binF_leq, binF_gtr, binF_geq, true_and]
    refine alloc_store (cs := [.int .i64 w, s]) rfl (by simp only [List.all_cons, hg.scalar]; rfl) rfl rfl fun b hb => ?_
    rw [h] at hk
    exact endK_drop (Heap.le_put hg.le (fresh_of hg.le hb)) hk

/-- Left, with a result of one's own -/
theorem c44 {w : Int} {v u : AV} {ws ends : List Int} {H : Heap} {K : AV → Heap → Prop} (hv : Reads H v ws) (hu : Reads H u ends) (hlen : ws.length < 2 ^ 60) (hlen2 : ends.length < 2 ^ 60)
    (hf : endedE w ws ends ≠ 0 → K (.tup [.nils, .int .i64 (endedE w ws ends)]) H)
    (hk : endedE w ws ends = 0 → ∀ v' H', Grow 1 H H' v' ends.length (ints (leftL w ws (toN ends) ends.length)) → isOwn v' → K (.tup [v', .int .i64 0]) H') :
    ACalls Try.prog 44 [.agg [.int .i64 w, v], u] H K := by
  apply W44_ok
  unfold W44
  simp only [letO_some, cellsOf?_agg, cellsOf?_int, cellsOf?_bool, cellsOf?_imm, cellsOf?_ref, cellsOf?_nils, faddr_iptr, faddr_ptr, List.drop_succ_cons, List.drop_zero, List.take_succ_cons, List.take_zero, load1_iptr, loadN_iptr, List.length_cons, List.length_nil, Nat.le_refl, if_true, List.getElem?_cons_zero, List.getElem?_cons_succ, List.getD_cons_zero, List.getD_cons_succ, extrF_tup, binF_add, binF_sub, binF_mul, binF_eql, binF_neq, binF_lss, binF_leq, binF_gtr, binF_geq, true_and]
  refine c72 hv hu hlen hlen2 (fun h a s hs => ?_) fun h s H' hg _ => ?_
  · simp only [letO_some, cellsOf?_agg, cellsOf?_int, cellsOf?_bool, cellsOf?_imm, cellsOf?_ref, cellsOf?_nils, faddr_iptr, faddr_ptr, List.drop_succ_cons, List.drop_zero, List.take_succ_cons, List.take_zero, load1_iptr, loadN_iptr, List.length_cons, List.length_nil, Nat.le_refl, if_true, List.getElem?_cons_zero, List.getElem?_cons_succ, List.getD_cons_zero, List.getD_cons_succ, extrF_tup, binF_add, binF_sub, binF_mul, binF_eql, binF_neq, binF_lss, binF_leq, binF_gtr, binF_geq, true_and]
    refine alloc_store (cs := [.int .i64 a, s]) rfl (by simp only [List.all_cons, hs]; rfl) rfl rfl fun b hb => ?_
    simp only [condA_bool, condG_bool]
    exact ⟨fun _ => endK_drop (Heap.le_put_self hb) (hf h), fun hh => by simp [h] at hh⟩
  · simp only [letO_some, cellsOf?_agg, cellsOf?_int, cellsOf?_bool, cellsOf?_imm, cellsOf?_ref, cellsOf?_nils, faddr_iptr, faddr_ptr, List.drop_succ_cons, List.drop_zero, List.take_succ_cons, List.take_zero, load1_iptr, loadN_iptr, List.length_cons, List.length_nil, Nat.le_refl, if_true, List.getElem?_cons_zero, List.getElem?_cons_succ, List.getD_cons_zero, List.getD_cons_succ, extrF_tup, binF_add, binF_sub, binF_mul, binF_eql, binF_neq, binF_lss, binF_leq, binF_gtr, binF_geq, true_and]
    obtain ⟨h1, h2, h3⟩ := ended_ok h
    obtain ⟨w1, w2, n1, n2, hws⟩ := chk_ok h1
    have hbnd := bnd_sums h1
    have hsh := ended_short h
    refine alloc_store (cs := [.int .i64 w, s]) rfl (by simp only [List.all_cons, hg.scalar]; rfl) rfl rfl fun b hb => ?_
    simp only [condA_bool, condG_bool]
    refine ⟨fun hh => by simp at hh, fun _ => ?_⟩
    simp only [letO_some, cellsOf?_agg, cellsOf?_int, cellsOf?_bool, cellsOf?_imm, cellsOf?_ref, cellsOf?_nils, faddr_iptr, faddr_ptr, List.drop_succ_cons, List.drop_zero, List.take_succ_cons, List.take_zero, load1_iptr, loadN_iptr, List.length_cons, List.length_nil, Nat.le_refl, if_true, List.getElem?_cons_zero, List.getElem?_cons_succ, List.getD_cons_zero, List.getD_cons_succ, extrF_tup, binF_add, binF_sub, binF_mul, binF_eql, binF_neq, binF_lss, binF_leq, binF_gtr, binF_geq, true_and, lenA]
    generalize hH4 : Heap.put H' b [.int .i64 w, s] = H4
    have hle4 : H'.le H4 := by subst hH4; exact Heap.le_put_self hb
    have hb4 : H4 b = some [.int .i64 w, s] := by subst hH4; exact Heap.put_same
    refine ⟨fun L H5 => ∃ (i : Nat) (X : AV) (H4' : Heap), L = [X, .int .i64 i] ∧ i ≤ ends.length ∧ H4.le H4' ∧ Grow 1 H4' H5 X i (ints (leftL w ws (toN ends) i)) ∧ (0 < i → isOwn X), fun L _ => (ends.length - iv L 1).toNat,
      ⟨0, .nils, H4, rfl, by omega, Heap.le_refl _, Grow.nils 1 H4, fun h => absurd h (by omega)⟩, ?_⟩
    rintro L H5 ⟨i, X, H4', rfl, hi, hle', hgx, hrx⟩
    simp only [letO_some, cellsOf?_agg, cellsOf?_int, cellsOf?_bool, cellsOf?_imm, cellsOf?_ref, cellsOf?_nils, faddr_iptr, faddr_ptr, List.drop_succ_cons, List.drop_zero, List.take_succ_cons, List.take_zero, load1_iptr, loadN_iptr, List.length_cons, List.length_nil, Nat.le_refl, if_true, List.getElem?_cons_zero, List.getElem?_cons_succ, List.getD_cons_zero, List.getD_cons_succ, extrF_tup, binF_add, binF_sub, binF_mul, binF_eql, binF_neq, binF_lss, binF_leq, binF_gtr, binF_geq, true_and]
    refine condA_t (fun hlt => ?_) (fun hge => ?_)
    · have hil : i < ends.length := by omega
      have hsp := spansN_get (E := toN ends) (n := ends.length) hil
      have hR := spans_reads (H := H5) (toN ends)
      rw [toN_len] at hR
      refine hR.getN (Heap.le_refl _) (by omega) (by simpa using hlt) ?_
      rw [Int.toNat_natCast, rows_get spC_len hsp]
      refine alloc_store (cs := spC (spanN (toN ends) i)) rfl rfl rfl rfl fun b2 hb2 => ?_
      have hle5 : H4'.le H5 := hgx.le
      have hle45 : H4.le H5 := Heap.le_trans hle' hle5
      have hL1 : loadN 2 (.ptr b 0) (H5.put b2 (spC (spanN (toN ends) i))) = some (.agg [.int .i64 w, s]) := loadN_at (Heap.le_put_self hb2 _ _ (hle45 _ _ hb4))
      have hL2 : loadN 2 (.ptr b2 0) (H5.put b2 (spC (spanN (toN ends) i))) = some (sp (stN (toN ends) i) ((toN ends).getD i 0)) := loadN_at Heap.put_same
      simp only [hL1, hL2, letO_some]
      have hle := stN_le (ended_le h) i
      have hle6 : H'.le (H5.put b2 (spC (spanN (toN ends) i))) := Heap.le_trans hle4 (Heap.le_trans hle45 (Heap.le_put_self hb2))
      refine c81 (hg.reads.le hle6) ⟨by omega, by omega⟩ hbnd (by rw [sumsN_length]; omega) (by rw [sumsN_length]; omega) ?_
      simp only [l22 cellsOf?_int, letO_some]
      have hb2' := fresh_of hle5 hb2
      have hgx2 : Grow 1 (H4'.put b2 (spC (spanN (toN ends) i))) (H5.put b2 (spC (spanN (toN ends) i))) X i (ints (leftL w ws (toN ends) i)) := by
        refine ⟨hgx.1, ?_⟩
        rcases hgx.2 with ⟨e, e2, rfl⟩ | ⟨e, rfl⟩ | ⟨b3, hb3, e, rfl⟩
        · exact .inl ⟨e, e2, rfl⟩
        · exact .inr (.inl ⟨e, rfl⟩)
        · have hne : b3 ≠ b2 := Heap.ne_of (Heap.put_same) hb2
          exact .inr (.inr ⟨b3, by rw [Heap.put_ne hne]; exact hb3, e, Heap.put_comm hne⟩)
      refine appendA_oneR hgx2 (by omega) fun v' H7 hg7 hr7 => ?_
      rw [wrap_i64 (by omega) (by omega)]
      refine ⟨⟨i + 1, v', _, rfl, by omega, Heap.le_trans hle' (Heap.le_put_self (cs := spC (spanN (toN ends) i)) hb2'), ?_, fun _ => hr7⟩, by simp; omega⟩
      rw [leftL_succ]
      exact hg7
    · have hil : i = ends.length := by omega
      subst hil
      have hb' := fresh_of hg.le hb
      obtain ⟨H2, hl2, hg2⟩ := hgx.shrink (H := H) (Heap.le_trans hg.le (Heap.le_trans hle4 hle'))
      exact endK_drop (r := .tup [X, .int .i64 0]) hl2 (hk h _ _ hg2 (hrx (by omega)))
end Go.Proofs.Ytlajhbpkogekfaa

namespace Go.Proofs.Ytlajhbpkogekfaa
open Go.Av Line
set_option linter.unusedVariables false
set_option linter.unusedSimpArgs false

theorem eq104 {a b c d : Int} : binF Try.prog .neq 104 (.agg [.int .i64 a, .int .i64 b]) (.agg [.int .i64 c, .int .i64 d]) = some (.bool (!(a == c && b == d))) := by
  have h1 : Try.prog.underlying 104 = some (.array 2 3) := by kernel_rfl
  have h2 : Try.prog.underlying 3 = some (.int .i64) := by kernel_rfl
  have h3 : (Try.prog.info? 3).map (·.size) = some 1 := by kernel_rfl
  have h4 : Try.prog.eqGuardType Try.prog.depth 104 = false := by kernel_rfl
  obtain ⟨inf, h5, h6⟩ := Option.map_eq_some_iff.1 h3
  simp [binF, eqF, h1, h2, h5, h6, h4, eqInts]

theorem costS_bnd {w : Int} {ws : List Int} (hc : chk w ws = 0) (last : Nat × Nat) (l : List (Nat × Nat)) : 0 ≤ costS w ws last l ∧ costS w ws last l ≤ 40000000000 * l.length := by
  induction l with
  | nil => simp [costS]
  | cons a l ih =>
    have := sqf_bnd hc a.1 a.2
    simp only [costS, List.map_cons, List.sum_cons, List.length_cons] at ih ⊢
    split <;> omega
theorem costS_succ {w : Int} {ws : List Int} {last : Nat × Nat} {l : List (Nat × Nat)} {i : Nat} {x : Nat × Nat} (h : l[i]? = some x) : costS w ws last (l.take (i + 1)) = costS w ws last (l.take i) + if x = last then 0 else sqf w ws x.1 x.2 := by
  rw [List.take_add_one, h]
  simp [costS]

/-- .n(), .left(s), .square(s), by a text -/
theorem m64 {w : Int} {s : AV} {ws : List Int} {H : Heap} {K : AV → Heap → Prop} (hs : Reads H s (sumsN ws ws.length)) (hc : chk w ws = 0) (hk : K (.int .i64 ws.length) H) : ACalls Try.prog 64 [.agg [.int .i64 w, s]] H K := by
  have := chk_ok hc
  refine c64 hs (by rw [sumsN_length]; omega) ?_
  simpa using hk
theorem m81 {w : Int} {s : AV} {ws : List Int} {i j : Nat} {H : Heap} {K : AV → Heap → Prop} (hs : Reads H s (sumsN ws ws.length)) (hc : chk w ws = 0) (hi : i ≤ ws.length) (hj : j ≤ ws.length) (hk : K (.int .i64 (lf w ws i j)) H) :
    ACalls Try.prog 81 [.agg [.int .i64 w, s], .agg [.int .i64 i, .int .i64 j]] H K := by
  obtain ⟨w1, w2, _⟩ := chk_ok hc
  exact c81 hs ⟨by omega, by omega⟩ (bnd_sums hc) (by rw [sumsN_length]; omega) (by rw [sumsN_length]; omega) hk
theorem m87 {w : Int} {s : AV} {ws : List Int} {i j : Nat} {H : Heap} {K : AV → Heap → Prop} (hs : Reads H s (sumsN ws ws.length)) (hc : chk w ws = 0) (hi : i ≤ ws.length) (hj : j ≤ ws.length) (hk : K (.int .i64 (sqf w ws i j)) H) :
    ACalls Try.prog 87 [.agg [.int .i64 w, s], .agg [.int .i64 i, .int .i64 j]] H K := by
  obtain ⟨w1, w2, _⟩ := chk_ok hc
  exact c87 hs ⟨by omega, by omega⟩ (bnd_sums hc) (by rw [sumsN_length]; omega) (by rw [sumsN_length]; omega) hk

/-- cost -/
theorem c73 {w : Int} {s : AV} {ws : List Int} {l : List (Nat × Nat)} {last : Nat × Nat} {H : Heap} {K : AV → Heap → Prop} (hs : Reads H s (sumsN ws ws.length)) (hc : chk w ws = 0) (hl : l.length < 1000) (hlast : l[l.length - 1]? = some last)
    (hr : ∀ q ∈ l, q.1 ≤ ws.length ∧ q.2 ≤ ws.length) (hk : K (.int .i64 (costS w ws last l)) H) : ACalls Try.prog 73 [.agg [.int .i64 w, s], .imm l.length false (l.flatMap spC)] H K := by
  apply W73_ok
  unfold W73
  have hn : l.length ≠ 0 := by intro h; rw [List.length_eq_zero_iff] at h; subst h; simp at hlast
  have hR : ∀ H', ReadsC 2 H' (.imm l.length false (l.flatMap spC)) l.length (l.flatMap spC) := fun H' => ReadsC.imm (rows_len spC_len l)
  simp only [letO_some, cellsOf?_agg, cellsOf?_int, cellsOf?_bool, cellsOf?_imm, cellsOf?_ref, cellsOf?_nils, faddr_iptr, faddr_ptr, List.drop_succ_cons, List.drop_zero, List.take_succ_cons, List.take_zero, load1_iptr, loadN_iptr, List.length_cons, List.length_nil, Nat.le_refl, if_true, List.getElem?_cons_zero, List.getElem?_cons_succ, List.getD_cons_zero, List.getD_cons_succ, extrF_tup, binF_add, binF_sub, binF_mul, binF_eql, binF_neq, binF_lss, binF_leq, binF_gtr, binF_geq, true_and, lenA]
  rw [wrap_i64 (by omega) (by omega)]
  refine (hR H).getN (Heap.le_refl _) (by omega) (by omega) ?_
  rw [show ((l.length : Int) - 1).toNat = l.length - 1 by omega, rows_get spC_len hlast]
  refine alloc_store (cs := spC last) rfl rfl rfl rfl fun b hb => ?_
  refine ⟨fun L H' => ∃ (i : Nat), L = [.int .i64 (costS w ws last (l.take i)), .int .i64 i] ∧ i ≤ l.length ∧ H.le H' ∧ H' b = some (spC last), fun L _ => (l.length - iv L 1).toNat,
    ⟨0, rfl, by omega, Heap.le_put_self hb, Heap.put_same⟩, ?_⟩
  rintro L H' ⟨i, rfl, hi, hle, hH⟩
  simp only [letO_some, cellsOf?_agg, cellsOf?_int, cellsOf?_bool, cellsOf?_imm, cellsOf?_ref, cellsOf?_nils, faddr_iptr, faddr_ptr, List.drop_succ_cons, List.drop_zero, List.take_succ_cons, List.take_zero, load1_iptr, loadN_iptr, List.length_cons, List.length_nil, Nat.le_refl, if_true, List.getElem?_cons_zero, List.getElem?_cons_succ, List.getD_cons_zero, List.getD_cons_succ, extrF_tup, binF_add, binF_sub, binF_mul, binF_eql, binF_neq, binF_lss, binF_leq, binF_gtr, binF_geq, true_and]
  refine condA_t (fun hlt => ?_) (fun hge => ?_)
  · have hil : i < l.length := by omega
    have hx : l[i]? = some l[i] := by simp [hil]
    have hlr := hr l[i] (by simp)
    have hb1 := costS_bnd hc last (l.take i)
    have hb2 := sqf_bnd hc l[i].1 l[i].2
    have htl : (l.take i).length ≤ 1000 := by simp; omega
    refine ⟨fun L H'' => L = [.int .i64 (costS w ws last (l.take (i + 1)))] ∧ H.le H'' ∧ H'' b = some (spC last), ?_, ?_⟩
    · refine (hR H').getN (Heap.le_refl _) (by omega) (by omega) ?_
      rw [Int.toNat_natCast, rows_get spC_len hx]
      refine alloc_store (cs := spC l[i]) rfl rfl rfl rfl fun b8 hb8 => ?_
      have hle8 := Heap.le_put_self (cs := spC l[i]) hb8
      have hL1 : loadN 2 (.ptr b8 0) (H'.put b8 (spC l[i])) = some (.agg [.int .i64 l[i].1, .int .i64 l[i].2]) := loadN_at Heap.put_same
      have hL2 : loadN 2 (.ptr b 0) (H'.put b8 (spC l[i])) = some (.agg [.int .i64 last.1, .int .i64 last.2]) := loadN_at (hle8 _ _ hH)
      simp only [hL1, hL2, letO_some, eq104, condA_bool, condG_bool]
      rw [costS_succ hx]
      by_cases he : l[i] = last
      · rw [if_pos he]
        refine ⟨fun hh => by rw [he] at hh; simp at hh, fun _ => ⟨by simp, Heap.le_trans hle hle8, hle8 _ _ hH⟩⟩
      · rw [if_neg he]
        refine ⟨fun _ => ?_, fun hh => ?_⟩
        · refine m87 (hs.le (Heap.le_trans hle hle8)) hc hlr.1 hlr.2 ?_
          simp only [letO_some, cellsOf?_agg, cellsOf?_int, cellsOf?_bool, cellsOf?_imm, cellsOf?_ref, cellsOf?_nils, faddr_iptr, faddr_ptr, List.drop_succ_cons, List.drop_zero, List.take_succ_cons, List.take_zero, load1_iptr, loadN_iptr, List.length_cons, List.length_nil, Nat.le_refl, if_true, List.getElem?_cons_zero, List.getElem?_cons_succ, List.getD_cons_zero, List.getD_cons_succ, extrF_tup, binF_add, binF_sub, binF_mul, binF_eql, binF_neq, binF_lss, binF_leq, binF_gtr, binF_geq, true_and]
          rw [wrap_i64 (by omega) (by omega)]
          exact ⟨rfl, Heap.le_trans hle hle8, hle8 _ _ hH⟩
        · exfalso
          apply he
          have : l[i].1 = last.1 ∧ l[i].2 = last.2 := by simp at hh; omega
          exact Prod.ext this.1 this.2
    · rintro L H'' ⟨rfl, hle2, hH2⟩
      simp only [letO_some, cellsOf?_agg, cellsOf?_int, cellsOf?_bool, cellsOf?_imm, cellsOf?_ref, cellsOf?_nils, faddr_iptr, faddr_ptr, List.drop_succ_cons, List.drop_zero, List.take_succ_cons, List.take_zero, load1_iptr, loadN_iptr, List.length_cons, List.length_nil, Nat.le_refl, if_true, List.getElem?_cons_zero, List.getElem?_cons_succ, List.getD_cons_zero, List.getD_cons_succ, extrF_tup, binF_add, binF_sub, binF_mul, binF_eql, binF_neq, binF_lss, binF_leq, binF_gtr, binF_geq, true_and]
      rw [wrap_i64 (by omega) (by omega)]
      exact ⟨⟨i + 1, by simp, by omega, hle2, hH2⟩, by simp; omega⟩
  · have : i = l.length := by omega
    subst this
    rw [List.take_length]
    exact endK_drop hle hk

/-- The cost of ends. -/
def costE (w : Int) (ws ends : List Int) : Int := costS w ws (spanN (toN ends) (ends.length - 1)) (spansN (toN ends) ends.length)
def costO (w : Int) (ws ends : List Int) : Int := if endedE w ws ends = 0 then costE w ws ends else 0
/-- cost, of ends that are in order -/
theorem m73 {w : Int} {s : AV} {ws ends : List Int} {H : Heap} {K : AV → Heap → Prop} (hs : Reads H s (sumsN ws ws.length)) (h : endedE w ws ends = 0)
    (hk : K (.int .i64 (costE w ws ends)) H) : ACalls Try.prog 73 [.agg [.int .i64 w, s], .imm ends.length false ((spansN (toN ends) ends.length).flatMap spC)] H K := by
  obtain ⟨h1, h2, h3⟩ := ended_ok h
  have hsh := ended_short h
  have := c73 (l := spansN (toN ends) ends.length) (last := spanN (toN ends) (ends.length - 1)) hs h1 (by rw [spansN_length]; omega) (by rw [spansN_length]; exact spansN_get (by omega)) (fun q hq => ?_) hk
  · simpa only [spansN_length] using this
  · obtain ⟨k, _, rfl⟩ := List.mem_map.1 hq
    exact stN_le (ended_le h) k

/-- Cost -/
theorem c45 {w : Int} {v u : AV} {ws ends : List Int} {H : Heap} {K : AV → Heap → Prop} (hv : Reads H v ws) (hu : Reads H u ends) (hlen : ws.length < 2 ^ 60) (hlen2 : ends.length < 2 ^ 60)
    (hk : K (.tup [.int .i64 (costO w ws ends), .int .i64 (endedE w ws ends)]) H) : ACalls Try.prog 45 [.agg [.int .i64 w, v], u] H K := by
  apply W45_ok
  unfold W45
  simp only [letO_some, cellsOf?_agg, cellsOf?_int, cellsOf?_bool, cellsOf?_imm, cellsOf?_ref, cellsOf?_nils, faddr_iptr, faddr_ptr, List.drop_succ_cons, List.drop_zero, List.take_succ_cons, List.take_zero, load1_iptr, loadN_iptr, List.length_cons, List.length_nil, Nat.le_refl, if_true, List.getElem?_cons_zero, List.getElem?_cons_succ, List.getD_cons_zero, List.getD_cons_succ, extrF_tup, binF_add, binF_sub, binF_mul, binF_eql, binF_neq, binF_lss, binF_leq, binF_gtr, binF_geq, true_and]
  refine c72 hv hu hlen hlen2 (fun h a s hs => ?_) fun h s H' hg _ => ?_
  · simp only [letO_some, cellsOf?_agg, cellsOf?_int, cellsOf?_bool, cellsOf?_imm, cellsOf?_ref, cellsOf?_nils, faddr_iptr, faddr_ptr, List.drop_succ_cons, List.drop_zero, List.take_succ_cons, List.take_zero, load1_iptr, loadN_iptr, List.length_cons, List.length_nil, Nat.le_refl, if_true, List.getElem?_cons_zero, List.getElem?_cons_succ, List.getD_cons_zero, List.getD_cons_succ, extrF_tup, binF_add, binF_sub, binF_mul, binF_eql, binF_neq, binF_lss, binF_leq, binF_gtr, binF_geq, true_and]
    refine alloc_store (cs := [.int .i64 a, s]) rfl (by simp only [List.all_cons, hs]; rfl) rfl rfl fun b hb => ?_
    simp only [condA_bool, condG_bool]
    rw [costO, if_neg h] at hk
    exact ⟨fun _ => endK_drop (Heap.le_put_self hb) hk, fun hh => by simp [h] at hh⟩
  · simp only [letO_some, cellsOf?_agg, cellsOf?_int, cellsOf?_bool, cellsOf?_imm, cellsOf?_ref, cellsOf?_nils, faddr_iptr, faddr_ptr, List.drop_succ_cons, List.drop_zero, List.take_succ_cons, List.take_zero, load1_iptr, loadN_iptr, List.length_cons, List.length_nil, Nat.le_refl, if_true, List.getElem?_cons_zero, List.getElem?_cons_succ, List.getD_cons_zero, List.getD_cons_succ, extrF_tup, binF_add, binF_sub, binF_mul, binF_eql, binF_neq, binF_lss, binF_leq, binF_gtr, binF_geq, true_and]
    refine alloc_store (cs := [.int .i64 w, s]) rfl (by simp only [List.all_cons, hg.scalar]; rfl) rfl rfl fun b hb => ?_
    simp only [condA_bool, condG_bool]
    refine ⟨fun hh => by simp at hh, fun _ => ?_⟩
    have hle4 : H'.le (H'.put b [.int .i64 w, s]) := Heap.le_put_self hb
    rw [show loadN 2 (.ptr b 0) (H'.put b [.int .i64 w, s]) = some (.agg [.int .i64 w, s]) from loadN_at Heap.put_same]
    simp only [letO_some]
    refine m73 (hg.reads.le hle4) h ?_
    rw [costO, if_pos h, h] at hk
    exact endK_drop (Heap.le_put hg.le (fresh_of hg.le hb)) hk
end Go.Proofs.Ytlajhbpkogekfaa

namespace Go.Proofs.Ytlajhbpkogekfaa
open Go.Av Line
set_option linter.unusedVariables false
set_option linter.unusedSimpArgs false

def bC (b : Best) : List AV := [.int .i64 b.1, .int .i64 b.2.1, .int .i64 b.2.2]
theorem bC_len (b : Best) : (bC b).length = 3 := rfl
theorem b87 {x y z : AV} (hx : cellsOf? x = some [x]) (hy : cellsOf? y = some [y]) (hz : cellsOf? z = some [z]) : buildF Try.prog 87 [(0, x), (1, y), (2, z)] = some (.agg [x, y, z]) := by
  rw [buildF_of (show buildPlan Try.prog 87 = some ([.int .i64 0, .int .i64 0, .int .i64 0], [(0, 1), (1, 1), (2, 1)]) by kernel_rfl)]
  simp [fillA, hx, hy, hz, splice]

/-- The table of rests, when 'k' places are done. -/
def rT (w : Int) (ws : List Int) (k : Nat) : List Best := List.replicate (ws.length - k) (0, 0, 0) ++ rst w ws ws.length k
theorem rT_length {w : Int} {ws : List Int} {k : Nat} (h : k ≤ ws.length) : (rT w ws k).length = ws.length := by simp [rT]; omega
theorem rT_get {w : Int} {ws : List Int} {k j : Nat} (h : ws.length - k ≤ j) : (rT w ws k)[j]? = (rst w ws ws.length k)[j - (ws.length - k)]? := by
  rw [rT, List.getElem?_append_right (by simpa using h), List.length_replicate]
theorem rT_set {w : Int} {ws : List Int} {k : Nat} (h : k < ws.length) (b : Best) : (rT w ws k).set (ws.length - (k + 1)) b = List.replicate (ws.length - (k + 1)) (0, 0, 0) ++ b :: rst w ws ws.length k := by
  unfold rT
  rw [show ws.length - k = (ws.length - (k + 1)) + 1 by omega, List.replicate_succ', List.append_assoc, List.set_append_right _ _ (by simp)]
  simp
theorem rT_at {w : Int} {ws : List Int} {k : Nat} (h : k < ws.length) : (rT w ws k).set (ws.length - (k + 1)) (0, 0, 0) = rT w ws k := by
  rw [rT_set h, rT]
  rw [show ws.length - k = (ws.length - (k + 1)) + 1 by omega, List.replicate_succ']
  simp

/-- rests -/
theorem c63 {w : Int} {s : AV} {ws : List Int} {H : Heap} {K : AV → Heap → Prop} (hs : Reads H s (sumsN ws ws.length)) (hc : chk w ws = 0)
    (hk : K (.imm ws.length false ((rst w ws ws.length ws.length).flatMap bC)) H) : ACalls Try.prog 63 [.agg [.int .i64 w, s]] H K := by
  apply W63_ok
  unfold W63
  obtain ⟨w1, w2, n1, n2, hws⟩ := chk_ok hc
  simp only [letO_some, cellsOf?_agg, cellsOf?_int, cellsOf?_bool, cellsOf?_imm, cellsOf?_ref, cellsOf?_nils, faddr_iptr, faddr_ptr, List.drop_succ_cons, List.drop_zero, List.take_succ_cons, List.take_zero, load1_iptr, loadN_iptr, List.length_cons, List.length_nil, Nat.le_refl, if_true, List.getElem?_cons_zero, List.getElem?_cons_succ, List.getD_cons_zero, List.getD_cons_succ, extrF_tup, binF_add, binF_sub, binF_mul, binF_eql, binF_neq, binF_lss, binF_leq, binF_gtr, binF_geq, true_and]
  refine m64 hs hc ?_
  simp only [letO_some, cellsOf?_agg, cellsOf?_int, cellsOf?_bool, cellsOf?_imm, cellsOf?_ref, cellsOf?_nils, faddr_iptr, faddr_ptr, List.drop_succ_cons, List.drop_zero, List.take_succ_cons, List.take_zero, load1_iptr, loadN_iptr, List.length_cons, List.length_nil, Nat.le_refl, if_true, List.getElem?_cons_zero, List.getElem?_cons_succ, List.getD_cons_zero, List.getD_cons_succ, extrF_tup, binF_add, binF_sub, binF_mul, binF_eql, binF_neq, binF_lss, binF_leq, binF_gtr, binF_geq, true_and, makeA]
  refine ⟨by omega, by omega, by omega, by omega, ?_⟩
  intro b hb
  rw [Int.toNat_natCast]
  have hrow : rowOf [.int .i64 0, .int .i64 0, .int .i64 0] (ws.length * 3) = (rT w ws 0).flatMap bC := by
    show rowOf (bC (0, 0, 0)) (ws.length * 3) = _
    rw [rowOf_eq (f := bC) (sz := 3) rfl]
    simp [rT, rst]
  rw [hrow, wrap_i64 (by omega) (by omega)]
  generalize hn : ws.length = n at *
  have hS : ∀ {H' : Heap}, H.le H' → Reads H' s (sumsN ws ws.length) := fun h => by rw [hn]; exact hs.le h
  refine ⟨fun L H' => ∃ (k : Nat), L = [.int .i64 ((n : Int) - k - 1)] ∧ k ≤ n ∧ H.le H' ∧ H' b = some ((rT w ws k).flatMap bC), fun L _ => (iv L 0 + 1).toNat,
    ⟨0, by simp, by omega, Heap.le_put_self hb, Heap.put_same⟩, ?_⟩
  rintro L H' ⟨k, rfl, hkn, hle, hH⟩
  simp only [letO_some, cellsOf?_agg, cellsOf?_int, cellsOf?_bool, cellsOf?_imm, cellsOf?_ref, cellsOf?_nils, faddr_iptr, faddr_ptr, List.drop_succ_cons, List.drop_zero, List.take_succ_cons, List.take_zero, load1_iptr, loadN_iptr, List.length_cons, List.length_nil, Nat.le_refl, if_true, List.getElem?_cons_zero, List.getElem?_cons_succ, List.getD_cons_zero, List.getD_cons_succ, extrF_tup, binF_add, binF_sub, binF_mul, binF_eql, binF_neq, binF_lss, binF_leq, binF_gtr, binF_geq, true_and]
  refine condA_t (fun hge => ?_) (fun hlt => ?_)
  · have hk1 : k < n := by omega
    have hi : (n : Int) - k - 1 = ((n - (k + 1) : Nat) : Int) := by omega
    rw [hi]
    generalize hid : n - (k + 1) = i at *
    have hin : i < n := by omega
    -- what the other places hold
    let R : Nat → Best := fun j => (rst w ws n k).getD (j - (n - k)) (0, 0, 0)
    have hbd := rst_bd (n := n) hc k (by omega)
    have hp : 1 ≤ 11 ^ k := Nat.one_le_pow _ _ (by decide)
    have hp2 : 11 ^ k ≤ 11 ^ 10 := Nat.pow_le_pow_right (by decide) (by omega)
    have hRb : ∀ j, 0 ≤ (R j).1 ∧ (R j).1 ≤ 40000000000 * k ∧ (R j).2.2 ≤ 11 ^ k := by
      intro j
      simp only [R]
      rw [List.getD_eq_getElem?_getD]
      cases hx : (rst w ws n k)[j - (n - k)]? with
      | none => simp; omega
      | some b => exact hbd b (List.mem_of_getElem? hx)
    have hlen : (rT w ws k).length = n := by rw [rT_length (by omega), hn]
    have hgetj : ∀ j acc, i < j → j < n → ((rT w ws k).set i acc)[j]? = some (R j) := by
      intro j acc h1 h2
      rw [List.getElem?_set_ne (by omega), rT_get (by rw [hn]; omega), hn]
      simp only [R]
      rw [List.getD_eq_getElem?_getD, List.getElem?_eq_getElem (by rw [rst_length]; omega)]
      rfl
    have hgeti : ∀ acc, ((rT w ws k).set i acc)[i]? = some acc := by
      intro acc
      rw [List.getElem?_set_self (by omega)]
    have hleni : ∀ acc, ((rT w ws k).set i acc).length = n := by intro acc; simp [hlen]
    refine ⟨fun L H'' => ∃ (m : Nat) (acc : Best), L = [.int .i64 ((i + m : Nat) : Int)] ∧ i + m ≤ n ∧ H.le H'' ∧ H'' b = some (((rT w ws k).set i acc).flatMap bC) ∧
        scanR w ws n R i m acc = scanR w ws n R i (k + 1) (0, 0, 0) ∧ 0 ≤ acc.1 ∧ acc.1 ≤ 40000000000 * (k + 1) ∧ acc.2.2 ≤ (n - i - m) * 11 ^ k, fun L _ => (iv L 0).toNat,
      ⟨k + 1, (0, 0, 0), by congr 2; omega, by omega, hle, ?_, rfl, by simp, by simp; omega, by simp⟩, ?_⟩
    · rw [hH]
      have := rT_at (w := w) (ws := ws) (k := k) (by omega)
      rw [hn, hid] at this
      rw [this]
    rintro L H2 ⟨m, acc, rfl, him, hle2, hH2, hsc, ha1, ha2, ha3⟩
    simp only [letO_some, cellsOf?_agg, cellsOf?_int, cellsOf?_bool, cellsOf?_imm, cellsOf?_ref, cellsOf?_nils, faddr_iptr, faddr_ptr, List.drop_succ_cons, List.drop_zero, List.take_succ_cons, List.take_zero, load1_iptr, loadN_iptr, List.length_cons, List.length_nil, Nat.le_refl, if_true, List.getElem?_cons_zero, List.getElem?_cons_succ, List.getD_cons_zero, List.getD_cons_succ, extrF_tup, binF_add, binF_sub, binF_mul, binF_eql, binF_neq, binF_lss, binF_leq, binF_gtr, binF_geq, true_and]
    refine condA_t (fun hgt => ?_) (fun hng => ?_)
    · have hm : 0 < m := by omega
      obtain ⟨m, rfl⟩ : ∃ m', m = m' + 1 := ⟨m - 1, by omega⟩
      generalize hj : i + (m + 1) = j at *
      have hij : i < j := by omega
      have hsb := stepR_bd (w := w) (ws := ws) (n := n) (i := i) (j := j) (s := n - i - (m + 1)) hc hp hRb ⟨ha1, ha2, ha3⟩
      have hq := sqf_bnd hc i j
      have hRj := hRb j
      have ha3' : acc.2.2 ≤ 10 * 11 ^ k := Nat.le_trans ha3 (Nat.mul_le_mul_right _ (by omega))
      refine ⟨fun L H'' => H.le H'' ∧ H'' b = some (((rT w ws k).set i (stepR w ws n R i j acc)).flatMap bC), ?_, ?_⟩
      · simp only [b104 cellsOf?_int cellsOf?_int, letO_some]
        refine alloc_store (cs := [.int .i64 i, .int .i64 j]) rfl rfl rfl rfl fun b7 hb7 => ?_
        have hle7 := Heap.le_put_self (cs := [.int .i64 i, .int .i64 j]) hb7
        generalize hH3 : H2.put b7 [.int .i64 i, .int .i64 j] = H3 at *
        have hL7 : loadN 2 (.ptr b7 0) H3 = some (.agg [.int .i64 i, .int .i64 j]) := by subst hH3; exact loadN_at (cells := [.int .i64 i, .int .i64 j]) Heap.put_same
        have hb3 := hle7 _ _ hH2
        have hle3 := Heap.le_trans hle2 hle7
        simp only [hL7, letO_some]
        refine m81 (hS hle3) hc (by omega) (by omega) ?_
        simp only [letO_some, cellsOf?_agg, cellsOf?_int, cellsOf?_bool, cellsOf?_imm, cellsOf?_ref, cellsOf?_nils, faddr_iptr, faddr_ptr, List.drop_succ_cons, List.drop_zero, List.take_succ_cons, List.take_zero, load1_iptr, loadN_iptr, List.length_cons, List.length_nil, Nat.le_refl, if_true, List.getElem?_cons_zero, List.getElem?_cons_succ, List.getD_cons_zero, List.getD_cons_succ, extrF_tup, binF_add, binF_sub, binF_mul, binF_eql, binF_neq, binF_lss, binF_leq, binF_gtr, binF_geq, true_and]
        refine condA_t (fun hneg => ?_) (fun hnn => ?_)
        · refine ⟨hle3, ?_⟩
          rw [stepR, if_pos hneg]
          exact hb3
        · have hst : stepR w ws n R i j acc = if acc.2.2 = 0 ∨ (if j < n then (sqf w ws i j + (R j).1, j, (R j).2.2) else (0, n, 1) : Best).1 < acc.1 then (if j < n then (sqf w ws i j + (R j).1, j, (R j).2.2) else (0, n, 1) : Best)
              else if (if j < n then (sqf w ws i j + (R j).1, j, (R j).2.2) else (0, n, 1) : Best).1 = acc.1 then ((if j < n then (sqf w ws i j + (R j).1, j, (R j).2.2) else (0, n, 1) : Best).1, j, acc.2.2 + (if j < n then (sqf w ws i j + (R j).1, j, (R j).2.2) else (0, n, 1) : Best).2.2) else acc := by
            rw [stepR, if_neg hnn]
          generalize hnow : (if j < n then (sqf w ws i j + (R j).1, j, (R j).2.2) else (0, n, 1) : Best) = now at hst
          have hnb : 0 ≤ now.1 ∧ now.1 ≤ 40000000000 * (k + 1) ∧ now.2.2 ≤ 11 ^ k := by
            subst hnow
            split
            · simp only; omega
            · simp only; omega
          simp only [b87 cellsOf?_int cellsOf?_int cellsOf?_int, letO_some]
          refine alloc_store (cs := [.int .i64 0, .int .i64 n, .int .i64 1]) rfl rfl rfl rfl fun b8 hb8 => ?_
          have hle8 := Heap.le_put_self (cs := [.int .i64 0, .int .i64 n, .int .i64 1]) hb8
          have hne : b ≠ b8 := Heap.ne_of hb3 hb8
          have hb8H := fresh_of hle3 hb8
          refine ⟨fun L H'' => H.le H'' ∧ H'' b = some (((rT w ws k).set i acc).flatMap bC) ∧ H'' b8 = some (bC now), ?_, ?_⟩
          · refine condA_t (fun hjn => ?_) (fun hjn => ?_)
            · have hjn : j < n := by omega
              rw [if_pos hjn] at hnow
              have hL7' : loadN 2 (.ptr b7 0) (H3.put b8 [.int .i64 0, .int .i64 n, .int .i64 1]) = some (.agg [.int .i64 i, .int .i64 j]) := loadN_at (cells := [.int .i64 i, .int .i64 j]) (hle8 _ _ (by subst hH3; exact Heap.put_same))
              have hbb := hle8 _ _ hb3
              have r1 := rows_at (k := 0) bC_len (hgetj j acc hij hjn) (by decide)
              have r2 := rows_at (k := 2) bC_len (hgetj j acc hij hjn) (by decide)
              have l1 := load1_at (o := j * 3 + 0) hbb r1
              have l2 := load1_at (o := j * 3 + 2) hbb r2
              simp only [Nat.add_zero] at l1
              simp only [hL7', letO_some, true_and]
              refine ⟨_, m87 (hS (Heap.le_trans hle3 hle8)) hc (by omega) (by omega) ⟨rfl, rfl⟩, ?_⟩
              simp only [letO_some, cellsOf?_agg, cellsOf?_int, cellsOf?_bool, cellsOf?_imm, cellsOf?_ref, cellsOf?_nils, faddr_iptr, faddr_ptr, List.drop_succ_cons, List.drop_zero, List.take_succ_cons, List.take_zero, load1_iptr, loadN_iptr, List.length_cons, List.length_nil, Nat.le_refl, if_true, List.getElem?_cons_zero, List.getElem?_cons_succ, List.getD_cons_zero, List.getD_cons_succ, extrF_tup, binF_add, binF_sub, binF_mul, binF_eql, binF_neq, binF_lss, binF_leq, binF_gtr, binF_geq, true_and, idx_ref hjn, Nat.zero_add, Nat.add_zero, l1, l2, bC, b87 cellsOf?_int cellsOf?_int cellsOf?_int]
              rw [wrap_i64 (by omega) (by omega)]
              refine storeA_of (cs := bC now) Heap.put_same (by subst hnow; rfl) rfl rfl (by simp [bC]) ?_
              refine ⟨?_, ?_, ?_⟩
              · rw [Heap.put_put]; exact Heap.le_put hle3 hb8H
              · rw [Heap.put_put, Heap.put_ne hne]; exact hb3
              · rw [Heap.put_put, Heap.put_same]; rfl
            · rw [if_neg (by omega)] at hnow
              subst hnow
              exact ⟨Heap.le_trans hle3 hle8, hle8 _ _ hb3, Heap.put_same⟩
          · rintro L H4 ⟨hle4, hb4, hn4⟩
            have r0 := rows_at (k := 0) bC_len (hgeti acc) (by decide)
            have r2 := rows_at (k := 2) bC_len (hgeti acc) (by decide)
            have l0 := load1_at (o := i * 3 + 0) hb4 r0
            have l2 := load1_at (o := i * 3 + 2) hb4 r2
            have n0 := load1_at (o := 0) (x := .int .i64 now.1) hn4 rfl
            have n2 := load1_at (o := 2) (x := .int .i64 now.2.2) hn4 rfl
            have nL : loadN 3 (.ptr b8 0) H4 = some (.agg (bC now)) := loadN_at hn4
            simp only [Nat.add_zero] at l0
            simp only [letO_some, cellsOf?_agg, cellsOf?_int, cellsOf?_bool, cellsOf?_imm, cellsOf?_ref, cellsOf?_nils, faddr_iptr, faddr_ptr, List.drop_succ_cons, List.drop_zero, List.take_succ_cons, List.take_zero, load1_iptr, loadN_iptr, List.length_cons, List.length_nil, Nat.le_refl, if_true, List.getElem?_cons_zero, List.getElem?_cons_succ, List.getD_cons_zero, List.getD_cons_succ, extrF_tup, binF_add, binF_sub, binF_mul, binF_eql, binF_neq, binF_lss, binF_leq, binF_gtr, binF_geq, true_and, idx_ref hin, Nat.zero_add, Nat.add_zero, l0, l2, n0, n2, nL, bC, b87 cellsOf?_int cellsOf?_int cellsOf?_int]
            have fin : ∀ y : Best, y = stepR w ws n R i j acc → ∀ x, cellsOf? x = some (bC y) → storeA 3 (.ptr b (i * 3)) x (fun H22 => H.le H22 ∧ H22 b = some (((rT w ws k).set i (stepR w ws n R i j acc)).flatMap bC)) H4 := by
              intro y hy x hx
              refine store_row bC_len hb4 (by rw [hleni]; exact hin) hx rfl ⟨Heap.le_put hle4 hb, ?_⟩
              rw [Heap.put_same, List.set_set, hy]
            by_cases hz : acc.2.2 = 0
            · have : ((acc.2.2 : Int) == 0) = true := by simp [hz]
              rw [if_pos (.inl hz)] at hst
              simp only [this, gval_bool, Bool.true_eq_false, if_false, letO_some, pickF_true, condA_bool, condG_bool, true_implies, ne_eq, not_true, false_implies, and_true]
              exact fin now hst.symm _ rfl
            · have : ((acc.2.2 : Int) == 0) = false := by simp; omega
              simp only [this, gval_bool, if_true, letO_some, idx_ref hin, Nat.zero_add, faddr_ptr, Nat.add_zero, n0, l0, bC, List.getElem?_cons_zero, binF_lss, pickF_false]
              refine condA_t (fun hlt => ?_) (fun hge => ?_)
              · rw [if_pos (.inr hlt)] at hst
                exact fin now hst.symm _ rfl
              · rw [if_neg (by simp [hz]; omega)] at hst
                simp only [condA_bool, condG_bool]
                refine ⟨fun he => ?_, fun he => ?_⟩
                · have he : now.1 = acc.1 := by simpa using he
                  rw [if_pos he] at hst
                  rw [wrap_i64 (by omega) (by omega)]
                  exact fin _ hst.symm _ (by simp [bC])
                · have he : ¬ now.1 = acc.1 := by simpa using he
                  rw [if_neg he] at hst
                  rw [hst]
                  exact ⟨hle4, hb4⟩
      · rintro L H3 ⟨hle3, hH3⟩
        rw [wrap_i64 (by omega) (by omega)]
        refine ⟨⟨m, stepR w ws n R i j acc, by congr 2; omega, by omega, hle3, hH3, ?_, hsb.1, hsb.2.1, ?_⟩, by simp; omega⟩
        · rw [← hsc, scanR, show i + m + 1 = j by omega]
        · have := hsb.2.2
          rwa [show n - i - (m + 1) + 1 = n - i - m by omega] at this
    · have hm : m = 0 := by omega
      subst hm
      rw [wrap_i64 (by omega) (by omega)]
      refine ⟨⟨k + 1, by first | (congr 2; omega) | (congr 2), by omega, hle2, ?_⟩, by simp <;> omega⟩
      have := rT_set (w := w) (ws := ws) (k := k) (by omega) acc
      rw [hn, hid] at this
      rw [hH2, this, rT, hn]
      have : acc = scanR w ws n R i (k + 1) (0, 0, 0) := hsc
      rw [this, rst, hid]
  · have hkn' : k = n := by omega
    rw [hkn'] at hH
    have : (rT w ws n).flatMap bC = (rst w ws n n).flatMap bC := by simp [rT, hn]
    rw [this] at hH
    refine endK_freeze hH (endK_drop (H' := H) (fun x c hx => ?_) ?_)
    · simp only [Heap.del]
      rw [if_neg (by rintro rfl; rw [hb] at hx; cases hx)]
      exact hle x c hx
    · have hl3 : ((rst w ws n n).flatMap bC).length = n * 3 := by rw [rows_len bC_len, rst_length]
      have : lift (lift (frz1 b ((rst w ws n n).flatMap bC))) (.ref 3 b 0 n (some n)) = .imm n false ((rst w ws n n).flatMap bC) := by
        simp only [lift, frz1, hl3, Nat.zero_add, Nat.le_refl, and_self, if_true, List.drop_zero]
        rw [← hl3, List.take_length]
      rw [this]
      exact hk
end Go.Proofs.Ytlajhbpkogekfaa

namespace Go.Proofs.Ytlajhbpkogekfaa
open Go.Av Line
set_option linter.unusedVariables false
set_option linter.unusedSimpArgs false

theorem endK_nil {e : Int} {H H' : Heap} {K : AV → Heap → Prop} (hl : H.le H') (h : K (.tup [sl [], .int .i64 e]) H) : endK (.tup [.nils, .int .i64 e]) H' K := endK_weak (endK_drop hl h)

def firstL (w : Int) (ws : List Int) : List Nat := firstE (rst w ws ws.length ws.length) ws.length ws.length 0
def firstO (w : Int) (ws : List Int) : List Int := if chk w ws = 0 then up (firstL w ws) else []
def bestO (w : Int) (ws : List Int) : Best := if chk w ws = 0 then (rst w ws ws.length ws.length).getD 0 (0, 0, 0) else (0, 0, 0)
def fullO (w : Int) (ws : List Int) : List Int := if chk w ws = 0 then up (fullE w ws ws.length 0) else []

/-- First -/
theorem c17 {w : Int} {v : AV} {ws : List Int} {H : Heap} {K : AV → Heap → Prop} (hv : Reads H v ws) (hlen : ws.length < 2 ^ 60) (hk : K (.tup [sl (firstO w ws), .int .i64 (chk w ws)]) H) : ACalls Try.prog 17 [.agg [.int .i64 w, v]] H K := by
  apply W17_ok
  unfold W17
  simp only [letO_some, cellsOf?_agg, cellsOf?_int, cellsOf?_bool, cellsOf?_imm, cellsOf?_ref, cellsOf?_nils, faddr_iptr, faddr_ptr, List.drop_succ_cons, List.drop_zero, List.take_succ_cons, List.take_zero, load1_iptr, loadN_iptr, List.length_cons, List.length_nil, Nat.le_refl, if_true, List.getElem?_cons_zero, List.getElem?_cons_succ, List.getD_cons_zero, List.getD_cons_succ, extrF_tup, binF_add, binF_sub, binF_mul, binF_eql, binF_neq, binF_lss, binF_leq, binF_gtr, binF_geq, true_and]
  refine c62 hv (by omega) (fun h => ?_) fun h s H' hg _ => ?_
  · simp only [letO_some, cellsOf?_agg, cellsOf?_int, cellsOf?_bool, cellsOf?_imm, cellsOf?_ref, cellsOf?_nils, faddr_iptr, faddr_ptr, List.drop_succ_cons, List.drop_zero, List.take_succ_cons, List.take_zero, load1_iptr, loadN_iptr, List.length_cons, List.length_nil, Nat.le_refl, if_true, List.getElem?_cons_zero, List.getElem?_cons_succ, List.getD_cons_zero, List.getD_cons_succ, extrF_tup, binF_add, binF_sub, binF_mul, binF_eql, binF_neq, binF_lss, binF_leq, binF_gtr, binF_geq, true_and]
    refine alloc_store (cs := [.int .i64 0, .nils]) rfl rfl rfl rfl fun b hb => ?_
    simp only [condA_bool, condG_bool]
    rw [firstO, if_neg h] at hk
    exact ⟨fun _ => endK_nil (Heap.le_put_self hb) hk, fun hh => by simp [h] at hh⟩
  · simp only [letO_some, cellsOf?_agg, cellsOf?_int, cellsOf?_bool, cellsOf?_imm, cellsOf?_ref, cellsOf?_nils, faddr_iptr, faddr_ptr, List.drop_succ_cons, List.drop_zero, List.take_succ_cons, List.take_zero, load1_iptr, loadN_iptr, List.length_cons, List.length_nil, Nat.le_refl, if_true, List.getElem?_cons_zero, List.getElem?_cons_succ, List.getD_cons_zero, List.getD_cons_succ, extrF_tup, binF_add, binF_sub, binF_mul, binF_eql, binF_neq, binF_lss, binF_leq, binF_gtr, binF_geq, true_and]
    obtain ⟨w1, w2, n1, n2, hws⟩ := chk_ok h
    refine alloc_store (cs := [.int .i64 w, s]) rfl (by simp only [List.all_cons, hg.scalar]; rfl) rfl rfl fun b hb => ?_
    simp only [condA_bool, condG_bool]
    refine ⟨fun hh => by simp at hh, fun _ => ?_⟩
    have hle4 : H'.le (H'.put b [.int .i64 w, s]) := Heap.le_put_self hb
    have hle4H : H.le (H'.put b [.int .i64 w, s]) := Heap.le_put hg.le (fresh_of hg.le hb)
    have hb4 : (H'.put b [.int .i64 w, s]) b = some [.int .i64 w, s] := Heap.put_same
    generalize H'.put b [.int .i64 w, s] = H4 at *
    have hL : ∀ {H5 : Heap}, H4.le H5 → loadN 2 (.ptr b 0) H5 = some (.agg [.int .i64 w, s]) := fun hl => loadN_at (cells := [.int .i64 w, s]) (hl _ _ hb4)
    have hS : ∀ {H5 : Heap}, H4.le H5 → Reads H5 s (sumsN ws ws.length) := fun hl => hg.reads.le (Heap.le_trans hle4 hl)
    rw [hL (Heap.le_refl _)]
    simp only [letO_some]
    refine c63 (hS (Heap.le_refl _)) h ?_
    have hn : ∀ H5, (H4.le H5) → True := fun _ _ => trivial
    refine ⟨fun L H5 => ∃ (at' : Nat) (l : List Nat) (X : AV) (f : Nat), L = [.int .i64 at', X] ∧ at' ≤ ws.length ∧ Grow 1 H4 H5 X l.length (ints (up l)) ∧ l.length ≤ at' ∧ ws.length - at' ≤ f ∧
        l ++ firstE (rst w ws ws.length ws.length) ws.length f at' = firstL w ws, fun L _ => (ws.length - iv L 0).toNat,
      ⟨0, [], .nils, ws.length, rfl, by omega, Grow.nils 1 H4, by simp, by omega, rfl⟩, ?_⟩
    rintro L H5 ⟨at', l, X, f, rfl, hat, hgx, hl, hf, hE⟩
    simp only [List.getD_cons_zero, List.getD_cons_succ]
    rw [hL hgx.le]
    simp only [letO_some]
    refine m64 (hS hgx.le) h ?_
    simp only [letO_some, cellsOf?_agg, cellsOf?_int, cellsOf?_bool, cellsOf?_imm, cellsOf?_ref, cellsOf?_nils, faddr_iptr, faddr_ptr, List.drop_succ_cons, List.drop_zero, List.take_succ_cons, List.take_zero, load1_iptr, loadN_iptr, List.length_cons, List.length_nil, Nat.le_refl, if_true, List.getElem?_cons_zero, List.getElem?_cons_succ, List.getD_cons_zero, List.getD_cons_succ, extrF_tup, binF_add, binF_sub, binF_mul, binF_eql, binF_neq, binF_lss, binF_leq, binF_gtr, binF_geq, true_and]
    refine condA_t (fun hlt => ?_) (fun hge => ?_)
    · have hlt : at' < ws.length := by omega
      have hR := rst_end h ws.length (Nat.le_refl _) at' (by omega) hlt
      rw [Nat.sub_self, Nat.sub_zero] at hR
      have hget : (rst w ws ws.length ws.length)[at']? = some ((rst w ws ws.length ws.length).getD at' (0, 0, 0)) := by
        rw [List.getD_eq_getElem?_getD, List.getElem?_eq_getElem (by rw [rst_length]; omega)]; rfl
      obtain ⟨f, rfl⟩ : ∃ f', f = f' + 1 := ⟨f - 1, by omega⟩
      rw [firstE, if_pos hlt] at hE
      generalize (rst w ws ws.length ws.length).getD at' (0, 0, 0) = bb at *
      have r1 := rows_at (k := 1) bC_len hget (by decide)
      simp only [idx_imm hlt, letO_some, faddr_iptr, load1_iptr, List.getElem?_drop, Nat.add_zero, r1, bC, List.getElem?_cons_succ, List.getElem?_cons_zero, l22 cellsOf?_int]
      refine appendA_one hgx (by omega) fun v' H7 hg7 => ?_
      refine ⟨⟨bb.2.1, l ++ [bb.2.1], v', f, rfl, hR.2.1, ?_, by simp; omega, by omega, ?_⟩, by simp; omega⟩
      · simpa [up] using hg7
      · rw [← hE]; simp
    · have hat : at' = ws.length := by omega
      subst hat
      have : firstE (rst w ws ws.length ws.length) ws.length f ws.length = [] := by cases f <;> simp [firstE]
      rw [this, List.append_nil] at hE
      rw [firstO, if_pos h, ← hE, h, sl, up_length] at hk
      obtain ⟨H2, hl2, hg2⟩ := hgx.shrink hle4H
      exact endK_pub (Pub.drop hl2) (hg2.end2 hk)

/-- Least, Count: what is read of the first row -/
theorem bestRow {w : Int} {ws : List Int} (h : chk w ws = 0) : bestO w ws = (rst w ws ws.length ws.length).getD 0 (0, 0, 0) ∧ (rst w ws ws.length ws.length)[0]? = some (bestO w ws) := by
  have := chk_ok h
  rw [bestO, if_pos h]
  refine ⟨rfl, ?_⟩
  rw [List.getD_eq_getElem?_getD, List.getElem?_eq_getElem (by rw [rst_length]; omega)]
  rfl
/-- Least -/
theorem c19 {w : Int} {v : AV} {ws : List Int} {H : Heap} {K : AV → Heap → Prop} (hv : Reads H v ws) (hlen : ws.length < 2 ^ 60) (hk : K (.tup [.int .i64 (bestO w ws).1, .int .i64 (chk w ws)]) H) : ACalls Try.prog 19 [.agg [.int .i64 w, v]] H K := by
  apply W19_ok
  unfold W19
  simp only [letO_some, cellsOf?_agg, cellsOf?_int, cellsOf?_bool, cellsOf?_imm, cellsOf?_ref, cellsOf?_nils, faddr_iptr, faddr_ptr, List.drop_succ_cons, List.drop_zero, List.take_succ_cons, List.take_zero, load1_iptr, loadN_iptr, List.length_cons, List.length_nil, Nat.le_refl, if_true, List.getElem?_cons_zero, List.getElem?_cons_succ, List.getD_cons_zero, List.getD_cons_succ, extrF_tup, binF_add, binF_sub, binF_mul, binF_eql, binF_neq, binF_lss, binF_leq, binF_gtr, binF_geq, true_and]
  refine c62 hv (by omega) (fun h => ?_) fun h s H' hg _ => ?_
  · simp only [letO_some, cellsOf?_agg, cellsOf?_int, cellsOf?_bool, cellsOf?_imm, cellsOf?_ref, cellsOf?_nils, faddr_iptr, faddr_ptr, List.drop_succ_cons, List.drop_zero, List.take_succ_cons, List.take_zero, load1_iptr, loadN_iptr, List.length_cons, List.length_nil, Nat.le_refl, if_true, List.getElem?_cons_zero, List.getElem?_cons_succ, List.getD_cons_zero, List.getD_cons_succ, extrF_tup, binF_add, binF_sub, binF_mul, binF_eql, binF_neq, binF_lss, binF_leq, binF_gtr, binF_geq, true_and]
    refine alloc_store (cs := [.int .i64 0, .nils]) rfl rfl rfl rfl fun b hb => ?_
    simp only [condA_bool, condG_bool]
    rw [bestO, if_neg h] at hk
    exact ⟨fun _ => endK_drop (Heap.le_put_self hb) hk, fun hh => by simp [h] at hh⟩
  · simp only [letO_some, cellsOf?_agg, cellsOf?_int, cellsOf?_bool, cellsOf?_imm, cellsOf?_ref, cellsOf?_nils, faddr_iptr, faddr_ptr, List.drop_succ_cons, List.drop_zero, List.take_succ_cons, List.take_zero, load1_iptr, loadN_iptr, List.length_cons, List.length_nil, Nat.le_refl, if_true, List.getElem?_cons_zero, List.getElem?_cons_succ, List.getD_cons_zero, List.getD_cons_succ, extrF_tup, binF_add, binF_sub, binF_mul, binF_eql, binF_neq, binF_lss, binF_leq, binF_gtr, binF_geq, true_and]
    have hn := chk_ok h
    refine alloc_store (cs := [.int .i64 w, s]) rfl (by simp only [List.all_cons, hg.scalar]; rfl) rfl rfl fun b hb => ?_
    simp only [condA_bool, condG_bool]
    refine ⟨fun hh => by simp at hh, fun _ => ?_⟩
    have hle4 : H'.le (H'.put b [.int .i64 w, s]) := Heap.le_put_self hb
    rw [show loadN 2 (.ptr b 0) (H'.put b [.int .i64 w, s]) = some (.agg [.int .i64 w, s]) from loadN_at Heap.put_same]
    simp only [letO_some]
    refine c63 (hg.reads.le hle4) h ?_
    have r1 := rows_at (k := 0) bC_len (bestRow h).2 (by decide)
    have hi := idx_imm (sz := 3) (n := ws.length) (f := false) (cells := (rst w ws ws.length ws.length).flatMap bC) (k := .i64) (i := 0) (by omega)
    rw [Int.natCast_zero] at hi
    simp only [hi, letO_some, faddr_iptr, load1_iptr, List.getElem?_drop, Nat.add_zero, r1, bC, List.getElem?_cons_succ, List.getElem?_cons_zero]
    rw [h] at hk
    exact endK_drop (Heap.le_put hg.le (fresh_of hg.le hb)) hk
/-- Count -/
theorem c21 {w : Int} {v : AV} {ws : List Int} {H : Heap} {K : AV → Heap → Prop} (hv : Reads H v ws) (hlen : ws.length < 2 ^ 60) (hk : K (.tup [.int .i64 (bestO w ws).2.2, .int .i64 (chk w ws)]) H) : ACalls Try.prog 21 [.agg [.int .i64 w, v]] H K := by
  apply W21_ok
  unfold W21
  simp only [letO_some, cellsOf?_agg, cellsOf?_int, cellsOf?_bool, cellsOf?_imm, cellsOf?_ref, cellsOf?_nils, faddr_iptr, faddr_ptr, List.drop_succ_cons, List.drop_zero, List.take_succ_cons, List.take_zero, load1_iptr, loadN_iptr, List.length_cons, List.length_nil, Nat.le_refl, if_true, List.getElem?_cons_zero, List.getElem?_cons_succ, List.getD_cons_zero, List.getD_cons_succ, extrF_tup, binF_add, binF_sub, binF_mul, binF_eql, binF_neq, binF_lss, binF_leq, binF_gtr, binF_geq, true_and]
  refine c62 hv (by omega) (fun h => ?_) fun h s H' hg _ => ?_
  · simp only [letO_some, cellsOf?_agg, cellsOf?_int, cellsOf?_bool, cellsOf?_imm, cellsOf?_ref, cellsOf?_nils, faddr_iptr, faddr_ptr, List.drop_succ_cons, List.drop_zero, List.take_succ_cons, List.take_zero, load1_iptr, loadN_iptr, List.length_cons, List.length_nil, Nat.le_refl, if_true, List.getElem?_cons_zero, List.getElem?_cons_succ, List.getD_cons_zero, List.getD_cons_succ, extrF_tup, binF_add, binF_sub, binF_mul, binF_eql, binF_neq, binF_lss, binF_leq, binF_gtr, binF_geq, true_and]
    refine alloc_store (cs := [.int .i64 0, .nils]) rfl rfl rfl rfl fun b hb => ?_
    simp only [condA_bool, condG_bool]
    rw [bestO, if_neg h] at hk
    exact ⟨fun _ => endK_drop (Heap.le_put_self hb) hk, fun hh => by simp [h] at hh⟩
  · simp only [letO_some, cellsOf?_agg, cellsOf?_int, cellsOf?_bool, cellsOf?_imm, cellsOf?_ref, cellsOf?_nils, faddr_iptr, faddr_ptr, List.drop_succ_cons, List.drop_zero, List.take_succ_cons, List.take_zero, load1_iptr, loadN_iptr, List.length_cons, List.length_nil, Nat.le_refl, if_true, List.getElem?_cons_zero, List.getElem?_cons_succ, List.getD_cons_zero, List.getD_cons_succ, extrF_tup, binF_add, binF_sub, binF_mul, binF_eql, binF_neq, binF_lss, binF_leq, binF_gtr, binF_geq, true_and]
    have hn := chk_ok h
    refine alloc_store (cs := [.int .i64 w, s]) rfl (by simp only [List.all_cons, hg.scalar]; rfl) rfl rfl fun b hb => ?_
    simp only [condA_bool, condG_bool]
    refine ⟨fun hh => by simp at hh, fun _ => ?_⟩
    have hle4 : H'.le (H'.put b [.int .i64 w, s]) := Heap.le_put_self hb
    rw [show loadN 2 (.ptr b 0) (H'.put b [.int .i64 w, s]) = some (.agg [.int .i64 w, s]) from loadN_at Heap.put_same]
    simp only [letO_some]
    refine c63 (hg.reads.le hle4) h ?_
    have r1 := rows_at (k := 2) bC_len (bestRow h).2 (by decide)
    have hi := idx_imm (sz := 3) (n := ws.length) (f := false) (cells := (rst w ws ws.length ws.length).flatMap bC) (k := .i64) (i := 0) (by omega)
    rw [Int.natCast_zero] at hi
    simp only [hi, letO_some, faddr_iptr, load1_iptr, List.getElem?_drop, Nat.add_zero, r1, bC, List.getElem?_cons_succ, List.getElem?_cons_zero]
    rw [h] at hk
    exact endK_drop (Heap.le_put hg.le (fresh_of hg.le hb)) hk
end Go.Proofs.Ytlajhbpkogekfaa

namespace Go.Proofs.Ytlajhbpkogekfaa
open Go.Av Line
set_option linter.unusedVariables false
set_option linter.unusedSimpArgs false
set_option maxRecDepth 4000

/-- end -/
theorem c76 {w : Int} {s : AV} {ws : List Int} {i m : Nat} {H : Heap} {K : AV → Heap → Prop} (hs : Reads H s (sumsN ws ws.length)) (hc : chk w ws = 0) (hi : i < m) (hm : m ≤ ws.length)
    (hk : K (.int .i64 (endN w ws i m)) H) : ACalls Try.prog 76 [.agg [.int .i64 w, s], .int .i64 i, .int .i64 m] H K := by
  apply W76_ok
  unfold W76
  have hn := chk_ok hc
  simp only [letO_some, cellsOf?_agg, cellsOf?_int, cellsOf?_bool, cellsOf?_imm, cellsOf?_ref, cellsOf?_nils, faddr_iptr, faddr_ptr, List.drop_succ_cons, List.drop_zero, List.take_succ_cons, List.take_zero, load1_iptr, loadN_iptr, List.length_cons, List.length_nil, Nat.le_refl, if_true, List.getElem?_cons_zero, List.getElem?_cons_succ, List.getD_cons_zero, List.getD_cons_succ, extrF_tup, binF_add, binF_sub, binF_mul, binF_eql, binF_neq, binF_lss, binF_leq, binF_gtr, binF_geq, true_and]
  refine ⟨fun L H' => ∃ (j : Nat), L = [.int .i64 j] ∧ H' = H ∧ i < j ∧ j ≤ m ∧ endN w ws i j = endN w ws i m, fun L _ => (iv L 0).toNat, ⟨m, rfl, rfl, hi, Nat.le_refl _, rfl⟩, ?_⟩
  intro L H' hI
  obtain ⟨j, hL, hH, hj, hjm, he⟩ := hI
  subst hL
  subst hH
  simp only [letO_some, cellsOf?_agg, cellsOf?_int, cellsOf?_bool, cellsOf?_imm, cellsOf?_ref, cellsOf?_nils, faddr_iptr, faddr_ptr, List.drop_succ_cons, List.drop_zero, List.take_succ_cons, List.take_zero, load1_iptr, loadN_iptr, List.length_cons, List.length_nil, Nat.le_refl, if_true, List.getElem?_cons_zero, List.getElem?_cons_succ, List.getD_cons_zero, List.getD_cons_succ, extrF_tup, binF_add, binF_sub, binF_mul, binF_eql, binF_neq, binF_lss, binF_leq, binF_gtr, binF_geq, true_and, b104 cellsOf?_int cellsOf?_int]
  refine m81 hs hc (by omega) (by omega) ?_
  simp only [letO_some, cellsOf?_agg, cellsOf?_int, cellsOf?_bool, cellsOf?_imm, cellsOf?_ref, cellsOf?_nils, faddr_iptr, faddr_ptr, List.drop_succ_cons, List.drop_zero, List.take_succ_cons, List.take_zero, load1_iptr, loadN_iptr, List.length_cons, List.length_nil, Nat.le_refl, if_true, List.getElem?_cons_zero, List.getElem?_cons_succ, List.getD_cons_zero, List.getD_cons_succ, extrF_tup, binF_add, binF_sub, binF_mul, binF_eql, binF_neq, binF_lss, binF_leq, binF_gtr, binF_geq, true_and]
  obtain ⟨j, rfl⟩ : ∃ j', j = j' + 1 := ⟨j - 1, by omega⟩
  refine condA_t (fun hlt => ?_) (fun hge => ?_)
  · have : i < j := by
      by_cases e : j = i
      · subst e
        have := lf_one hc (show j < ws.length by omega)
        omega
      · omega
    rw [wrap_i64 (by omega) (by omega)]
    refine ⟨⟨j, by simp, this, by omega, ?_⟩, by simp <;> omega⟩
    rw [← he, endN, if_pos hlt]
  · rw [endN, if_neg hge] at he
    rw [← he] at hk
    exact endK_ret hk

/-- Full -/
theorem c36 {w : Int} {v : AV} {ws : List Int} {H : Heap} {K : AV → Heap → Prop} (hv : Reads H v ws) (hlen : ws.length < 2 ^ 60) (hk : K (.tup [sl (fullO w ws), .int .i64 (chk w ws)]) H) : ACalls Try.prog 36 [.agg [.int .i64 w, v]] H K := by
  apply W36_ok
  unfold W36
  simp only [letO_some, cellsOf?_agg, cellsOf?_int, cellsOf?_bool, cellsOf?_imm, cellsOf?_ref, cellsOf?_nils, faddr_iptr, faddr_ptr, List.drop_succ_cons, List.drop_zero, List.take_succ_cons, List.take_zero, load1_iptr, loadN_iptr, List.length_cons, List.length_nil, Nat.le_refl, if_true, List.getElem?_cons_zero, List.getElem?_cons_succ, List.getD_cons_zero, List.getD_cons_succ, extrF_tup, binF_add, binF_sub, binF_mul, binF_eql, binF_neq, binF_lss, binF_leq, binF_gtr, binF_geq, true_and]
  refine c62 hv (by omega) (fun h => ?_) fun h s H' hg _ => ?_
  · simp only [letO_some, cellsOf?_agg, cellsOf?_int, cellsOf?_bool, cellsOf?_imm, cellsOf?_ref, cellsOf?_nils, faddr_iptr, faddr_ptr, List.drop_succ_cons, List.drop_zero, List.take_succ_cons, List.take_zero, load1_iptr, loadN_iptr, List.length_cons, List.length_nil, Nat.le_refl, if_true, List.getElem?_cons_zero, List.getElem?_cons_succ, List.getD_cons_zero, List.getD_cons_succ, extrF_tup, binF_add, binF_sub, binF_mul, binF_eql, binF_neq, binF_lss, binF_leq, binF_gtr, binF_geq, true_and]
    refine alloc_store (cs := [.int .i64 0, .nils]) rfl rfl rfl rfl fun b hb => ?_
    simp only [condA_bool, condG_bool]
    rw [fullO, if_neg h] at hk
    exact ⟨fun _ => endK_nil (Heap.le_put_self hb) hk, fun hh => by simp [h] at hh⟩
  · simp only [letO_some, cellsOf?_agg, cellsOf?_int, cellsOf?_bool, cellsOf?_imm, cellsOf?_ref, cellsOf?_nils, faddr_iptr, faddr_ptr, List.drop_succ_cons, List.drop_zero, List.take_succ_cons, List.take_zero, load1_iptr, loadN_iptr, List.length_cons, List.length_nil, Nat.le_refl, if_true, List.getElem?_cons_zero, List.getElem?_cons_succ, List.getD_cons_zero, List.getD_cons_succ, extrF_tup, binF_add, binF_sub, binF_mul, binF_eql, binF_neq, binF_lss, binF_leq, binF_gtr, binF_geq, true_and]
    obtain ⟨w1, w2, n1, n2, hws⟩ := chk_ok h
    refine alloc_store (cs := [.int .i64 w, s]) rfl (by simp only [List.all_cons, hg.scalar]; rfl) rfl rfl fun b hb => ?_
    simp only [condA_bool, condG_bool]
    refine ⟨fun hh => by simp at hh, fun _ => ?_⟩
    have hle4 : H'.le (H'.put b [.int .i64 w, s]) := Heap.le_put_self hb
    have hle4H : H.le (H'.put b [.int .i64 w, s]) := Heap.le_put hg.le (fresh_of hg.le hb)
    have hb4 : (H'.put b [.int .i64 w, s]) b = some [.int .i64 w, s] := Heap.put_same
    generalize H'.put b [.int .i64 w, s] = H4 at *
    have hL : ∀ {H5 : Heap}, H4.le H5 → loadN 2 (.ptr b 0) H5 = some (.agg [.int .i64 w, s]) := fun hl => loadN_at (cells := [.int .i64 w, s]) (hl _ _ hb4)
    have hS : ∀ {H5 : Heap}, H4.le H5 → Reads H5 s (sumsN ws ws.length) := fun hl => hg.reads.le (Heap.le_trans hle4 hl)
    refine ⟨fun L H5 => ∃ (at' : Nat) (l : List Nat) (X : AV) (f : Nat), L = [.int .i64 at', X] ∧ at' ≤ ws.length ∧ Grow 1 H4 H5 X l.length (ints (up l)) ∧ l.length ≤ at' ∧ ws.length - at' ≤ f ∧
        l ++ fullE w ws f at' = fullE w ws ws.length 0, fun L _ => (ws.length - iv L 0).toNat,
      ⟨0, [], .nils, ws.length, rfl, by omega, Grow.nils 1 H4, by simp, by omega, rfl⟩, ?_⟩
    rintro L H5 ⟨at', l, X, f, rfl, hat, hgx, hl, hf, hE⟩
    simp only [List.getD_cons_zero, List.getD_cons_succ, hL hgx.le, letO_some]
    refine m64 (hS hgx.le) h ?_
    simp only [letO_some, cellsOf?_agg, cellsOf?_int, cellsOf?_bool, cellsOf?_imm, cellsOf?_ref, cellsOf?_nils, faddr_iptr, faddr_ptr, List.drop_succ_cons, List.drop_zero, List.take_succ_cons, List.take_zero, load1_iptr, loadN_iptr, List.length_cons, List.length_nil, Nat.le_refl, if_true, List.getElem?_cons_zero, List.getElem?_cons_succ, List.getD_cons_zero, List.getD_cons_succ, extrF_tup, binF_add, binF_sub, binF_mul, binF_eql, binF_neq, binF_lss, binF_leq, binF_gtr, binF_geq, true_and, hL hgx.le]
    refine condA_t (fun hlt => ?_) (fun hge => ?_)
    · have hlt : at' < ws.length := by omega
      have hR := endN_range h hlt ws.length hlt
      obtain ⟨f, rfl⟩ : ∃ f', f = f' + 1 := ⟨f - 1, by omega⟩
      rw [fullE, if_pos hlt] at hE
      refine ⟨_, m64 (hS hgx.le) h ⟨rfl, rfl⟩, ?_⟩
      refine c76 (hS hgx.le) h hlt (Nat.le_refl _) ?_
      simp only [letO_some, l22 cellsOf?_int]
      generalize endN w ws at' ws.length = e at *
      refine appendA_one hgx (by omega) fun v' H7 hg7 => ?_
      refine ⟨⟨e, l ++ [e], v', f, rfl, hR.2, ?_, by simp; omega, by omega, ?_⟩, by simp; omega⟩
      · simpa [up] using hg7
      · rw [← hE]; simp
    · have hat : at' = ws.length := by omega
      subst hat
      have : fullE w ws f ws.length = [] := by cases f <;> simp [fullE]
      rw [this, List.append_nil] at hE
      rw [fullO, if_pos h, ← hE, h, sl, up_length] at hk
      obtain ⟨H2, hl2, hg2⟩ := hgx.shrink hle4H
      exact endK_pub (Pub.drop hl2) (hg2.end2 hk)
end Go.Proofs.Ytlajhbpkogekfaa

namespace Go.Proofs.Ytlajhbpkogekfaa
open Go.Av Line
set_option linter.unusedVariables false
set_option linter.unusedSimpArgs false
set_option maxRecDepth 4000

def pC (p : Int × Nat) : List AV := [.int .i64 p.1, .int .i64 p.2]
theorem pC_len (p : Int × Nat) : (pC p).length = 2 := rfl
theorem b94 {x y : AV} (hx : cellsOf? x = some [x]) (hy : cellsOf? y = some [y]) : buildF Try.prog 94 [(0, x), (1, y)] = some (.agg [x, y]) := by
  rw [arrayF_of (show arrayPlan Try.prog 94 = some ([.int .i64 0, .int .i64 0], 1) by kernel_rfl)]
  simp [fillA, hx, hy, splice]
theorem idxArr_ptr {b off : Nat} {i : Nat} (h : i < 2) : idxArr 2 1 (.ptr b off) (.int .i64 (i : Int)) = some (.ptr b (off + i)) := by
  simp [idxArr]; omega
theorem idxArr_iptr {cells : List AV} {i : Nat} (h : i < 2) : idxArr 2 1 (.iptr cells) (.int .i64 (i : Int)) = some (.iptr (cells.drop i)) := by
  simp [idxArr]; omega

/-- The table of places, when 'k' are done. -/
def pT (w : Int) (ws : List Int) (n k : Nat) : List (Int × Nat) := pls w ws k ++ List.replicate (n - k) (0, 0)
theorem pT_length {w : Int} {ws : List Int} {n k : Nat} (h : k ≤ n) : (pT w ws n k).length = n + 1 := by simp [pT]; omega
theorem pT_get {w : Int} {ws : List Int} {n k m : Nat} (h : m ≤ k) : (pT w ws n k)[m]? = some ((pls w ws k).getD m (0, 0)) := by
  rw [pT, List.getElem?_append_left (by simp; omega), List.getD_eq_getElem?_getD, List.getElem?_eq_getElem (by simp; omega)]
  rfl
theorem pT_set {w : Int} {ws : List Int} {n k : Nat} (h : k < n) (b : Int × Nat) : (pT w ws n k).set (k + 1) b = pls w ws k ++ b :: List.replicate (n - (k + 1)) (0, 0) := by
  unfold pT
  rw [show n - k = (n - (k + 1)) + 1 by omega, List.replicate_succ, List.set_append_right _ _ (by simp)]
  simp
theorem pT_at {w : Int} {ws : List Int} {n k : Nat} (h : k < n) : (pT w ws n k).set (k + 1) (0, 0) = pT w ws n k := by
  rw [pT_set h, pT]
  rw [show n - k = (n - (k + 1)) + 1 by omega, List.replicate_succ]

/-- places -/
theorem c67 {w : Int} {s : AV} {ws : List Int} {H : Heap} {K : AV → Heap → Prop} (hs : Reads H s (sumsN ws ws.length)) (hc : chk w ws = 0)
    (hk : K (.imm (ws.length + 1) false ((pls w ws ws.length).flatMap pC)) H) : ACalls Try.prog 67 [.agg [.int .i64 w, s]] H K := by
  apply W67_ok
  unfold W67
  obtain ⟨w1, w2, n1, n2, hws⟩ := chk_ok hc
  simp only [letO_some, cellsOf?_agg, cellsOf?_int, cellsOf?_bool, cellsOf?_imm, cellsOf?_ref, cellsOf?_nils, faddr_iptr, faddr_ptr, List.drop_succ_cons, List.drop_zero, List.take_succ_cons, List.take_zero, load1_iptr, loadN_iptr, List.length_cons, List.length_nil, Nat.le_refl, if_true, List.getElem?_cons_zero, List.getElem?_cons_succ, List.getD_cons_zero, List.getD_cons_succ, extrF_tup, binF_add, binF_sub, binF_mul, binF_eql, binF_neq, binF_lss, binF_leq, binF_gtr, binF_geq, true_and]
  refine m64 hs hc ?_
  simp only [letO_some, cellsOf?_agg, cellsOf?_int, cellsOf?_bool, cellsOf?_imm, cellsOf?_ref, cellsOf?_nils, faddr_iptr, faddr_ptr, List.drop_succ_cons, List.drop_zero, List.take_succ_cons, List.take_zero, load1_iptr, loadN_iptr, List.length_cons, List.length_nil, Nat.le_refl, if_true, List.getElem?_cons_zero, List.getElem?_cons_succ, List.getD_cons_zero, List.getD_cons_succ, extrF_tup, binF_add, binF_sub, binF_mul, binF_eql, binF_neq, binF_lss, binF_leq, binF_gtr, binF_geq, true_and, makeA]
  rw [wrap_i64 (by omega) (by omega)]
  refine ⟨by omega, by omega, by omega, by omega, ?_⟩
  intro b hb
  rw [show ((ws.length : Int) + 1).toNat = ws.length + 1 by omega]
  have hrow : rowOf [.int .i64 0, .int .i64 0] ((ws.length + 1) * 2) = (pT w ws ws.length 0).flatMap pC := by
    show rowOf (pC (0, 0)) ((ws.length + 1) * 2) = _
    rw [rowOf_eq (f := pC) (sz := 2) rfl]
    simp [pT, pls, List.replicate_succ]
  rw [hrow]
  generalize hn : ws.length = n at *
  have hS : ∀ {H' : Heap}, H.le H' → Reads H' s (sumsN ws ws.length) := fun h => by rw [hn]; exact hs.le h
  refine ⟨fun L H' => ∃ (k : Nat), L = [.int .i64 ((k + 1 : Nat) : Int)] ∧ k ≤ n ∧ H.le H' ∧ H' b = some ((pT w ws n k).flatMap pC), fun L _ => (n + 1 - iv L 0).toNat,
    ⟨0, by simp, by omega, Heap.le_put_self hb, Heap.put_same⟩, ?_⟩
  intro L H' hI
  obtain ⟨k, rfl, hkn, hle, hH⟩ := hI
  simp only [letO_some, cellsOf?_agg, cellsOf?_int, cellsOf?_bool, cellsOf?_imm, cellsOf?_ref, cellsOf?_nils, faddr_iptr, faddr_ptr, List.drop_succ_cons, List.drop_zero, List.take_succ_cons, List.take_zero, load1_iptr, loadN_iptr, List.length_cons, List.length_nil, Nat.le_refl, if_true, List.getElem?_cons_zero, List.getElem?_cons_succ, List.getD_cons_zero, List.getD_cons_succ, extrF_tup, binF_add, binF_sub, binF_mul, binF_eql, binF_neq, binF_lss, binF_leq, binF_gtr, binF_geq, true_and]
  refine m64 (hS hle) hc ?_
  rw [hn]
  simp only [letO_some, cellsOf?_agg, cellsOf?_int, cellsOf?_bool, cellsOf?_imm, cellsOf?_ref, cellsOf?_nils, faddr_iptr, faddr_ptr, List.drop_succ_cons, List.drop_zero, List.take_succ_cons, List.take_zero, load1_iptr, loadN_iptr, List.length_cons, List.length_nil, Nat.le_refl, if_true, List.getElem?_cons_zero, List.getElem?_cons_succ, List.getD_cons_zero, List.getD_cons_succ, extrF_tup, binF_add, binF_sub, binF_mul, binF_eql, binF_neq, binF_lss, binF_leq, binF_gtr, binF_geq, true_and]
  refine condA_t (fun hge => ?_) (fun hlt => ?_)
  · have hk1 : k < n := by omega
    rw [wrap_i64 (by omega) (by omega)]
    generalize hj : k + 1 = j at *
    let P := pls w ws k
    have hPb := pls_bd (w := w) (ws := ws) hc k
    have hlen : (pT w ws n k).length = n + 1 := pT_length (by omega)
    have hgetm : ∀ m acc, m ≤ k → ((pT w ws n k).set j acc)[m]? = some ((pls w ws k).getD m (0, 0)) := by
      intro m acc h1
      rw [List.getElem?_set_ne (by omega), pT_get h1]
    have hgetj : ∀ acc, ((pT w ws n k).set j acc)[j]? = some acc := by
      intro acc
      rw [List.getElem?_set_self (by omega)]
    have hlenj : ∀ acc, ((pT w ws n k).set j acc).length = n + 1 := by intro acc; simp [hlen]
    refine ⟨fun L H'' => ∃ (m : Nat) (acc : Int × Nat), L = [.int .i64 ((m : Int) - 1)] ∧ m ≤ j ∧ H.le H'' ∧ H'' b = some (((pT w ws n k).set j acc).flatMap pC) ∧
        scanB w ws P j m acc = scanB w ws P j j (0, 0) ∧ 0 ≤ acc.1 ∧ acc.1 ≤ 40000000000 * (k + 1), fun L _ => (iv L 0 + 1).toNat,
      ⟨j, (0, 0), rfl, by omega, hle, ?_, rfl, by simp, by simp; omega⟩, ?_⟩
    · rw [hH, ← hj, pT_at (by omega)]
    intro L H2 hI
    obtain ⟨m, acc, rfl, hmj, hle2, hH2, hsc, ha1, ha2⟩ := hI
    have done : acc = scanB w ws P j j (0, 0) → H2 b = some ((pT w ws n (k + 1)).flatMap pC) := by
      intro h
      rw [hH2, ← hj, pT_set (by omega), pT, pls, h]
      simp only [List.append_assoc, List.singleton_append, P, ← hj]
    simp only [letO_some, cellsOf?_agg, cellsOf?_int, cellsOf?_bool, cellsOf?_imm, cellsOf?_ref, cellsOf?_nils, faddr_iptr, faddr_ptr, List.drop_succ_cons, List.drop_zero, List.take_succ_cons, List.take_zero, load1_iptr, loadN_iptr, List.length_cons, List.length_nil, Nat.le_refl, if_true, List.getElem?_cons_zero, List.getElem?_cons_succ, List.getD_cons_zero, List.getD_cons_succ, extrF_tup, binF_add, binF_sub, binF_mul, binF_eql, binF_neq, binF_lss, binF_leq, binF_gtr, binF_geq, true_and]
    have hbv : ∀ {x : Bool}, decide ((0 : Int) ≤ (m : Int) - 1) = x → decide (0 < m) = x := by
      intro x h; rw [← h]; congr 1; simp; omega
    by_cases hm : 0 < m
    · obtain ⟨m, rfl⟩ : ∃ m', m = m' + 1 := ⟨m - 1, by omega⟩
      have e1 : ((m + 1 : Nat) : Int) - 1 = (m : Int) := by omega
      have e2 : decide ((0 : Int) ≤ (m : Int)) = true := by simp
      simp only [e1, e2, gval_bool, if_true, letO_some, b104 cellsOf?_int cellsOf?_int]
      refine ⟨fun r h => r = .int .i64 (lf w ws m j) ∧ h = H2, ?_, ?_⟩
      · simp only [condA_bool, condG_bool]
        exact ⟨fun _ => m81 (hS hle2) hc (by omega) (by omega) ⟨rfl, rfl⟩, fun h => absurd rfl h⟩
      rintro t26 H15 ⟨rfl, rfl⟩
      simp only [letO_some, cellsOf?_agg, cellsOf?_int, cellsOf?_bool, cellsOf?_imm, cellsOf?_ref, cellsOf?_nils, faddr_iptr, faddr_ptr, List.drop_succ_cons, List.drop_zero, List.take_succ_cons, List.take_zero, load1_iptr, loadN_iptr, List.length_cons, List.length_nil, Nat.le_refl, if_true, List.getElem?_cons_zero, List.getElem?_cons_succ, List.getD_cons_zero, List.getD_cons_succ, extrF_tup, binF_add, binF_sub, binF_mul, binF_eql, binF_neq, binF_lss, binF_leq, binF_gtr, binF_geq, true_and, pickF_true]
      refine condA_t (fun hnn => ?_) (fun hneg => ?_)
      · have hq := sqf_bnd hc m j
        have hPm := hPb m
        rw [scanB, if_neg (by omega)] at hsc
        generalize hnv : (P.getD m (0, 0)).1 + sqf w ws m j = nv at *
        have hnv' : ((pls w ws k).getD m (0, 0)).1 + sqf w ws m j = nv := hnv
        refine ⟨fun L H'' => H.le H'' ∧ H'' b = some (((pT w ws n k).set j (if m + 1 = j ∨ nv ≤ acc.1 then (nv, m) else acc)).flatMap pC), ?_, ?_⟩
        · have r0 := rows_at (k := 0) pC_len (hgetm m acc (by omega)) (by decide)
          have rj := rows_at (k := 0) pC_len (hgetj acc) (by decide)
          have l0 := load1_at (o := m * 2 + 0) hH2 r0
          have lj := load1_at (o := j * 2 + 0) hH2 rj
          have hxx := idxArr_ptr (b := b) (off := 0 + m * 2) (i := 0) (by omega)
          have hxj := idxArr_ptr (b := b) (off := 0 + j * 2) (i := 0) (by omega)
          simp only [Int.natCast_zero, Nat.add_zero, Nat.zero_add] at hxx hxj l0 lj
          simp only [idx_ref (show m < n + 1 by omega), hxx, l0, Nat.zero_add, letO_some, b104 cellsOf?_int cellsOf?_int]
          refine ⟨_, m87 (hS hle2) hc (by omega) (by omega) ⟨rfl, rfl⟩, ?_⟩
          simp only [letO_some, cellsOf?_agg, cellsOf?_int, cellsOf?_bool, cellsOf?_imm, cellsOf?_ref, cellsOf?_nils, faddr_iptr, faddr_ptr, List.drop_succ_cons, List.drop_zero, List.take_succ_cons, List.take_zero, load1_iptr, loadN_iptr, List.length_cons, List.length_nil, Nat.le_refl, if_true, List.getElem?_cons_zero, List.getElem?_cons_succ, List.getD_cons_zero, List.getD_cons_succ, extrF_tup, binF_add, binF_sub, binF_mul, binF_eql, binF_neq, binF_lss, binF_leq, binF_gtr, binF_geq, true_and]
          rw [wrap_i64 (n := ((pls w ws k).getD m (0, 0)).1 + sqf w ws m j) (by omega) (by omega), hnv']
          have fin : (m + 1 = j ∨ nv ≤ acc.1) → storeA 2 (.ptr b (j * 2)) (.agg [.int .i64 nv, .int .i64 m]) (fun H'' => H.le H'' ∧ H'' b = some (((pT w ws n k).set j (if m + 1 = j ∨ nv ≤ acc.1 then (nv, m) else acc)).flatMap pC)) H15 := by
            intro h
            refine store_row (y := (nv, m)) pC_len hH2 (by rw [hlenj]; omega) rfl rfl ⟨Heap.le_put hle2 hb, ?_⟩
            rw [Heap.put_same, List.set_set, if_pos h]
          by_cases hz : m + 1 = j
          · have : ((m : Int) == (j : Int) - 1) = true := by simp; omega
            simp only [this, gval_bool, Bool.true_eq_false, if_false, letO_some, pickF_true, condA_bool, condG_bool, true_implies, ne_eq, not_true, false_implies, and_true, b94 cellsOf?_int cellsOf?_int, idx_ref (show j < n + 1 by omega), Nat.zero_add]
            exact fin (.inl hz)
          · have : ((m : Int) == (j : Int) - 1) = false := by simp; omega
            simp only [this, gval_bool, if_true, letO_some, idx_ref (show j < n + 1 by omega), Nat.zero_add, hxj, lj, pC, List.getElem?_cons_zero, binF_leq, pickF_false, b94 cellsOf?_int cellsOf?_int]
            refine condA_t (fun hlt => ?_) (fun hge => ?_)
            · exact fin (.inr hlt)
            · rw [if_neg (by omega)]
              exact ⟨hle2, hH2⟩
        · rintro L H3 ⟨hle3, hH3⟩
          rw [wrap_i64 (by omega) (by omega)]
          refine ⟨⟨m, _, rfl, by omega, hle3, hH3, hsc, ?_, ?_⟩, by simp <;> omega⟩
          · split <;> (try simp only) <;> omega
          · split <;> (try simp only) <;> omega
      · rw [scanB, if_pos (by omega)] at hsc
        rw [wrap_i64 (by omega) (by omega)]
        exact ⟨⟨k + 1, by simp [← hj], by omega, hle2, done hsc⟩, by simp <;> omega⟩
    · have hm0 : m = 0 := by omega
      subst hm0
      have e2 : decide ((0 : Int) ≤ ((0 : Nat) : Int) - 1) = false := by decide
      simp only [e2, gval_bool, Bool.false_eq_true, if_false, letO_some]
      refine ⟨fun r h => r = .tup [] ∧ h = H2, ?_, ?_⟩
      · simp only [condA_bool, condG_bool]
        exact ⟨fun h => by simp at h, fun _ => by simp⟩
      rintro t26 H15 ⟨rfl, rfl⟩
      simp only [pickF_false, letO_some, condA_bool, condG_bool]
      refine ⟨fun h => by simp at h, fun _ => ?_⟩
      rw [wrap_i64 (by omega) (by omega)]
      exact ⟨⟨k + 1, by simp [← hj], by omega, hle2, done hsc⟩, by simp <;> omega⟩
  · have hkn' : k = n := by omega
    rw [hkn'] at hH
    have : (pT w ws n n).flatMap pC = (pls w ws n).flatMap pC := by simp [pT]
    rw [this] at hH
    refine endK_freeze hH (endK_drop (H' := H) (fun x c hx => ?_) ?_)
    · simp only [Heap.del]
      rw [if_neg (by rintro rfl; rw [hb] at hx; cases hx)]
      exact hle x c hx
    · have hl3 : ((pls w ws n).flatMap pC).length = (n + 1) * 2 := by rw [rows_len pC_len, pls_length]
      have : lift (lift (frz1 b ((pls w ws n).flatMap pC))) (.ref 2 b 0 (n + 1) (some (n + 1))) = .imm (n + 1) false ((pls w ws n).flatMap pC) := by
        simp only [lift, frz1, hl3, Nat.zero_add, Nat.le_refl, and_self, if_true, List.drop_zero]
        rw [← hl3, List.take_length]
      rw [this]
      exact hk
end Go.Proofs.Ytlajhbpkogekfaa

namespace Go.Proofs.Ytlajhbpkogekfaa
open Go.Av Line
set_option linter.unusedVariables false
set_option linter.unusedSimpArgs false
set_option maxRecDepth 4000

theorem Grow.alloc {sz : Nat} {H0 H : Heap} {v : AV} {n b : Nat} {cells cs : List AV} (h : Grow sz H0 H v n cells) (hb : H b = none) : Grow sz (H0.put b cs) (H.put b cs) v n cells := by
  refine ⟨h.1, ?_⟩
  rcases h.2 with ⟨e, e2, rfl⟩ | ⟨e, rfl⟩ | ⟨b3, hb3, e, rfl⟩
  · exact .inl ⟨e, e2, rfl⟩
  · exact .inr (.inl ⟨e, rfl⟩)
  · have hne : b3 ≠ b := Heap.ne_of (Heap.put_same) hb
    exact .inr (.inr ⟨b3, by rw [Heap.put_ne hne]; exact hb3, e, Heap.put_comm hne⟩)
theorem rows_drop {α : Type} {f : α → List AV} {sz : Nat} (hf : ∀ x, (f x).length = sz) (l : List α) (i : Nat) : (l.flatMap f).drop (i * sz) = (l.drop i).flatMap f := by
  induction i generalizing l with
  | zero => simp
  | succ i ih =>
    cases l with
    | nil => simp
    | cons a l =>
      have e : (i + 1) * sz = (f a).length + i * sz := by rw [hf, Nat.add_mul]; omega
      rw [List.flatMap_cons, e, List.drop_length_add_append, ih]
      rfl
theorem rows_take {α : Type} {f : α → List AV} {sz : Nat} (hf : ∀ x, (f x).length = sz) (l : List α) (i : Nat) : (l.flatMap f).take (i * sz) = (l.take i).flatMap f := by
  induction i generalizing l with
  | zero => simp
  | succ i ih =>
    cases l with
    | nil => simp
    | cons a l =>
      have e : (i + 1) * sz = (f a).length + i * sz := by rw [hf, Nat.add_mul]; omega
      rw [List.flatMap_cons, e, List.take_length_add_append, ih]
      rfl

def pricesL (w : Int) (ws : List Int) : List Int := ((pls w ws ws.length).take ws.length).map fun p => p.1
def startsL (w : Int) (ws : List Int) : List Int := ((pls w ws ws.length).drop 1).map fun p => (p.2 : Int)
def pricesO (w : Int) (ws : List Int) : List Int := if chk w ws = 0 then pricesL w ws else []
def startsO (w : Int) (ws : List Int) : List Int := if chk w ws = 0 then startsL w ws else []

/-- Prices -/
theorem c26 {w : Int} {v : AV} {ws : List Int} {H : Heap} {K : AV → Heap → Prop} (hv : Reads H v ws) (hlen : ws.length < 2 ^ 60) (hk : K (.tup [sl (pricesO w ws), .int .i64 (chk w ws)]) H) : ACalls Try.prog 26 [.agg [.int .i64 w, v]] H K := by
  apply W26_ok
  unfold W26
  simp only [letO_some, cellsOf?_agg, cellsOf?_int, cellsOf?_bool, cellsOf?_imm, cellsOf?_ref, cellsOf?_nils, faddr_iptr, faddr_ptr, List.drop_succ_cons, List.drop_zero, List.take_succ_cons, List.take_zero, load1_iptr, loadN_iptr, List.length_cons, List.length_nil, Nat.le_refl, if_true, List.getElem?_cons_zero, List.getElem?_cons_succ, List.getD_cons_zero, List.getD_cons_succ, extrF_tup, binF_add, binF_sub, binF_mul, binF_eql, binF_neq, binF_lss, binF_leq, binF_gtr, binF_geq, true_and]
  refine c62 hv (by omega) (fun h => ?_) fun h s H' hg _ => ?_
  · simp only [letO_some, cellsOf?_agg, cellsOf?_int, cellsOf?_bool, cellsOf?_imm, cellsOf?_ref, cellsOf?_nils, faddr_iptr, faddr_ptr, List.drop_succ_cons, List.drop_zero, List.take_succ_cons, List.take_zero, load1_iptr, loadN_iptr, List.length_cons, List.length_nil, Nat.le_refl, if_true, List.getElem?_cons_zero, List.getElem?_cons_succ, List.getD_cons_zero, List.getD_cons_succ, extrF_tup, binF_add, binF_sub, binF_mul, binF_eql, binF_neq, binF_lss, binF_leq, binF_gtr, binF_geq, true_and]
    refine alloc_store (cs := [.int .i64 0, .nils]) rfl rfl rfl rfl fun b hb => ?_
    simp only [condA_bool, condG_bool]
    rw [pricesO, if_neg h] at hk
    exact ⟨fun _ => endK_nil (Heap.le_put_self hb) hk, fun hh => by simp [h] at hh⟩
  · simp only [letO_some, cellsOf?_agg, cellsOf?_int, cellsOf?_bool, cellsOf?_imm, cellsOf?_ref, cellsOf?_nils, faddr_iptr, faddr_ptr, List.drop_succ_cons, List.drop_zero, List.take_succ_cons, List.take_zero, load1_iptr, loadN_iptr, List.length_cons, List.length_nil, Nat.le_refl, if_true, List.getElem?_cons_zero, List.getElem?_cons_succ, List.getD_cons_zero, List.getD_cons_succ, extrF_tup, binF_add, binF_sub, binF_mul, binF_eql, binF_neq, binF_lss, binF_leq, binF_gtr, binF_geq, true_and]
    obtain ⟨w1, w2, n1, n2, hws⟩ := chk_ok h
    refine alloc_store (cs := [.int .i64 w, s]) rfl (by simp only [List.all_cons, hg.scalar]; rfl) rfl rfl fun b hb => ?_
    simp only [condA_bool, condG_bool]
    refine ⟨fun hh => by simp at hh, fun _ => ?_⟩
    have hle4 : H'.le (H'.put b [.int .i64 w, s]) := Heap.le_put_self hb
    have hle4H : H.le (H'.put b [.int .i64 w, s]) := Heap.le_put hg.le (fresh_of hg.le hb)
    have hb4 : (H'.put b [.int .i64 w, s]) b = some [.int .i64 w, s] := Heap.put_same
    generalize H'.put b [.int .i64 w, s] = H4 at *
    have hL : loadN 2 (.ptr b 0) H4 = some (.agg [.int .i64 w, s]) := loadN_at (cells := [.int .i64 w, s]) hb4
    have hS : Reads H4 s (sumsN ws ws.length) := hg.reads.le hle4
    simp only [hL, letO_some]
    refine ⟨_, c67 hS h ⟨rfl, rfl⟩, _, m64 hS h ⟨rfl, rfl⟩, ?_⟩
    have hslc : slc 2 (.imm (ws.length + 1) false ((pls w ws ws.length).flatMap pC)) none (some (.int .i64 ws.length)) none = some (.imm ws.length false (((pls w ws ws.length).take ws.length).flatMap pC)) := by
      simp only [slc, natOf, Option.bind_some, Bool.false_and, Nat.zero_mul, List.drop_zero, Nat.sub_zero]
      rw [if_pos (by omega)]
      simp [rows_take pC_len]
    simp only [hslc, letO_some, lenA]
    generalize hl : (pls w ws ws.length).take ws.length = l
    have hll : l.length = ws.length := by rw [← hl]; simp
    rw [pricesO, if_pos h, pricesL, hl, sl, h] at hk
    refine ⟨fun L H5 => ∃ (i : Nat) (X : AV) (H6 : Heap), L = [X, .int .i64 i] ∧ i ≤ l.length ∧ H4.le H6 ∧ Grow 1 H6 H5 X i (ints ((l.take i).map fun p => p.1)), fun L _ => (l.length - iv L 1).toNat,
      ⟨0, .nils, H4, rfl, by omega, Heap.le_refl _, Grow.nils 1 H4⟩, ?_⟩
    intro L H5 hI
    obtain ⟨i, X, H6, rfl, hi, hle6, hgx⟩ := hI
    simp only [letO_some, cellsOf?_agg, cellsOf?_int, cellsOf?_bool, cellsOf?_imm, cellsOf?_ref, cellsOf?_nils, faddr_iptr, faddr_ptr, List.drop_succ_cons, List.drop_zero, List.take_succ_cons, List.take_zero, load1_iptr, loadN_iptr, List.length_cons, List.length_nil, Nat.le_refl, if_true, List.getElem?_cons_zero, List.getElem?_cons_succ, List.getD_cons_zero, List.getD_cons_succ, extrF_tup, binF_add, binF_sub, binF_mul, binF_eql, binF_neq, binF_lss, binF_leq, binF_gtr, binF_geq, true_and]
    have hR : ReadsC 2 H5 (.imm ws.length false (l.flatMap pC)) l.length (l.flatMap pC) := by rw [← hll]; exact ReadsC.imm (rows_len pC_len l)
    refine condA_t (fun hlt => ?_) (fun hge => ?_)
    · have hil : i < l.length := by omega
      have hx : l[i]? = some l[i] := by simp [hil]
      refine hR.getN (Heap.le_refl _) (by omega) (by omega) ?_
      rw [Int.toNat_natCast, rows_get pC_len hx]
      refine alloc_store (cs := pC l[i]) rfl rfl rfl rfl fun b2 hb2 => ?_
      have hxx := idxArr_ptr (b := b2) (off := 0) (i := 0) (by omega)
      simp only [Int.natCast_zero] at hxx
      have hl1 : load1 (.ptr b2 0) (H5.put b2 (pC l[i])) = some (.int .i64 l[i].1) := load1_at Heap.put_same rfl
      simp only [hxx, hl1, letO_some, l22 cellsOf?_int, Nat.add_zero]
      refine appendA_one (Grow.alloc hgx hb2) (by omega) fun v' H7 hg7 => ?_
      rw [wrap_i64 (by omega) (by omega)]
      refine ⟨⟨i + 1, v', _, rfl, by omega, Heap.le_trans hle6 (Heap.le_put_self (cs := pC l[i]) (fresh_of hgx.le hb2)), ?_⟩, by simp <;> omega⟩
      rw [List.take_add_one, hx, List.map_append]
      exact hg7
    · have hil : i = ws.length := by omega
      subst hil
      rw [← hll, List.take_length] at hgx
      obtain ⟨H2, hl2, hg2⟩ := hgx.shrink (Heap.le_trans hle4H hle6)
      rw [List.length_map] at hk
      exact endK_pub (Pub.drop hl2) (hg2.end2 hk)

/-- Starts -/
theorem c23 {w : Int} {v : AV} {ws : List Int} {H : Heap} {K : AV → Heap → Prop} (hv : Reads H v ws) (hlen : ws.length < 2 ^ 60) (hk : K (.tup [sl (startsO w ws), .int .i64 (chk w ws)]) H) : ACalls Try.prog 23 [.agg [.int .i64 w, v]] H K := by
  apply W23_ok
  unfold W23
  simp only [letO_some, cellsOf?_agg, cellsOf?_int, cellsOf?_bool, cellsOf?_imm, cellsOf?_ref, cellsOf?_nils, faddr_iptr, faddr_ptr, List.drop_succ_cons, List.drop_zero, List.take_succ_cons, List.take_zero, load1_iptr, loadN_iptr, List.length_cons, List.length_nil, Nat.le_refl, if_true, List.getElem?_cons_zero, List.getElem?_cons_succ, List.getD_cons_zero, List.getD_cons_succ, extrF_tup, binF_add, binF_sub, binF_mul, binF_eql, binF_neq, binF_lss, binF_leq, binF_gtr, binF_geq, true_and]
  refine c62 hv (by omega) (fun h => ?_) fun h s H' hg _ => ?_
  · simp only [letO_some, cellsOf?_agg, cellsOf?_int, cellsOf?_bool, cellsOf?_imm, cellsOf?_ref, cellsOf?_nils, faddr_iptr, faddr_ptr, List.drop_succ_cons, List.drop_zero, List.take_succ_cons, List.take_zero, load1_iptr, loadN_iptr, List.length_cons, List.length_nil, Nat.le_refl, if_true, List.getElem?_cons_zero, List.getElem?_cons_succ, List.getD_cons_zero, List.getD_cons_succ, extrF_tup, binF_add, binF_sub, binF_mul, binF_eql, binF_neq, binF_lss, binF_leq, binF_gtr, binF_geq, true_and]
    refine alloc_store (cs := [.int .i64 0, .nils]) rfl rfl rfl rfl fun b hb => ?_
    simp only [condA_bool, condG_bool]
    rw [startsO, if_neg h] at hk
    exact ⟨fun _ => endK_nil (Heap.le_put_self hb) hk, fun hh => by simp [h] at hh⟩
  · simp only [letO_some, cellsOf?_agg, cellsOf?_int, cellsOf?_bool, cellsOf?_imm, cellsOf?_ref, cellsOf?_nils, faddr_iptr, faddr_ptr, List.drop_succ_cons, List.drop_zero, List.take_succ_cons, List.take_zero, load1_iptr, loadN_iptr, List.length_cons, List.length_nil, Nat.le_refl, if_true, List.getElem?_cons_zero, List.getElem?_cons_succ, List.getD_cons_zero, List.getD_cons_succ, extrF_tup, binF_add, binF_sub, binF_mul, binF_eql, binF_neq, binF_lss, binF_leq, binF_gtr, binF_geq, true_and]
    obtain ⟨w1, w2, n1, n2, hws⟩ := chk_ok h
    refine alloc_store (cs := [.int .i64 w, s]) rfl (by simp only [List.all_cons, hg.scalar]; rfl) rfl rfl fun b hb => ?_
    simp only [condA_bool, condG_bool]
    refine ⟨fun hh => by simp at hh, fun _ => ?_⟩
    have hle4 : H'.le (H'.put b [.int .i64 w, s]) := Heap.le_put_self hb
    have hle4H : H.le (H'.put b [.int .i64 w, s]) := Heap.le_put hg.le (fresh_of hg.le hb)
    have hb4 : (H'.put b [.int .i64 w, s]) b = some [.int .i64 w, s] := Heap.put_same
    generalize H'.put b [.int .i64 w, s] = H4 at *
    have hL : loadN 2 (.ptr b 0) H4 = some (.agg [.int .i64 w, s]) := loadN_at (cells := [.int .i64 w, s]) hb4
    have hS : Reads H4 s (sumsN ws ws.length) := hg.reads.le hle4
    simp only [hL, letO_some]
    refine c67 hS h ?_
    have hslc : slc 2 (.imm (ws.length + 1) false ((pls w ws ws.length).flatMap pC)) (some (.int .i64 1)) none none = some (.imm ws.length false (((pls w ws ws.length).drop 1).flatMap pC)) := by
      have e : natOf (some (.int .i64 1)) 0 = some 1 := by simp [natOf]
      have e2 : natOf none (ws.length + 1) = some (ws.length + 1) := rfl
      simp only [slc, e, e2, Option.bind_some, Bool.false_and]
      rw [if_pos (by omega), rows_drop pC_len, List.take_of_length_le (by rw [rows_len pC_len]; simp <;> omega), Nat.add_sub_cancel]
    simp only [hslc, letO_some, lenA]
    generalize hl : (pls w ws ws.length).drop 1 = l
    have hll : l.length = ws.length := by rw [← hl]; simp
    rw [startsO, if_pos h, startsL, hl, sl, h] at hk
    refine ⟨fun L H5 => ∃ (i : Nat) (X : AV) (H6 : Heap), L = [X, .int .i64 i] ∧ i ≤ l.length ∧ H4.le H6 ∧ Grow 1 H6 H5 X i (ints ((l.take i).map fun p => (p.2 : Int))), fun L _ => (l.length - iv L 1).toNat,
      ⟨0, .nils, H4, rfl, by omega, Heap.le_refl _, Grow.nils 1 H4⟩, ?_⟩
    intro L H5 hI
    obtain ⟨i, X, H6, rfl, hi, hle6, hgx⟩ := hI
    simp only [letO_some, cellsOf?_agg, cellsOf?_int, cellsOf?_bool, cellsOf?_imm, cellsOf?_ref, cellsOf?_nils, faddr_iptr, faddr_ptr, List.drop_succ_cons, List.drop_zero, List.take_succ_cons, List.take_zero, load1_iptr, loadN_iptr, List.length_cons, List.length_nil, Nat.le_refl, if_true, List.getElem?_cons_zero, List.getElem?_cons_succ, List.getD_cons_zero, List.getD_cons_succ, extrF_tup, binF_add, binF_sub, binF_mul, binF_eql, binF_neq, binF_lss, binF_leq, binF_gtr, binF_geq, true_and]
    have hR : ReadsC 2 H5 (.imm ws.length false (l.flatMap pC)) l.length (l.flatMap pC) := by rw [← hll]; exact ReadsC.imm (rows_len pC_len l)
    refine condA_t (fun hlt => ?_) (fun hge => ?_)
    · have hil : i < l.length := by omega
      have hx : l[i]? = some l[i] := by simp [hil]
      refine hR.getN (Heap.le_refl _) (by omega) (by omega) ?_
      rw [Int.toNat_natCast, rows_get pC_len hx]
      refine alloc_store (cs := pC l[i]) rfl rfl rfl rfl fun b2 hb2 => ?_
      have hxx : idxArr 2 1 (.ptr b2 0) (.int .i64 1) = some (.ptr b2 1) := by simp [idxArr]
      have hl1 : load1 (.ptr b2 1) (H5.put b2 (pC l[i])) = some (.int .i64 l[i].2) := load1_at Heap.put_same rfl
      simp only [hxx, hl1, letO_some, l22 cellsOf?_int, Nat.add_zero]
      refine appendA_one (Grow.alloc hgx hb2) (by omega) fun v' H7 hg7 => ?_
      rw [wrap_i64 (by omega) (by omega)]
      refine ⟨⟨i + 1, v', _, rfl, by omega, Heap.le_trans hle6 (Heap.le_put_self (cs := pC l[i]) (fresh_of hgx.le hb2)), ?_⟩, by simp <;> omega⟩
      rw [List.take_add_one, hx, List.map_append]
      exact hg7
    · have hil : i = ws.length := by omega
      subst hil
      rw [← hll, List.take_length] at hgx
      obtain ⟨H2, hl2, hg2⟩ := hgx.shrink (Heap.le_trans hle4H hle6)
      rw [List.length_map] at hk
      exact endK_pub (Pub.drop hl2) (hg2.end2 hk)
end Go.Proofs.Ytlajhbpkogekfaa

namespace Go.Proofs.Ytlajhbpkogekfaa
open Go.Av Line
set_option linter.unusedVariables false
set_option linter.unusedSimpArgs false
set_option maxRecDepth 4000

/-- slices.IndexFunc of numbers -/
theorem c95 {v : AV} {l : List Int} {p : Int → Bool} {fid : FuncId} {caps : List AV} {H : Heap} {K : AV → Heap → Prop} (hv : Reads H v l) (hl : l.length < 2 ^ 60)
    (hf : ∀ x ∈ l, ∀ K, K (.bool (p x)) H → ACalls Try.prog fid ([.int .i64 x] ++ caps) H K) (hk : K (.int .i64 (match l.findIdx? p with | some i => (i : Int) | none => -1)) H) : ACalls Try.prog 95 [v, .fn fid caps] H K := by
  apply W95_ok
  unfold W95
  simp only [letO_some, cellsOf?_agg, cellsOf?_int, cellsOf?_bool, cellsOf?_imm, cellsOf?_ref, cellsOf?_nils, faddr_iptr, faddr_ptr, List.drop_succ_cons, List.drop_zero, List.take_succ_cons, List.take_zero, load1_iptr, loadN_iptr, List.length_cons, List.length_nil, Nat.le_refl, if_true, List.getElem?_cons_zero, List.getElem?_cons_succ, List.getD_cons_zero, List.getD_cons_succ, extrF_tup, binF_add, binF_sub, binF_mul, binF_eql, binF_neq, binF_lss, binF_leq, binF_gtr, binF_geq, true_and, hv.len]
  refine ⟨fun L H' => ∃ (i : Nat), L = [.int .i64 i] ∧ H' = H ∧ i ≤ l.length ∧ ∀ j x, j < i → l[j]? = some x → p x = false, fun L _ => (l.length - iv L 0).toNat, ⟨0, rfl, rfl, by omega, fun j x h => by omega⟩, ?_⟩
  intro L H' hI
  obtain ⟨i, rfl, rfl, hi, hall⟩ := hI
  simp only [letO_some, cellsOf?_agg, cellsOf?_int, cellsOf?_bool, cellsOf?_imm, cellsOf?_ref, cellsOf?_nils, faddr_iptr, faddr_ptr, List.drop_succ_cons, List.drop_zero, List.take_succ_cons, List.take_zero, load1_iptr, loadN_iptr, List.length_cons, List.length_nil, Nat.le_refl, if_true, List.getElem?_cons_zero, List.getElem?_cons_succ, List.getD_cons_zero, List.getD_cons_succ, extrF_tup, binF_add, binF_sub, binF_mul, binF_eql, binF_neq, binF_lss, binF_leq, binF_gtr, binF_geq, true_and]
  refine condA_t (fun hlt => ?_) (fun hge => ?_)
  · have hil : i < l.length := by omega
    have hx : l[i]? = some l[i] := by simp [hil]
    refine hv.get (Heap.le_refl _) (by omega) hlt ?_
    have hg : l.getD (i : Int).toNat 0 = l[i] := by rw [Int.toNat_natCast, List.getD_eq_getElem?_getD, hx]; rfl
    rw [hg]
    simp only [callA_fn]
    refine hf l[i] (by simp) _ ?_
    simp only [condA_bool, condG_bool]
    refine ⟨fun hp => ?_, fun hp => ?_⟩
    · refine endK_ret ?_
      have : l.findIdx? p = some i := by
        rw [List.findIdx?_eq_some_iff_getElem]
        refine ⟨hil, hp, fun j hj => ?_⟩
        have := hall j (l[j]'(by omega)) hj (by simp)
        simpa using this
      rw [this] at hk
      exact hk
    · rw [wrap_i64 (by omega) (by omega)]
      try simp only [true_and]
      refine ⟨⟨i + 1, by simp, by omega, fun j x hj hx' => ?_⟩, by simp <;> omega⟩
      by_cases hji : j = i
      · subst hji
        rw [hx] at hx'
        cases hx'
        simpa using hp
      · exact hall j x (by omega) hx'
  · have : i = l.length := by omega
    subst this
    refine endK_ret ?_
    have : l.findIdx? p = none := by
      rw [List.findIdx?_eq_none_iff]
      intro x hx
      obtain ⟨j, hj, rfl⟩ := List.mem_iff_getElem.1 hx
      exact hall j _ hj (by simp [hj])
    rw [this] at hk
    exact hk

theorem findIdx_any {α : Type} (l : List α) (p : α → Bool) : decide (0 ≤ (match l.findIdx? p with | some i => (i : Int) | none => -1)) = l.any p := by
  cases h : l.findIdx? p with
  | none =>
    rw [List.findIdx?_eq_none_iff] at h
    have : l.any p = false := by simpa using h
    simp [this]
  | some i =>
    rw [List.findIdx?_eq_some_iff_getElem] at h
    obtain ⟨h1, h2, _⟩ := h
    have : l.any p = true := List.any_eq_true.2 ⟨l[i], by simp, h2⟩
    simp [this]

/-- slices.ContainsFunc of numbers -/
theorem c89 {v : AV} {l : List Int} {p : Int → Bool} {fid : FuncId} {caps : List AV} {H : Heap} {K : AV → Heap → Prop} (hv : Reads H v l) (hl : l.length < 2 ^ 60)
    (hf : ∀ x ∈ l, ∀ K, K (.bool (p x)) H → ACalls Try.prog fid ([.int .i64 x] ++ caps) H K) (hk : K (.bool (l.any p)) H) : ACalls Try.prog 89 [v, .fn fid caps] H K := by
  apply W89_ok
  unfold W89
  simp only [letO_some, cellsOf?_agg, cellsOf?_int, cellsOf?_bool, cellsOf?_imm, cellsOf?_ref, cellsOf?_nils, faddr_iptr, faddr_ptr, List.drop_succ_cons, List.drop_zero, List.take_succ_cons, List.take_zero, load1_iptr, loadN_iptr, List.length_cons, List.length_nil, Nat.le_refl, if_true, List.getElem?_cons_zero, List.getElem?_cons_succ, List.getD_cons_zero, List.getD_cons_succ, extrF_tup, binF_add, binF_sub, binF_mul, binF_eql, binF_neq, binF_lss, binF_leq, binF_gtr, binF_geq, true_and]
  refine c95 hv hl hf ?_
  simp only [letO_some, cellsOf?_agg, cellsOf?_int, cellsOf?_bool, cellsOf?_imm, cellsOf?_ref, cellsOf?_nils, faddr_iptr, faddr_ptr, List.drop_succ_cons, List.drop_zero, List.take_succ_cons, List.take_zero, load1_iptr, loadN_iptr, List.length_cons, List.length_nil, Nat.le_refl, if_true, List.getElem?_cons_zero, List.getElem?_cons_succ, List.getD_cons_zero, List.getD_cons_succ, extrF_tup, binF_add, binF_sub, binF_mul, binF_eql, binF_neq, binF_lss, binF_leq, binF_gtr, binF_geq, true_and]
  rw [findIdx_any]
  exact endK_ret hk

def badP (x : Int) : Bool := decide (x < 0 ∨ 20000 < x)
theorem c90 {x : Int} {H : Heap} {K : AV → Heap → Prop} (hk : K (.bool (badP x)) H) : ACalls Try.prog 90 [.int .i64 x] H K := by
  apply W90_ok
  unfold W90
  simp only [letO_some, cellsOf?_agg, cellsOf?_int, cellsOf?_bool, cellsOf?_imm, cellsOf?_ref, cellsOf?_nils, faddr_iptr, faddr_ptr, List.drop_succ_cons, List.drop_zero, List.take_succ_cons, List.take_zero, load1_iptr, loadN_iptr, List.length_cons, List.length_nil, Nat.le_refl, if_true, List.getElem?_cons_zero, List.getElem?_cons_succ, List.getD_cons_zero, List.getD_cons_succ, extrF_tup, binF_add, binF_sub, binF_mul, binF_eql, binF_neq, binF_lss, binF_leq, binF_gtr, binF_geq, true_and]
  unfold badP at hk
  by_cases h : x < 0
  · simp only [h, decide_true, gval_bool, Bool.true_eq_false, if_false, letO_some, pickF_true]
    exact endK_ret (by simpa [h] using hk)
  · simp only [h, decide_false, gval_bool, if_true, letO_some, binF_gtr, pickF_false]
    exact endK_ret (by simpa [h] using hk)

/-- What prices prove: the places behind one. -/
def bndJ (w : Int) (ws P : List Int) (i : Nat) : Nat → Nat → Int → Option Int
  | 0, _, least => some least
  | f + 1, j, least => if lf w ws i j < 0 then some least else
      if j = ws.length then bndJ w ws P i f (j + 1) (if P.getD i 0 < least then P.getD i 0 else least) else
      if P.getD i 0 + sqf w ws i j < P.getD j 0 then none else bndJ w ws P i f (j + 1) least
def bndI (w : Int) (ws P : List Int) : Nat → Nat → Int → Option Int
  | 0, _, least => some least
  | f + 1, i, least => (bndJ w ws P i (ws.length - i) (i + 1) least).bind fun l => bndI w ws P f (i + 1) l
def bndR (w : Int) (ws P : List Int) : Int × Int :=
  if P.length ≠ ws.length then (0, 5) else if P.any badP then (0, 1) else if P.getD 0 0 ≠ 0 then (0, 14) else match bndI w ws P ws.length 0 20000 with
    | some l => (l, 0)
    | none => (0, 14)

/-- bound -/
theorem c70 {w : Int} {s v : AV} {ws P : List Int} {H : Heap} {K : AV → Heap → Prop} (hs : Reads H s (sumsN ws ws.length)) (hc : chk w ws = 0) (hv : Reads H v P) (hlP : P.length < 2 ^ 60)
    (hk : K (.tup [.int .i64 (bndR w ws P).1, .int .i64 (bndR w ws P).2]) H) : ACalls Try.prog 70 [.agg [.int .i64 w, s], v] H K := by
  apply W70_ok
  unfold W70
  obtain ⟨w1, w2, n1, n2, hws⟩ := chk_ok hc
  simp only [letO_some, cellsOf?_agg, cellsOf?_int, cellsOf?_bool, cellsOf?_imm, cellsOf?_ref, cellsOf?_nils, faddr_iptr, faddr_ptr, List.drop_succ_cons, List.drop_zero, List.take_succ_cons, List.take_zero, load1_iptr, loadN_iptr, List.length_cons, List.length_nil, Nat.le_refl, if_true, List.getElem?_cons_zero, List.getElem?_cons_succ, List.getD_cons_zero, List.getD_cons_succ, extrF_tup, binF_add, binF_sub, binF_mul, binF_eql, binF_neq, binF_lss, binF_leq, binF_gtr, binF_geq, true_and]
  refine m64 hs hc ?_
  simp only [letO_some, cellsOf?_agg, cellsOf?_int, cellsOf?_bool, cellsOf?_imm, cellsOf?_ref, cellsOf?_nils, faddr_iptr, faddr_ptr, List.drop_succ_cons, List.drop_zero, List.take_succ_cons, List.take_zero, load1_iptr, loadN_iptr, List.length_cons, List.length_nil, Nat.le_refl, if_true, List.getElem?_cons_zero, List.getElem?_cons_succ, List.getD_cons_zero, List.getD_cons_succ, extrF_tup, binF_add, binF_sub, binF_mul, binF_eql, binF_neq, binF_lss, binF_leq, binF_gtr, binF_geq, true_and, hv.len, condA_bool, condG_bool]
  refine ⟨fun h5 => ?_, fun h5 => ?_⟩
  · have h5 : P.length ≠ ws.length := by simp at h5; omega
    rw [bndR, if_pos h5] at hk
    exact endK_ret hk
  have h5 : P.length = ws.length := by simp at h5; omega
  refine c89 hv hlP (fun x hx K hK => c90 hK) ?_
  simp only [condA_bool, condG_bool]
  refine ⟨fun h6 => ?_, fun h6 => ?_⟩
  · rw [bndR, if_neg (by omega), if_pos h6] at hk
    exact endK_ret hk
  refine hv.get (Heap.le_refl _) (by omega) (by omega) ?_
  simp only [letO_some, cellsOf?_agg, cellsOf?_int, cellsOf?_bool, cellsOf?_imm, cellsOf?_ref, cellsOf?_nils, faddr_iptr, faddr_ptr, List.drop_succ_cons, List.drop_zero, List.take_succ_cons, List.take_zero, load1_iptr, loadN_iptr, List.length_cons, List.length_nil, Nat.le_refl, if_true, List.getElem?_cons_zero, List.getElem?_cons_succ, List.getD_cons_zero, List.getD_cons_succ, extrF_tup, binF_add, binF_sub, binF_mul, binF_eql, binF_neq, binF_lss, binF_leq, binF_gtr, binF_geq, true_and, condA_bool, condG_bool, Int.toNat_zero]
  refine ⟨fun h7 => ?_, fun h7 => ?_⟩
  · have h7 : P.getD 0 0 ≠ 0 := by simpa using h7
    rw [bndR, if_neg (by omega), if_neg h6, if_pos h7] at hk
    exact endK_ret hk
  have h7 : P.getD 0 0 = 0 := by simpa using h7
  rw [bndR, if_neg (by omega), if_neg h6, if_neg (by omega)] at hk
  have hP : ∀ i, 0 ≤ P.getD i 0 ∧ P.getD i 0 ≤ 20000 := by
    intro i
    rw [List.getD_eq_getElem?_getD]
    cases hx : P[i]? with
    | none => simp
    | some x =>
      have : P.any badP = false := by simpa using h6
      rw [List.any_eq_false] at this
      have := this x (List.mem_of_getElem? hx)
      simp [badP] at this
      simp; omega
  refine ⟨fun L H' => ∃ (i : Nat) (least : Int), L = [.int .i64 least, .int .i64 i] ∧ H' = H ∧ i ≤ P.length ∧ bndI w ws P ws.length 0 20000 = bndI w ws P (ws.length - i) i least, fun L _ => (P.length - iv L 1).toNat,
    ⟨0, 20000, rfl, rfl, by omega, by simp⟩, ?_⟩
  intro L H' hI
  obtain ⟨i, least, rfl, rfl, hi, hE⟩ := hI
  simp only [letO_some, cellsOf?_agg, cellsOf?_int, cellsOf?_bool, cellsOf?_imm, cellsOf?_ref, cellsOf?_nils, faddr_iptr, faddr_ptr, List.drop_succ_cons, List.drop_zero, List.take_succ_cons, List.take_zero, load1_iptr, loadN_iptr, List.length_cons, List.length_nil, Nat.le_refl, if_true, List.getElem?_cons_zero, List.getElem?_cons_succ, List.getD_cons_zero, List.getD_cons_succ, extrF_tup, binF_add, binF_sub, binF_mul, binF_eql, binF_neq, binF_lss, binF_leq, binF_gtr, binF_geq, true_and]
  refine condA_t (fun hlt => ?_) (fun hge => ?_)
  · have hil : i < P.length := by omega
    refine hv.get (Heap.le_refl _) (by omega) (by omega) ?_
    simp only [letO_some, cellsOf?_agg, cellsOf?_int, cellsOf?_bool, cellsOf?_imm, cellsOf?_ref, cellsOf?_nils, faddr_iptr, faddr_ptr, List.drop_succ_cons, List.drop_zero, List.take_succ_cons, List.take_zero, load1_iptr, loadN_iptr, List.length_cons, List.length_nil, Nat.le_refl, if_true, List.getElem?_cons_zero, List.getElem?_cons_succ, List.getD_cons_zero, List.getD_cons_succ, extrF_tup, binF_add, binF_sub, binF_mul, binF_eql, binF_neq, binF_lss, binF_leq, binF_gtr, binF_geq, true_and, Int.toNat_natCast]
    rw [wrap_i64 (by omega) (by omega)]
    rw [show ws.length - i = (ws.length - (i + 1)) + 1 by omega, bndI, show ws.length - i = ws.length + 1 - (i + 1) by omega] at hE
    have hPi := hP i
    refine ⟨fun L H'' => ∃ (j : Nat) (l : Int), L = [.int .i64 l, .int .i64 j] ∧ H'' = H' ∧ i < j ∧ j ≤ ws.length + 1 ∧
        bndJ w ws P i (ws.length + 1 - (i + 1)) (i + 1) least = bndJ w ws P i (ws.length + 1 - j) j l, fun L _ => (ws.length + 1 - iv L 1).toNat,
      ⟨i + 1, least, by simp, rfl, by omega, by omega, rfl⟩, ?_⟩
    intro L H'' hJ
    obtain ⟨j, l, rfl, rfl, hij, hjn, hE2⟩ := hJ
    simp only [letO_some, cellsOf?_agg, cellsOf?_int, cellsOf?_bool, cellsOf?_imm, cellsOf?_ref, cellsOf?_nils, faddr_iptr, faddr_ptr, List.drop_succ_cons, List.drop_zero, List.take_succ_cons, List.take_zero, load1_iptr, loadN_iptr, List.length_cons, List.length_nil, Nat.le_refl, if_true, List.getElem?_cons_zero, List.getElem?_cons_succ, List.getD_cons_zero, List.getD_cons_succ, extrF_tup, binF_add, binF_sub, binF_mul, binF_eql, binF_neq, binF_lss, binF_leq, binF_gtr, binF_geq, true_and]
    by_cases hj : j ≤ ws.length
    · have e2 : decide ((j : Int) ≤ (ws.length : Int)) = true := by simp; omega
      simp only [e2, gval_bool, if_true, letO_some, b104 cellsOf?_int cellsOf?_int]
      refine ⟨fun r h => r = .int .i64 (lf w ws i j) ∧ h = H'', ?_, ?_⟩
      · simp only [condA_bool, condG_bool]
        exact ⟨fun _ => m81 hs hc (by omega) (by omega) ⟨rfl, rfl⟩, fun h => absurd rfl h⟩
      rintro t26 H15 ⟨rfl, rfl⟩
      simp only [letO_some, cellsOf?_agg, cellsOf?_int, cellsOf?_bool, cellsOf?_imm, cellsOf?_ref, cellsOf?_nils, faddr_iptr, faddr_ptr, List.drop_succ_cons, List.drop_zero, List.take_succ_cons, List.take_zero, load1_iptr, loadN_iptr, List.length_cons, List.length_nil, Nat.le_refl, if_true, List.getElem?_cons_zero, List.getElem?_cons_succ, List.getD_cons_zero, List.getD_cons_succ, extrF_tup, binF_add, binF_sub, binF_mul, binF_eql, binF_neq, binF_lss, binF_leq, binF_gtr, binF_geq, true_and, pickF_true]
      rw [show ws.length + 1 - j = (ws.length - j) + 1 by omega, bndJ] at hE2
      refine condA_t (fun hnn => ?_) (fun hneg => ?_)
      · rw [if_neg (by omega)] at hE2
        have hend : (∃ l', bndJ w ws P i (ws.length + 1 - (i + 1)) (i + 1) least = bndJ w ws P i (ws.length - j) (j + 1) l' ∧ True) → True := fun _ => trivial
        refine ⟨fun L h => ∃ l', L = [.int .i64 l'] ∧ h = H15 ∧ bndJ w ws P i (ws.length + 1 - (i + 1)) (i + 1) least = bndJ w ws P i (ws.length - j) (j + 1) l', ?_, ?_⟩
        · simp only [condA_bool, condG_bool]
          refine ⟨fun he => ?_, fun he => ?_⟩
          · have he : j = ws.length := by simp at he; omega
            rw [if_pos he] at hE2
            simp only [min2F, letO_some, true_and]
            exact ⟨_, rfl, hE2⟩
          · have he : ¬ j = ws.length := by simp at he; omega
            rw [if_neg he] at hE2
            refine hv.get (Heap.le_refl _) (by omega) (by omega) ?_
            simp only [Int.toNat_natCast]
            refine ⟨_, m87 hs hc (by omega) (by omega) ⟨rfl, rfl⟩, ?_⟩
            have hq := sqf_bnd hc i j
            simp only [letO_some, cellsOf?_agg, cellsOf?_int, cellsOf?_bool, cellsOf?_imm, cellsOf?_ref, cellsOf?_nils, faddr_iptr, faddr_ptr, List.drop_succ_cons, List.drop_zero, List.take_succ_cons, List.take_zero, load1_iptr, loadN_iptr, List.length_cons, List.length_nil, Nat.le_refl, if_true, List.getElem?_cons_zero, List.getElem?_cons_succ, List.getD_cons_zero, List.getD_cons_succ, extrF_tup, binF_add, binF_sub, binF_mul, binF_eql, binF_neq, binF_lss, binF_leq, binF_gtr, binF_geq, true_and]
            rw [wrap_i64 (by omega) (by omega)]
            refine condA_t (fun hgt => ?_) (fun hle => ?_)
            · rw [if_pos hgt] at hE2
              rw [hE, hE2] at hk
              exact endK_ret hk
            · rw [if_neg hle] at hE2
              try simp only [true_and]
              exact ⟨_, rfl, hE2⟩
        · rintro L h ⟨l', rfl, rfl, hE3⟩
          try rw [wrap_i64 (by omega) (by omega)]
          try simp only [true_and]
          refine ⟨⟨j + 1, l', by simp, by omega, by omega, ?_⟩, by simp <;> omega⟩
          rw [hE3, show ws.length + 1 - (j + 1) = ws.length - j by omega]
      · rw [if_pos (by omega)] at hE2
        try simp only [true_and]
        refine ⟨⟨i + 1, l, by simp, by omega, ?_⟩, by simp <;> omega⟩
        rw [hE, hE2]
        rfl
    · have e2 : decide ((j : Int) ≤ (ws.length : Int)) = false := by simp; omega
      simp only [e2, gval_bool, Bool.false_eq_true, if_false, letO_some]
      refine ⟨fun r h => r = .tup [] ∧ h = H'', ?_, ?_⟩
      · simp only [condA_bool, condG_bool]
        exact ⟨fun h => by simp at h, fun _ => by simp⟩
      rintro t26 H15 ⟨rfl, rfl⟩
      simp only [pickF_false, letO_some, condA_bool, condG_bool]
      refine ⟨fun h => by simp at h, fun _ => ?_⟩
      try simp only [true_and]
      refine ⟨⟨i + 1, l, by simp, by omega, ?_⟩, by simp <;> omega⟩
      rw [hE, hE2, show ws.length + 1 - j = 0 by omega]
      rfl
  · rw [show ws.length - i = 0 by omega] at hE
    rw [hE] at hk
    exact endK_ret hk

def boundO (w : Int) (ws P : List Int) : Int × Int := if chk w ws = 0 then bndR w ws P else (0, chk w ws)
/-- Bound -/
theorem c28 {w : Int} {v u : AV} {ws P : List Int} {H : Heap} {K : AV → Heap → Prop} (hv : Reads H v ws) (hu : Reads H u P) (hlen : ws.length < 2 ^ 60) (hlen2 : P.length < 2 ^ 60)
    (hk : K (.tup [.int .i64 (boundO w ws P).1, .int .i64 (boundO w ws P).2]) H) : ACalls Try.prog 28 [.agg [.int .i64 w, v], u] H K := by
  apply W28_ok
  unfold W28
  simp only [letO_some, cellsOf?_agg, cellsOf?_int, cellsOf?_bool, cellsOf?_imm, cellsOf?_ref, cellsOf?_nils, faddr_iptr, faddr_ptr, List.drop_succ_cons, List.drop_zero, List.take_succ_cons, List.take_zero, load1_iptr, loadN_iptr, List.length_cons, List.length_nil, Nat.le_refl, if_true, List.getElem?_cons_zero, List.getElem?_cons_succ, List.getD_cons_zero, List.getD_cons_succ, extrF_tup, binF_add, binF_sub, binF_mul, binF_eql, binF_neq, binF_lss, binF_leq, binF_gtr, binF_geq, true_and]
  refine c62 hv (by omega) (fun h => ?_) fun h s H' hg _ => ?_
  · simp only [letO_some, cellsOf?_agg, cellsOf?_int, cellsOf?_bool, cellsOf?_imm, cellsOf?_ref, cellsOf?_nils, faddr_iptr, faddr_ptr, List.drop_succ_cons, List.drop_zero, List.take_succ_cons, List.take_zero, load1_iptr, loadN_iptr, List.length_cons, List.length_nil, Nat.le_refl, if_true, List.getElem?_cons_zero, List.getElem?_cons_succ, List.getD_cons_zero, List.getD_cons_succ, extrF_tup, binF_add, binF_sub, binF_mul, binF_eql, binF_neq, binF_lss, binF_leq, binF_gtr, binF_geq, true_and]
    refine alloc_store (cs := [.int .i64 0, .nils]) rfl rfl rfl rfl fun b hb => ?_
    simp only [condA_bool, condG_bool]
    rw [boundO, if_neg h] at hk
    exact ⟨fun _ => endK_drop (Heap.le_put_self hb) hk, fun hh => by simp [h] at hh⟩
  · simp only [letO_some, cellsOf?_agg, cellsOf?_int, cellsOf?_bool, cellsOf?_imm, cellsOf?_ref, cellsOf?_nils, faddr_iptr, faddr_ptr, List.drop_succ_cons, List.drop_zero, List.take_succ_cons, List.take_zero, load1_iptr, loadN_iptr, List.length_cons, List.length_nil, Nat.le_refl, if_true, List.getElem?_cons_zero, List.getElem?_cons_succ, List.getD_cons_zero, List.getD_cons_succ, extrF_tup, binF_add, binF_sub, binF_mul, binF_eql, binF_neq, binF_lss, binF_leq, binF_gtr, binF_geq, true_and]
    refine alloc_store (cs := [.int .i64 w, s]) rfl (by simp only [List.all_cons, hg.scalar]; rfl) rfl rfl fun b hb => ?_
    simp only [condA_bool, condG_bool]
    refine ⟨fun hh => by simp at hh, fun _ => ?_⟩
    have hle4 : H'.le (H'.put b [.int .i64 w, s]) := Heap.le_put_self hb
    have hle4H : H.le (H'.put b [.int .i64 w, s]) := Heap.le_put hg.le (fresh_of hg.le hb)
    rw [show loadN 2 (.ptr b 0) (H'.put b [.int .i64 w, s]) = some (.agg [.int .i64 w, s]) from loadN_at Heap.put_same]
    simp only [letO_some]
    refine c70 (hg.reads.le hle4) h (hu.le hle4H) hlen2 ?_
    simp only [letO_some, cellsOf?_agg, cellsOf?_int, cellsOf?_bool, cellsOf?_imm, cellsOf?_ref, cellsOf?_nils, faddr_iptr, faddr_ptr, List.drop_succ_cons, List.drop_zero, List.take_succ_cons, List.take_zero, load1_iptr, loadN_iptr, List.length_cons, List.length_nil, Nat.le_refl, if_true, List.getElem?_cons_zero, List.getElem?_cons_succ, List.getD_cons_zero, List.getD_cons_succ, extrF_tup, binF_add, binF_sub, binF_mul, binF_eql, binF_neq, binF_lss, binF_leq, binF_gtr, binF_geq, true_and]
    rw [boundO, if_pos h] at hk
    exact endK_drop hle4H hk

def provesO (w : Int) (ws ends P : List Int) : Int := if endedE w ws ends = 0 then (if (bndR w ws P).2 ≠ 0 then (bndR w ws P).2 else if (bndR w ws P).1 ≠ costE w ws ends then 14 else 0) else endedE w ws ends
/-- Proves -/
theorem c30 {w : Int} {v u p : AV} {ws ends P : List Int} {H : Heap} {K : AV → Heap → Prop} (hv : Reads H v ws) (hu : Reads H u ends) (hp : Reads H p P) (hlen : ws.length < 2 ^ 60) (hlen2 : ends.length < 2 ^ 60) (hlen3 : P.length < 2 ^ 60)
    (hk : K (.int .i64 (provesO w ws ends P)) H) : ACalls Try.prog 30 [.agg [.int .i64 w, v], u, p] H K := by
  apply W30_ok
  unfold W30
  simp only [letO_some, cellsOf?_agg, cellsOf?_int, cellsOf?_bool, cellsOf?_imm, cellsOf?_ref, cellsOf?_nils, faddr_iptr, faddr_ptr, List.drop_succ_cons, List.drop_zero, List.take_succ_cons, List.take_zero, load1_iptr, loadN_iptr, List.length_cons, List.length_nil, Nat.le_refl, if_true, List.getElem?_cons_zero, List.getElem?_cons_succ, List.getD_cons_zero, List.getD_cons_succ, extrF_tup, binF_add, binF_sub, binF_mul, binF_eql, binF_neq, binF_lss, binF_leq, binF_gtr, binF_geq, true_and]
  refine c72 hv hu hlen hlen2 (fun h a s hs => ?_) fun h s H' hg _ => ?_
  · simp only [letO_some, cellsOf?_agg, cellsOf?_int, cellsOf?_bool, cellsOf?_imm, cellsOf?_ref, cellsOf?_nils, faddr_iptr, faddr_ptr, List.drop_succ_cons, List.drop_zero, List.take_succ_cons, List.take_zero, load1_iptr, loadN_iptr, List.length_cons, List.length_nil, Nat.le_refl, if_true, List.getElem?_cons_zero, List.getElem?_cons_succ, List.getD_cons_zero, List.getD_cons_succ, extrF_tup, binF_add, binF_sub, binF_mul, binF_eql, binF_neq, binF_lss, binF_leq, binF_gtr, binF_geq, true_and]
    refine alloc_store (cs := [.int .i64 a, s]) rfl (by simp only [List.all_cons, hs]; rfl) rfl rfl fun b hb => ?_
    simp only [condA_bool, condG_bool]
    rw [provesO, if_neg h] at hk
    exact ⟨fun _ => endK_drop (Heap.le_put_self hb) hk, fun hh => by simp [h] at hh⟩
  · simp only [letO_some, cellsOf?_agg, cellsOf?_int, cellsOf?_bool, cellsOf?_imm, cellsOf?_ref, cellsOf?_nils, faddr_iptr, faddr_ptr, List.drop_succ_cons, List.drop_zero, List.take_succ_cons, List.take_zero, load1_iptr, loadN_iptr, List.length_cons, List.length_nil, Nat.le_refl, if_true, List.getElem?_cons_zero, List.getElem?_cons_succ, List.getD_cons_zero, List.getD_cons_succ, extrF_tup, binF_add, binF_sub, binF_mul, binF_eql, binF_neq, binF_lss, binF_leq, binF_gtr, binF_geq, true_and]
    refine alloc_store (cs := [.int .i64 w, s]) rfl (by simp only [List.all_cons, hg.scalar]; rfl) rfl rfl fun b hb => ?_
    simp only [condA_bool, condG_bool]
    refine ⟨fun hh => by simp at hh, fun _ => ?_⟩
    have hle4 : H'.le (H'.put b [.int .i64 w, s]) := Heap.le_put_self hb
    have hle4H : H.le (H'.put b [.int .i64 w, s]) := Heap.le_put hg.le (fresh_of hg.le hb)
    have hL : loadN 2 (.ptr b 0) (H'.put b [.int .i64 w, s]) = some (.agg [.int .i64 w, s]) := loadN_at Heap.put_same
    simp only [hL, letO_some]
    rw [provesO, if_pos h] at hk
    refine c70 (hg.reads.le hle4) (ended_ok h).1 (hp.le hle4H) hlen3 ?_
    simp only [letO_some, cellsOf?_agg, cellsOf?_int, cellsOf?_bool, cellsOf?_imm, cellsOf?_ref, cellsOf?_nils, faddr_iptr, faddr_ptr, List.drop_succ_cons, List.drop_zero, List.take_succ_cons, List.take_zero, load1_iptr, loadN_iptr, List.length_cons, List.length_nil, Nat.le_refl, if_true, List.getElem?_cons_zero, List.getElem?_cons_succ, List.getD_cons_zero, List.getD_cons_succ, extrF_tup, binF_add, binF_sub, binF_mul, binF_eql, binF_neq, binF_lss, binF_leq, binF_gtr, binF_geq, true_and, condA_bool, condG_bool]
    refine ⟨fun he => ?_, fun he => ?_⟩
    · have he : (bndR w ws P).2 ≠ 0 := by simpa using he
      rw [if_pos he] at hk
      exact endK_drop hle4H hk
    · have he : ¬ (bndR w ws P).2 ≠ 0 := by simpa using he
      rw [if_neg he] at hk
      simp only [hL, letO_some]
      refine m73 (hg.reads.le hle4) h ?_
      simp only [letO_some, cellsOf?_agg, cellsOf?_int, cellsOf?_bool, cellsOf?_imm, cellsOf?_ref, cellsOf?_nils, faddr_iptr, faddr_ptr, List.drop_succ_cons, List.drop_zero, List.take_succ_cons, List.take_zero, load1_iptr, loadN_iptr, List.length_cons, List.length_nil, Nat.le_refl, if_true, List.getElem?_cons_zero, List.getElem?_cons_succ, List.getD_cons_zero, List.getD_cons_succ, extrF_tup, binF_add, binF_sub, binF_mul, binF_eql, binF_neq, binF_lss, binF_leq, binF_gtr, binF_geq, true_and, condA_bool, condG_bool]
      refine ⟨fun hn => ?_, fun hn => ?_⟩
      · rw [if_pos (by simpa using hn)] at hk
        exact endK_drop hle4H hk
      · rw [if_neg (by simpa using hn)] at hk
        exact endK_drop hle4H hk
end Go.Proofs.Ytlajhbpkogekfaa

namespace Go.Proofs.Ytlajhbpkogekfaa
open Go.Av Line
set_option linter.unusedVariables false
set_option linter.unusedSimpArgs false
set_option maxRecDepth 4000

/-- the closure of Grow -/
theorem c75 {i j : Nat} {word : Int} {H : Heap} {K : AV → Heap → Prop} (hk : K (.bool (decide (word < j))) H) : ACalls Try.prog 75 [sp i j, .iptr [.int .i64 word]] H K := by
  apply W75_ok
  unfold W75 sp
  simp only [letO_some, cellsOf?_agg, cellsOf?_int, cellsOf?_bool, cellsOf?_imm, cellsOf?_ref, cellsOf?_nils, faddr_iptr, faddr_ptr, List.drop_succ_cons, List.drop_zero, List.take_succ_cons, List.take_zero, load1_iptr, loadN_iptr, List.length_cons, List.length_nil, Nat.le_refl, if_true, List.getElem?_cons_zero, List.getElem?_cons_succ, List.getD_cons_zero, List.getD_cons_succ, extrF_tup, binF_add, binF_sub, binF_mul, binF_eql, binF_neq, binF_lss, binF_leq, binF_gtr, binF_geq, true_and]
  have hxx := idxArr_iptr (cells := [.int .i64 (i : Int), .int .i64 (j : Int)]) (i := 1) (by omega)
  simp only [Int.natCast_one] at hxx
  simp only [hxx, letO_some, cellsOf?_agg, cellsOf?_int, cellsOf?_bool, cellsOf?_imm, cellsOf?_ref, cellsOf?_nils, faddr_iptr, faddr_ptr, List.drop_succ_cons, List.drop_zero, List.take_succ_cons, List.take_zero, load1_iptr, loadN_iptr, List.length_cons, List.length_nil, Nat.le_refl, if_true, List.getElem?_cons_zero, List.getElem?_cons_succ, List.getD_cons_zero, List.getD_cons_succ, extrF_tup, binF_add, binF_sub, binF_mul, binF_eql, binF_neq, binF_lss, binF_leq, binF_gtr, binF_geq, true_and]
  exact endK_ret hk

theorem reads_src {H : Heap} {v : AV} {l : List Int} (h : Reads H v l) : srcOf 1 v H = some (l.length, ints l) := by
  cases v <;> simp only [Reads] at h <;> try exact h.elim
  · subst h; rfl
  · obtain ⟨rfl, rfl⟩ := h; simp [srcOf]
  · obtain ⟨rfl, rfl, cells, h1, h2, h3⟩ := h; simp [srcOf, h1, h2, h3]
theorem nilq {H : Heap} {v : AV} {l : List Int} (h : Reads H v l) (hne : l ≠ []) : binF Try.prog .eql 22 v .nils = some (.bool false) := by
  have h1 : ∃ e, Try.prog.underlying 22 = some (.slice e) := ⟨3, by kernel_rfl⟩
  obtain ⟨e, h1⟩ := h1
  cases v <;> simp only [Reads] at h <;> try exact h.elim
  · exact absurd h hne
  · obtain ⟨_, rfl⟩ := h
    cases l with
    | nil => exact absurd rfl hne
    | cons a l => simp [binF, eqF, h1, ints]
  · simp [binF, eqF, h1]
theorem l22n : literalF Try.prog 22 0 [] = some [] := by
  rw [literalF_of (show literalPlan Try.prog 22 = some ([.int .i64 0], 1) by kernel_rfl) (by decide) (by simp)]
  simp [fillA, rowOf]

/-- slices.Clone -/
theorem c40 {v : AV} {l : List Int} {H : Heap} {K : AV → Heap → Prop} (hv : Reads H v l) (hne : l ≠ []) (hl : l.length < 1000000)
    (hk : ∀ v' H', Grow 1 H H' v' l.length (ints l) → isOwn v' → K v' H') : ACalls Try.prog 40 [v] H K := by
  apply W40_ok
  unfold W40
  simp only [letO_some, cellsOf?_agg, cellsOf?_int, cellsOf?_bool, cellsOf?_imm, cellsOf?_ref, cellsOf?_nils, faddr_iptr, faddr_ptr, List.drop_succ_cons, List.drop_zero, List.take_succ_cons, List.take_zero, load1_iptr, loadN_iptr, List.length_cons, List.length_nil, Nat.le_refl, if_true, List.getElem?_cons_zero, List.getElem?_cons_succ, List.getD_cons_zero, List.getD_cons_succ, extrF_tup, binF_add, binF_sub, binF_mul, binF_eql, binF_neq, binF_lss, binF_leq, binF_gtr, binF_geq, true_and, nilq hv hne, condA_bool, condG_bool, l22n]
  refine ⟨fun h => by simp at h, fun _ => ?_⟩
  have hpos : 0 < l.length := List.length_pos_iff.2 hne
  refine appendA_growR (Grow.imm (sz := 1) (n := 0) (cells := []) rfl) (reads_src hv) ?_ (by simp) hpos (by omega) (by omega) fun v' H' hg hr => endK_ret (hk v' H' (by simpa using hg) hr)
  simp [ints, isScalar]

theorem ints_flat (l : List Int) : ints l = l.flatMap fun x => [AV.int .i64 x] := by
  induction l with
  | nil => rfl
  | cons a l ih => rw [ints_cons, ih]; rfl
/-- An element of a list of one's own. -/
theorem grow_at {H0 H : Heap} {v : AV} {n : Nat} {l : List Int} {i : Nat} (h : Grow 1 H0 H v n (ints l)) (hr : isOwn v) (hi : i < n) :
    ∃ b, H0 b = none ∧ idx 1 v (.int .i64 (i : Int)) = some (.ptr b i) ∧ (∀ H', H.le H' → load1 (.ptr b i) H' = some (.int .i64 (l.getD i 0))) ∧
      ∀ (x : Int) (K : Heap → Prop), (∀ H', Grow 1 H0 H' v n (ints (l.set i x)) → load1 (.ptr b i) H' = some (.int .i64 x) → K H') → storeA 1 (.ptr b i) (.int .i64 x) K H := by
  obtain ⟨b, hb, rfl, rfl⟩ := h.own hr
  have hl : l.length = n := by simpa using h.1
  have hx : l[i]? = some (l.getD i 0) := by rw [List.getD_eq_getElem?_getD, List.getElem?_eq_getElem (by omega)]; rfl
  refine ⟨b, hb, ?_, ?_, ?_⟩
  · rw [idx_ref hi]; simp
  · intro H' hle
    exact load1_at (hle _ _ Heap.put_same) (by rw [ints_getElem?, hx]; rfl)
  · intro x K hK
    have e : splice (ints l) i [.int .i64 x] = ints (l.set i x) := by
      have := rows_set (f := fun x : Int => [AV.int .i64 x]) (sz := 1) (fun _ => rfl) (l := l) (i := i) (y := x) (by omega)
      rwa [← ints_flat, ← ints_flat, Nat.mul_one] at this
    refine storeA_of (cs := [.int .i64 x]) Heap.put_same rfl rfl rfl (by simp; omega) ?_
    rw [e, Heap.put_put]
    refine hK _ (Grow.ref hb (by simp [hl])) ?_
    refine load1_at Heap.put_same ?_
    rw [ints_getElem?, List.getElem?_set_self (by omega)]
    rfl
end Go.Proofs.Ytlajhbpkogekfaa

namespace Go.Proofs.Ytlajhbpkogekfaa
open Go.Av Line
set_option linter.unusedVariables false
set_option linter.unusedSimpArgs false
set_option maxRecDepth 4000

theorem endK_nil3 {e : Int} {H H' : Heap} {K : AV → Heap → Prop} (hl : H.le H') (h : K (.tup [sl [], .int .i64 0, .int .i64 e]) H) : endK (.tup [.nils, .int .i64 0, .int .i64 e]) H' K := endK_weak (endK_drop hl h)
theorem grow_end3 {sz : Nat} {H0 H : Heap} {v : AV} {n : Nat} {cells : List AV} {K : AV → Heap → Prop} {x y : Int} (h : Grow sz H0 H v n cells) (hk : K (.tup [.imm n false cells, .int .i64 x, .int .i64 y]) H0) : endK (.tup [v, .int .i64 x, .int .i64 y]) H K :=
  h.endG (f := fun v => .tup [v, .int .i64 x, .int .i64 y]) (fun b => ⟨fun e => by subst e; rfl, fun e => by subst e; rfl, fun e => by subst e; have := Grow.frz h.1 b; simp only [lift, List.map, this]; rfl⟩) hk

theorem lineOf_spec {w : Int} {ws ends : List Int} {word : Nat} (h : endedE w ws ends = 0) (hw : word < ws.length) :
    (spansN (toN ends) ends.length).findIdx? (fun p => decide (word < p.2)) = some (lineOf (toN ends) word) ∧ lineOf (toN ends) word < ends.length := by
  have hsh := ended_short h
  obtain ⟨h1, h2, h3⟩ := ended_ok h
  have hne : ends ≠ [] := by rintro rfl; simp at hsh
  have hlast := scan_last h2 hne
  have hr := scan_range h2
  have hup : up (toN ends) = ends := up_toN fun e he => (hr e he).1
  have hx : (toN ends).getD (ends.length - 1) 0 = ws.length := by
    have := up_getD (toN ends) (ends.length - 1)
    rw [hup, hlast] at this
    omega
  unfold lineOf
  rw [toN_len]
  cases hf : (spansN (toN ends) ends.length).findIdx? (fun p => decide (word < p.2)) with
  | none =>
    rw [List.findIdx?_eq_none_iff] at hf
    have := hf (spanN (toN ends) (ends.length - 1)) (List.mem_of_getElem? (spansN_get (by omega)))
    have := of_decide_eq_false this
    simp only [spanN] at this
    rw [hx] at this
    omega
  | some i =>
    refine ⟨rfl, ?_⟩
    rw [List.findIdx?_eq_some_iff_getElem] at hf
    obtain ⟨hlt, _⟩ := hf
    simpa using hlt

/-- Grow -/
theorem c32 {w word by_ : Int} {v u : AV} {ws ends : List Int} {H : Heap} {K : AV → Heap → Prop} (hv : Reads H v ws) (hu : Reads H u ends) (hlen : ws.length < 2 ^ 60) (hlen2 : ends.length < 2 ^ 60)
    (hk : K (.tup [sl (growO w ws ends word by_).1, .int .i64 (growO w ws ends word by_).2.1, .int .i64 (growO w ws ends word by_).2.2]) H) :
    ACalls Try.prog 32 [.agg [.int .i64 w, v], u, .int .i64 word, .int .i64 by_] H K := by
  apply W32_ok
  unfold W32
  simp only [letO_some, cellsOf?_agg, cellsOf?_int, cellsOf?_bool, cellsOf?_imm, cellsOf?_ref, cellsOf?_nils, faddr_iptr, faddr_ptr, List.drop_succ_cons, List.drop_zero, List.take_succ_cons, List.take_zero, load1_iptr, loadN_iptr, List.length_cons, List.length_nil, Nat.le_refl, if_true, List.getElem?_cons_zero, List.getElem?_cons_succ, List.getD_cons_zero, List.getD_cons_succ, extrF_tup, binF_add, binF_sub, binF_mul, binF_eql, binF_neq, binF_lss, binF_leq, binF_gtr, binF_geq, true_and]
  refine c72 hv hu hlen hlen2 (fun h a s hs => ?_) fun h s H3 hg hrs => ?_
  · simp only [letO_some, cellsOf?_agg, cellsOf?_int, cellsOf?_bool, cellsOf?_imm, cellsOf?_ref, cellsOf?_nils, faddr_iptr, faddr_ptr, List.drop_succ_cons, List.drop_zero, List.take_succ_cons, List.take_zero, load1_iptr, loadN_iptr, List.length_cons, List.length_nil, Nat.le_refl, if_true, List.getElem?_cons_zero, List.getElem?_cons_succ, List.getD_cons_zero, List.getD_cons_succ, extrF_tup, binF_add, binF_sub, binF_mul, binF_eql, binF_neq, binF_lss, binF_leq, binF_gtr, binF_geq, true_and]
    refine alloc_store (cs := [.int .i64 a, s]) rfl (by simp only [List.all_cons, hs]; rfl) rfl rfl fun b hb => ?_
    simp only [condA_bool, condG_bool]
    rw [growO, if_pos h] at hk
    exact ⟨fun _ => endK_nil3 (Heap.le_put_self hb) hk, fun hh => by simp [h] at hh⟩
  simp only [letO_some, cellsOf?_agg, cellsOf?_int, cellsOf?_bool, cellsOf?_imm, cellsOf?_ref, cellsOf?_nils, faddr_iptr, faddr_ptr, List.drop_succ_cons, List.drop_zero, List.take_succ_cons, List.take_zero, load1_iptr, loadN_iptr, List.length_cons, List.length_nil, Nat.le_refl, if_true, List.getElem?_cons_zero, List.getElem?_cons_succ, List.getD_cons_zero, List.getD_cons_succ, extrF_tup, binF_add, binF_sub, binF_mul, binF_eql, binF_neq, binF_lss, binF_leq, binF_gtr, binF_geq, true_and]
  obtain ⟨hc, hsc, hov⟩ := ended_ok h
  obtain ⟨w1, w2, n1, n2, hws⟩ := chk_ok hc
  have hsh := ended_short h
  obtain ⟨bs, hbs, rfl, rfl⟩ := hg.own hrs
  refine alloc_store (cs := [.int .i64 w, .ref 1 bs 0 (ws.length + 1) none]) rfl rfl rfl rfl fun b hb => ?_
  simp only [condA_bool, condG_bool]
  refine ⟨fun hh => by simp at hh, fun _ => ?_⟩
  have hne : bs ≠ b := Heap.ne_of Heap.put_same hb
  have hb' : H b = none := by rwa [Heap.put_ne (Ne.symm hne)] at hb
  rw [growO, if_neg (by omega)] at hk
  -- the memory with the text opened
  let M : List Int → Heap := fun S => (H.put bs (ints S)).put b [.int .i64 w, .ref 1 bs 0 (ws.length + 1) none]
  have hM : ∀ S, H.le (M S) := fun S => Heap.le_put (Heap.le_put_self hbs) hb'
  have hMb : ∀ S, M S b = some [.int .i64 w, .ref 1 bs 0 (ws.length + 1) none] := fun S => Heap.put_same
  have hMs : ∀ S, M S bs = some (ints S) := fun S => by simp only [M]; rw [Heap.put_ne hne, Heap.put_same]
  have hML : ∀ S, loadN 2 (.ptr b 0) (M S) = some (.agg [.int .i64 w, .ref 1 bs 0 (ws.length + 1) none]) := fun S => loadN_at (cells := [.int .i64 w, .ref 1 bs 0 (ws.length + 1) none]) (hMb S)
  have hMr : ∀ S : List Int, S.length = ws.length + 1 → Reads (M S) (.ref 1 bs 0 (ws.length + 1) none) S := fun S hS => ⟨rfl, by omega, ints S, hMs S, by simp; omega, by rw [List.drop_zero, ← hS, ← ints_length, List.take_length]⟩
  have hfold : ∀ S, (H.put bs (ints S)).put b [.int .i64 w, .ref 1 bs 0 (ws.length + 1) none] = M S := fun S => rfl
  rw [hfold]
  -- the word
  by_cases hw0 : word < 0
  · rw [if_pos (.inl hw0)] at hk
    simp only [hw0, decide_true, gval_bool, Bool.true_eq_false, if_false, letO_some]
    refine ⟨.tup [], ⟨fun h => by simp at h, fun _ => rfl⟩, ?_⟩
    simp only [letO_some, pickF_true, condA_bool, condG_bool]
    exact ⟨fun _ => endK_nil3 (hM _) hk, fun hh => by simp at hh⟩
  simp only [hw0, decide_false, gval_bool, if_true, letO_some, hML]
  refine ⟨.int .i64 ws.length, ⟨fun _ => m64 (hMr _ (by simp)) hc ⟨rfl, rfl⟩, fun hh => absurd rfl hh⟩, ?_⟩
  simp only [letO_some, cellsOf?_agg, cellsOf?_int, cellsOf?_bool, cellsOf?_imm, cellsOf?_ref, cellsOf?_nils, faddr_iptr, faddr_ptr, List.drop_succ_cons, List.drop_zero, List.take_succ_cons, List.take_zero, load1_iptr, loadN_iptr, List.length_cons, List.length_nil, Nat.le_refl, if_true, List.getElem?_cons_zero, List.getElem?_cons_succ, List.getD_cons_zero, List.getD_cons_succ, extrF_tup, binF_add, binF_sub, binF_mul, binF_eql, binF_neq, binF_lss, binF_leq, binF_gtr, binF_geq, true_and, pickF_false, condA_bool, condG_bool]
  refine ⟨fun hh => ?_, fun hh => ?_⟩
  · have hh : (ws.length : Int) ≤ word := by simpa using hh
    rw [if_pos (.inr hh)] at hk
    exact endK_nil3 (hM _) hk
  have hwl : word < ws.length := by simp at hh; omega
  obtain ⟨wd, rfl⟩ : ∃ n : Nat, word = n := ⟨word.toNat, by omega⟩
  have hwd : wd < ws.length := by omega
  rw [if_neg (by omega)] at hk
  by_cases hb0 : by_ < 1
  · rw [if_pos (.inl hb0)] at hk
    simp only [hb0, decide_true, gval_bool, Bool.true_eq_false, if_false, letO_some, pickF_true, condA_bool, condG_bool]
    exact ⟨fun _ => endK_nil3 (hM _) hk, fun hh => by simp at hh⟩
  simp only [hb0, decide_false, gval_bool, if_true, letO_some, binF_gtr, pickF_false, condA_bool, condG_bool]
  refine ⟨fun hh => ?_, fun hh => ?_⟩
  · have hh : 40 < by_ := by simpa using hh
    rw [if_pos (.inr hh)] at hk
    exact endK_nil3 (hM _) hk
  have hb40 : by_ ≤ 40 := by simp at hh; omega
  rw [if_neg (by omega)] at hk
  rw [Int.toNat_natCast] at hk
  refine hv.get (hM _) (by omega) (by omega) ?_
  rw [Int.toNat_natCast]
  have hwx : 1 ≤ ws.getD wd 0 ∧ ws.getD wd 0 ≤ w := by
    have : ws.getD wd 0 ∈ ws := by rw [List.getD_eq_getElem?_getD]; simp [hwd]
    exact hws _ this
  simp only [letO_some, cellsOf?_agg, cellsOf?_int, cellsOf?_bool, cellsOf?_imm, cellsOf?_ref, cellsOf?_nils, faddr_iptr, faddr_ptr, List.drop_succ_cons, List.drop_zero, List.take_succ_cons, List.take_zero, load1_iptr, loadN_iptr, List.length_cons, List.length_nil, Nat.le_refl, if_true, List.getElem?_cons_zero, List.getElem?_cons_succ, List.getD_cons_zero, List.getD_cons_succ, extrF_tup, binF_add, binF_sub, binF_mul, binF_eql, binF_neq, binF_lss, binF_leq, binF_gtr, binF_geq, true_and]
  rw [wrap_i64 (n := ws.getD wd 0 + by_) (by omega) (by omega)]
  simp only [condA_bool, condG_bool]
  refine ⟨fun hh => ?_, fun hh => ?_⟩
  · have hh : w < ws.getD wd 0 + by_ := by simpa using hh
    rw [if_pos hh] at hk
    exact endK_nil3 (hM _) hk
  have hfit : ¬ w < ws.getD wd 0 + by_ := by simpa using hh
  rw [if_neg hfit] at hk
  rw [wrap_i64 (n := (wd : Int) + 1) (by omega) (by omega)]
  -- the sums grow
  rw [← sumsG_zero (ws := ws) (word := wd) (b := by_)]
  refine ⟨fun L H' => ∃ i : Nat, L = [.int .i64 i] ∧ wd < i ∧ i ≤ ws.length + 1 ∧ H' = M (sumsG ws wd by_ i), fun L _ => (ws.length + 1 - iv L 0).toNat, ⟨wd + 1, by simp, by omega, by omega, rfl⟩, ?_⟩
  intro L H' hI
  obtain ⟨i, rfl, hi1, hi2, rfl⟩ := hI
  simp only [letO_some, cellsOf?_agg, cellsOf?_int, cellsOf?_bool, cellsOf?_imm, cellsOf?_ref, cellsOf?_nils, faddr_iptr, faddr_ptr, List.drop_succ_cons, List.drop_zero, List.take_succ_cons, List.take_zero, load1_iptr, loadN_iptr, List.length_cons, List.length_nil, Nat.le_refl, if_true, List.getElem?_cons_zero, List.getElem?_cons_succ, List.getD_cons_zero, List.getD_cons_succ, extrF_tup, binF_add, binF_sub, binF_mul, binF_eql, binF_neq, binF_lss, binF_leq, binF_gtr, binF_geq, true_and, hML]
  refine c64 (hMr _ (by simp)) (by rw [sumsG_length]; omega) ?_
  rw [sumsG_length]
  simp only [letO_some, cellsOf?_agg, cellsOf?_int, cellsOf?_bool, cellsOf?_imm, cellsOf?_ref, cellsOf?_nils, faddr_iptr, faddr_ptr, List.drop_succ_cons, List.drop_zero, List.take_succ_cons, List.take_zero, load1_iptr, loadN_iptr, List.length_cons, List.length_nil, Nat.le_refl, if_true, List.getElem?_cons_zero, List.getElem?_cons_succ, List.getD_cons_zero, List.getD_cons_succ, extrF_tup, binF_add, binF_sub, binF_mul, binF_eql, binF_neq, binF_lss, binF_leq, binF_gtr, binF_geq, true_and]
  refine condA_t (fun hlt => ?_) (fun hge => ?_)
  · have hi : i ≤ ws.length := by omega
    have hx := sumsG_get (word := wd) (i := i) (b := by_) hi
    rw [if_neg (by omega), Int.add_zero] at hx
    have l1 : load1 (.ptr b (0 + 1)) (M (sumsG ws wd by_ i)) = some (.ref 1 bs 0 (ws.length + 1) none) := load1_at (hMb _) rfl
    have l2 : load1 (.ptr bs (0 + i * 1)) (M (sumsG ws wd by_ i)) = some (.int .i64 (psum ws i)) := load1_at (hMs _) (by rw [ints_getElem?, Nat.zero_add, Nat.mul_one, hx]; rfl)
    have hps := psum_le (ws := ws) (k := i) fun x hx => by have := hws x (List.mem_of_mem_take hx); omega
    simp only [l1, idx_ref (show i < ws.length + 1 by omega), l2, letO_some, cellsOf?_agg, cellsOf?_int, cellsOf?_bool, cellsOf?_imm, cellsOf?_ref, cellsOf?_nils, faddr_iptr, faddr_ptr, List.drop_succ_cons, List.drop_zero, List.take_succ_cons, List.take_zero, load1_iptr, loadN_iptr, List.length_cons, List.length_nil, Nat.le_refl, if_true, List.getElem?_cons_zero, List.getElem?_cons_succ, List.getD_cons_zero, List.getD_cons_succ, extrF_tup, binF_add, binF_sub, binF_mul, binF_eql, binF_neq, binF_lss, binF_leq, binF_gtr, binF_geq, true_and]
    rw [wrap_i64 (n := psum ws i + by_) (by omega) (by omega)]
    refine storeA_of (cs := [.int .i64 (psum ws i + by_)]) (hMs _) rfl rfl rfl (by simp; omega) ?_
    rw [wrap_i64 (by omega) (by omega)]
    refine ⟨⟨i + 1, by simp, by omega, by omega, ?_⟩, by simp <;> omega⟩
    rw [← sumsG_succ hi1]
    have e : splice (ints (sumsG ws wd by_ i)) (0 + i * 1) [.int .i64 (psum ws i + by_)] = ints ((sumsG ws wd by_ i).set i (psum ws i + by_)) := by
      have := rows_set (f := fun x : Int => [AV.int .i64 x]) (sz := 1) (fun _ => rfl) (l := sumsG ws wd by_ i) (i := i) (y := psum ws i + by_) (by simp; omega)
      rw [← ints_flat, ← ints_flat] at this
      rw [Nat.zero_add]; exact this
    rw [e]
    simp only [M]
    rw [Heap.put_comm (Ne.symm hne), Heap.put_put]
  have hi : i = ws.length + 1 := by omega
  subst hi
  rw [sumsG_end hwd]
  have hc' : chk w (wide ws wd by_) = 0 := chk_set hc ⟨by omega, by omega⟩
  have hwl' : (wide ws wd by_).length = ws.length := by simp [wide]
  have hfw : ws.set wd (ws.getD wd 0 + by_) = wide ws wd by_ := rfl
  rw [hfw]
  have hSr : Reads (M (sumsN (wide ws wd by_) ws.length)) (.ref 1 bs 0 (ws.length + 1) none) (sumsN (wide ws wd by_) (wide ws wd by_).length) := by
    rw [hwl']; exact hMr _ (by simp)
  have hHM := hM (sumsN (wide ws wd by_) ws.length)
  have hL : ∀ {H5 : Heap}, (M (sumsN (wide ws wd by_) ws.length)).le H5 → loadN 2 (.ptr b 0) H5 = some (.agg [.int .i64 w, .ref 1 bs 0 (ws.length + 1) none]) := fun hl => loadN_at (cells := [.int .i64 w, .ref 1 bs 0 (ws.length + 1) none]) (hl _ _ (hMb _))
  generalize M (sumsN (wide ws wd by_) ws.length) = H1 at *
  -- the line
  obtain ⟨hfi, hlo⟩ := lineOf_spec h hwd
  have hR := spans_reads (H := H1) (toN ends)
  rw [toN_len] at hR
  refine c74 (p := fun q => decide (wd < q.2)) hR (by simp; omega) (fun q hq K hK => ?_) ?_
  · exact c75 (by simpa using hK)
  rw [hfi]
  simp only [letO_some, cellsOf?_agg, cellsOf?_int, cellsOf?_bool, cellsOf?_imm, cellsOf?_ref, cellsOf?_nils, faddr_iptr, faddr_ptr, List.drop_succ_cons, List.drop_zero, List.take_succ_cons, List.take_zero, load1_iptr, loadN_iptr, List.length_cons, List.length_nil, Nat.le_refl, if_true, List.getElem?_cons_zero, List.getElem?_cons_succ, List.getD_cons_zero, List.getD_cons_succ, extrF_tup, binF_add, binF_sub, binF_mul, binF_eql, binF_neq, binF_lss, binF_leq, binF_gtr, binF_geq, true_and]
  have hne2 : ends ≠ [] := by rintro rfl; simp at hsh
  refine c40 (hu.le hHM) hne2 (by omega) fun X H13 hgX hrX => ?_
  have hsp := spansN_get (E := toN ends) hlo
  generalize hline : lineOf (toN ends) wd = line at *
  have r0 := rows_get spC_len hsp
  have hld : idxArr 2 1 (.iptr (((spansN (toN ends) ends.length).flatMap spC).drop (line * 2))) (.int .i64 0) = some (.iptr (((spansN (toN ends) ends.length).flatMap spC).drop (line * 2))) := by simp [idxArr]
  have hl1 : (((spansN (toN ends) ends.length).flatMap spC).drop (line * 2))[0]? = some (.int .i64 (stN (toN ends) line)) := by
    have := rows_at (k := 0) spC_len hsp (by decide)
    rw [List.getElem?_drop, this]
    rfl
  simp only [letO_some, cellsOf?_agg, cellsOf?_int, cellsOf?_bool, cellsOf?_imm, cellsOf?_ref, cellsOf?_nils, faddr_iptr, faddr_ptr, List.drop_succ_cons, List.drop_zero, List.take_succ_cons, List.take_zero, load1_iptr, loadN_iptr, List.length_cons, List.length_nil, Nat.le_refl, if_true, List.getElem?_cons_zero, List.getElem?_cons_succ, List.getD_cons_zero, List.getD_cons_succ, extrF_tup, binF_add, binF_sub, binF_mul, binF_eql, binF_neq, binF_lss, binF_leq, binF_gtr, binF_geq, true_and, idx_imm hlo, hld, hl1]
  -- the loop
  have hr := scan_range hsc
  have hup : up (toN ends) = ends := up_toN fun e he => (hr e he).1
  have hElen : (toN ends).length = ends.length := toN_len ends
  have hsorted := scan_sorted (Int.le_refl 0) hsc
  have hEle := ended_le h
  have hlast : (toN ends).getD (ends.length - 1) 0 = ws.length := by
    have h1 := up_getD (toN ends) (ends.length - 1)
    rw [hup, scan_last hsc hne2] at h1
    omega
  have hfirst : 0 < (toN ends).getD 0 0 := by
    have h1 := up_getD (toN ends) 0
    have h2 := scan_first (Int.le_refl 0) hsc hne2
    rw [hup] at h1
    omega
  have hE0 : stN (toN ends) line < (toN ends).getD line 0 := by
    unfold stN
    split
    · rename_i e; rw [e]; exact hfirst
    · have := hsorted (line - 1) (by omega)
      rwa [show line - 1 + 1 = line by omega] at this
  refine ⟨fun L H' => ∃ (E : List Nat) (ln fr f : Nat) (X : AV), L = [X, .int .i64 ln, .int .i64 fr] ∧ Grow 1 H1 H' X E.length (ints (up E)) ∧ isOwn X ∧ ln < E.length ∧ E.length ≤ ln + 20 ∧ ln ≤ fr + 20 ∧ (∀ k, ln ≤ k → k + 1 < E.length → E.getD k 0 < E.getD (k + 1) 0) ∧ fr < E.getD ln 0 ∧
      (∀ k, E.getD k 0 ≤ ws.length) ∧ ws.length - fr ≤ f ∧ gr w (wide ws wd by_) f E ln fr = growE w ws ends wd by_, fun L _ => (ws.length - iv L 2).toNat,
    ⟨toN ends, line, stN (toN ends) line, ws.length, X, by simp, by rw [hup, hElen]; exact hgX, hrX, by omega, by omega, by omega, fun k hk1 hk2 => hsorted k hk2, hE0, fun k => (stN_le hEle k).2, by omega, by simp only [growE, hline]⟩, ?_⟩
  intro L H' hI
  obtain ⟨E, ln, fr, f, X', rfl, hgx, hrx, hln, hlE, hlf, hso, hfr, hEn, hf, hgr⟩ := hI
  simp only [letO_some, cellsOf?_agg, cellsOf?_int, cellsOf?_bool, cellsOf?_imm, cellsOf?_ref, cellsOf?_nils, faddr_iptr, faddr_ptr, List.drop_succ_cons, List.drop_zero, List.take_succ_cons, List.take_zero, load1_iptr, loadN_iptr, List.length_cons, List.length_nil, Nat.le_refl, if_true, List.getElem?_cons_zero, List.getElem?_cons_succ, List.getD_cons_zero, List.getD_cons_succ, extrF_tup, binF_add, binF_sub, binF_mul, binF_eql, binF_neq, binF_lss, binF_leq, binF_gtr, binF_geq, true_and]
  have hln1 := hEn ln
  have hfrn : fr < ws.length := by omega
  obtain ⟨f, rfl⟩ : ∃ f', f = f' + 1 := ⟨f - 1, by omega⟩
  obtain ⟨b2, hb2, hix, hlx, hst⟩ := grow_at hgx hrx (i := ln) (by omega)
  have hle := hgx.le
  simp only [hix, hlx _ (Heap.le_refl _), up_getD, letO_some, hL hle]
  refine c76 (hSr.le hle) hc' hfr (by omega) ?_
  have her := endN_range hc' (show fr < (wide ws wd by_).length by omega) _ hfr
  rw [gr] at hgr
  generalize endN w (wide ws wd by_) fr (E.getD ln 0) = e at *
  refine hst e _ fun H19 hg19 hl19 => ?_
  simp only [hix, hl19, letO_some, cellsOf?_agg, cellsOf?_int, cellsOf?_bool, cellsOf?_imm, cellsOf?_ref, cellsOf?_nils, faddr_iptr, faddr_ptr, List.drop_succ_cons, List.drop_zero, List.take_succ_cons, List.take_zero, load1_iptr, loadN_iptr, List.length_cons, List.length_nil, Nat.le_refl, if_true, List.getElem?_cons_zero, List.getElem?_cons_succ, List.getD_cons_zero, List.getD_cons_succ, extrF_tup, binF_add, binF_sub, binF_mul, binF_eql, binF_neq, binF_lss, binF_leq, binF_gtr, binF_geq, true_and, condA_bool, condG_bool]
  have hset : (up E).set ln (e : Int) = up (E.set ln e) := by simp [up, List.map_set]
  rw [hset] at hg19
  have hg19' : Grow 1 H1 H19 X' (E.set ln e).length (ints (up (E.set ln e))) := by simpa using hg19
  refine ⟨fun heq => ?_, fun hneq => ?_⟩
  · have heq : e = E.getD ln 0 := by have := eq_of_beq heq; omega
    rw [if_pos heq] at hgr
    rw [← hgr] at hk
    obtain ⟨H2, hl2, hg2⟩ := hg19'.shrink hHM
    refine endK_pub (r' := .tup [X', .int .i64 ln, .int .i64 0]) (Pub.drop hl2) (grow_end3 hg2 ?_)
    have hEE : E.set ln e = E := by
      apply List.ext_getElem?
      intro k
      rw [List.getElem?_set]
      split
      · rename_i hk'; subst hk'
        rw [heq, List.getD_eq_getElem?_getD, List.getElem?_eq_getElem hln]; rfl
      · rfl
    rw [hEE]
    simpa [sl] using hk
  · have hneq : ¬ e = E.getD ln 0 := by intro hh; apply hneq; rw [hh]; exact beq_self_eq_true _
    rw [if_neg hneq] at hgr
    rw [wrap_i64 (by omega) (by omega)]
    have hlen19 : lenA X' = some (.int .i64 E.length) := by have := hg19.len; simpa using this
    simp only [hlen19, letO_some, binF_eql, condA_bool, condG_bool]
    refine ⟨fun hll => ?_, fun hll => ?_⟩
    · have hll : ln + 1 = E.length := by simp at hll; omega
      rw [if_pos hll] at hgr
      have hle19 := hg19.le
      simp only [hL hle19, letO_some]
      refine m64 (hSr.le hle19) hc' ?_
      simp only [l22 cellsOf?_int, letO_some]
      refine appendA_oneR hg19' (by simp; omega) fun v' H7 hg7 hr7 => ?_
      rw [hwl'] at hg7 hgr
      refine ⟨⟨E.set ln e ++ [ws.length], ln + 1, e, f, v', by simp, ?_, hr7, by simp; omega, by simp; omega, by omega, ?_, ?_, ?_, by omega, hgr⟩, by simp <;> omega⟩
      · simpa [up] using hg7
      · intro k hk1 hk2
        simp at hk2
        omega
      · rw [List.getD_eq_getElem?_getD, List.getElem?_append_right (by simp; omega)]
        simp [hll]
        omega
      · intro k
        rw [List.getD_eq_getElem?_getD, List.getElem?_append]
        split
        · rw [List.getElem?_set]
          split
          · simp; omega
          · rw [← List.getD_eq_getElem?_getD]; exact hEn k
        · cases hk0 : k - (E.set ln e).length with
          | zero => simp
          | succ m => simp
    · have hll : ¬ ln + 1 = E.length := by simp at hll; omega
      rw [if_neg hll] at hgr
      have hget : ∀ k, k ≠ ln → (E.set ln e).getD k 0 = E.getD k 0 := by
        intro k hk
        rw [List.getD_eq_getElem?_getD, List.getElem?_set_ne (Ne.symm hk), ← List.getD_eq_getElem?_getD]
      refine ⟨⟨E.set ln e, ln + 1, e, f, X', by simp, by simpa using hg19', hrx, by simp; omega, by simp; omega, by omega, ?_, ?_, ?_, by omega, hgr⟩, by simp <;> omega⟩
      · intro k hk1 hk2
        rw [hget k (by omega), hget (k + 1) (by omega)]
        exact hso k (by omega) (by simpa using hk2)
      · rw [hget _ (by omega)]
        have := hso ln (Nat.le_refl _) (by omega)
        omega
      · intro k
        by_cases hk : k = ln
        · subst hk
          rw [List.getD_eq_getElem?_getD, List.getElem?_set_self hln]
          simp; omega
        · rw [hget k hk]; exact hEn k
end Go.Proofs.Ytlajhbpkogekfaa

namespace Go.Proofs.Ytlajhbpkogekfaa
open Go.Av Line
set_option linter.unusedVariables false
set_option linter.unusedSimpArgs false
set_option maxRecDepth 4000

theorem condA_tt {A B : Prop} : condA (.bool true) true A B ↔ A := ⟨fun h => h.1 rfl, fun h => ⟨fun _ => h, fun h' => absurd rfl h'⟩⟩
theorem condA_ff {A B : Prop} : condA (.bool false) true A B ↔ B := ⟨fun h => h.2 (by simp), fun h => ⟨fun h' => by simp at h', fun _ => h⟩⟩
theorem condG_tt {A B : Prop} : condG (.bool true) true A B ↔ A := ⟨fun h => h.1 rfl, fun h => ⟨fun _ => h, fun h' => absurd rfl h'⟩⟩
theorem condG_ff {A B : Prop} : condG (.bool false) true A B ↔ B := ⟨fun h => h.2 (by simp), fun h => ⟨fun h' => by simp at h', fun _ => h⟩⟩
theorem condG_ff' {A B : Prop} : condG (.bool false) false A B ↔ A := ⟨fun h => h.1 rfl, fun h => ⟨fun _ => h, fun h' => absurd rfl h'⟩⟩
theorem condG_tt' {A B : Prop} : condG (.bool true) false A B ↔ B := ⟨fun h => h.2 (by simp), fun h => ⟨fun h' => by simp at h', fun _ => h⟩⟩
theorem exU {H : Heap} {k : AV → Heap → Prop} (h : k (.tup []) H) : ∃ J : AV → Heap → Prop, J (.tup []) H ∧ ∀ t h, J t h → k t h := ⟨k, h, fun _ _ h => h⟩
theorem exJc {P : Program} {f : FuncId} {args : List AV} {H : Heap} {c : Bool} {k : AV → Heap → Prop} (h : ACalls P f args H k) : ∃ J : AV → Heap → Prop, condG (.bool c) c (ACalls P f args H fun t h => J t h) (J (.tup []) H) ∧ ∀ t h, J t h → k t h := ⟨k, ⟨fun _ => h, fun h' => absurd rfl h'⟩, fun _ _ h => h⟩
theorem letO_gv {c : Bool} {o : Option AV} {k : AV → Prop} (h : letO o k) : letO (gval (.bool c) c o) k := by simpa using h
theorem exJ {P : Program} {f : FuncId} {args : List AV} {H : Heap} {k : AV → Heap → Prop} (h : ACalls P f args H k) : ∃ J : AV → Heap → Prop, (ACalls P f args H fun t h => J t h) ∧ ∀ t h, J t h → k t h := ⟨k, h, fun _ _ h => h⟩

theorem b24 {x y : AV} (hx : cellsOf? x = some [x]) (hy : cellsOf? y = some [y]) : buildF Try.prog 24 [(0, x), (1, y)] = some (.agg [x, y]) := by
  rw [buildF_of (show buildPlan Try.prog 24 = some ([.int .i64 0, .nils], [(0, 1), (1, 1)]) by kernel_rfl)]
  simp [fillA, hx, hy, splice]

/-- text -/
theorem c59 {w : Int} {v : AV} {l : List Int} {H : Heap} {K : AV → Heap → Prop} (hv : Reads H v l) (hk : K (.agg [.int .i64 w, v]) H) : ACalls Try.prog 59 [.int .i64 w, v] H K := by
  apply W59_ok
  unfold W59
  simp only [letO_some, cellsOf?_agg, cellsOf?_int, cellsOf?_bool, cellsOf?_imm, cellsOf?_ref, cellsOf?_nils, faddr_iptr, faddr_ptr, List.drop_succ_cons, List.drop_zero, List.take_succ_cons, List.take_zero, load1_iptr, loadN_iptr, List.length_cons, List.length_nil, Nat.le_refl, if_true, List.getElem?_cons_zero, List.getElem?_cons_succ, List.getD_cons_zero, List.getD_cons_succ, extrF_tup, binF_add, binF_sub, binF_mul, binF_eql, binF_neq, binF_lss, binF_leq, binF_gtr, binF_geq, true_and, b24 cellsOf?_int hv.cells]
  refine alloc_store (cs := [.int .i64 w, v]) rfl (by simp only [List.all_cons, hv.scalar]; rfl) rfl rfl fun b hb => ?_
  rw [show loadN 2 (.ptr b 0) (H.put b [.int .i64 w, v]) = some (.agg [.int .i64 w, v]) from loadN_at Heap.put_same]
  simp only [letO_some]
  exact endK_drop (Heap.le_put_self hb) hk
/-- list -/
theorem c46 {v : AV} {H : Heap} {K : AV → Heap → Prop} (hk : K v H) : ACalls Try.prog 46 [v] H K := by
  apply W46_ok
  unfold W46
  simp only [letO_some]
  exact endK_ret hk
/-- A list that is written out. -/
def lit (l : List Int) : AV := .imm l.length true (ints l)
theorem lit_reads (H : Heap) (l : List Int) : Reads H (lit l) l := ⟨rfl, rfl⟩
theorem ltA : literalF Try.prog 22 5 [(0, (.int .i64 3)), (1, (.int .i64 3)), (2, (.int .i64 4)), (3, (.int .i64 2)), (4, (.int .i64 5))] = some [.int .i64 3, .int .i64 3, .int .i64 4, .int .i64 2, .int .i64 5] := by kernel_rfl
/-- A -/
theorem c56 {H : Heap} {K : AV → Heap → Prop} (hk : K (.agg [.int .i64 10, lit [3,3,4,2,5]]) H) : ACalls Try.prog 56 [] H K := by
  apply W56_ok
  unfold W56
  simp only [letO_some, ltA]
  intro b hb
  refine c59 (l := [3,3,4,2,5]) ⟨rfl, rfl⟩ ?_
  refine storeA_of (cs := [.int .i64 10, lit [3,3,4,2,5]]) Heap.put_same rfl rfl rfl (by simp) ?_
  rw [Heap.put_put]
  rw [show loadN 2 (.ptr b 0) (H.put b (splice [.int .i64 0, .nils] 0 [.int .i64 10, lit [3,3,4,2,5]])) = some (.agg [.int .i64 10, lit [3,3,4,2,5]]) from loadN_at (cells := [.int .i64 10, lit [3,3,4,2,5]]) Heap.put_same]
  simp only [letO_some]
  exact endK_drop (Heap.le_put_self hb) hk
theorem ltC : literalF Try.prog 22 6 [(0, (.int .i64 1)), (1, (.int .i64 1)), (2, (.int .i64 1)), (3, (.int .i64 1)), (4, (.int .i64 1)), (5, (.int .i64 1))] = some [.int .i64 1, .int .i64 1, .int .i64 1, .int .i64 1, .int .i64 1, .int .i64 1] := by kernel_rfl
/-- C -/
theorem c57 {H : Heap} {K : AV → Heap → Prop} (hk : K (.agg [.int .i64 6, lit [1,1,1,1,1,1]]) H) : ACalls Try.prog 57 [] H K := by
  apply W57_ok
  unfold W57
  simp only [letO_some, ltC]
  intro b hb
  refine c59 (l := [1,1,1,1,1,1]) ⟨rfl, rfl⟩ ?_
  refine storeA_of (cs := [.int .i64 6, lit [1,1,1,1,1,1]]) Heap.put_same rfl rfl rfl (by simp) ?_
  rw [Heap.put_put]
  rw [show loadN 2 (.ptr b 0) (H.put b (splice [.int .i64 0, .nils] 0 [.int .i64 6, lit [1,1,1,1,1,1]])) = some (.agg [.int .i64 6, lit [1,1,1,1,1,1]]) from loadN_at (cells := [.int .i64 6, lit [1,1,1,1,1,1]]) Heap.put_same]
  simp only [letO_some]
  exact endK_drop (Heap.le_put_self hb) hk
theorem ltB : literalF Try.prog 22 4 [(0, (.int .i64 3)), (1, (.int .i64 2)), (2, (.int .i64 2)), (3, (.int .i64 5))] = some [.int .i64 3, .int .i64 2, .int .i64 2, .int .i64 5] := by kernel_rfl
/-- B -/
theorem c58 {H : Heap} {K : AV → Heap → Prop} (hk : K (.agg [.int .i64 6, lit [3,2,2,5]]) H) : ACalls Try.prog 58 [] H K := by
  apply W58_ok
  unfold W58
  simp only [letO_some, ltB]
  intro b hb
  refine c59 (l := [3,2,2,5]) ⟨rfl, rfl⟩ ?_
  refine storeA_of (cs := [.int .i64 6, lit [3,2,2,5]]) Heap.put_same rfl rfl rfl (by simp) ?_
  rw [Heap.put_put]
  rw [show loadN 2 (.ptr b 0) (H.put b (splice [.int .i64 0, .nils] 0 [.int .i64 6, lit [3,2,2,5]])) = some (.agg [.int .i64 6, lit [3,2,2,5]]) from loadN_at (cells := [.int .i64 6, lit [3,2,2,5]]) Heap.put_same]
  simp only [letO_some]
  exact endK_drop (Heap.le_put_self hb) hk
def leftO (w : Int) (ws ends : List Int) : List Int := if endedE w ws ends = 0 then leftL w ws (toN ends) ends.length else []
/-- Left -/
theorem c44p {w : Int} {v u : AV} {ws ends : List Int} {H : Heap} {K : AV → Heap → Prop} (hv : Reads H v ws) (hu : Reads H u ends) (hlen : ws.length < 2 ^ 60) (hlen2 : ends.length < 2 ^ 60)
    (hk : K (.tup [sl (leftO w ws ends), .int .i64 (endedE w ws ends)]) H) : ACalls Try.prog 44 [.agg [.int .i64 w, v], u] H K := by
  refine ACalls.pub (c44 hv hu hlen hlen2 (fun h => ?_) fun h v' H' hg _ => ?_)
  · rw [leftO, if_neg h] at hk
    exact endK_nil (Heap.le_refl _) hk
  · rw [leftO, if_pos h, h] at hk
    refine hg.end2 ?_
    simpa [sl] using hk
/-- same -/
theorem c25p {v w : AV} {l m : List Int} {H : Heap} {K : AV → Heap → Prop} (hv : Reads H v l) (hw : Reads H w m) (hl : l.length < 2 ^ 62) (hk : K (.bool (decide (l = m))) H) : ACalls Try.prog 25 [v, w] H K :=
  (c25 v w l m H hv hw hl).mono fun r H' h => by obtain ⟨rfl, rfl⟩ := h; exact hk
end Go.Proofs.Ytlajhbpkogekfaa

/- MADE BY PROGRAM (walk.py): function 16 returns true. -/
namespace Go.Proofs.Ytlajhbpkogekfaa
open Go.Av Line
set_option linter.unusedVariables false
set_option linter.unusedSimpArgs false
set_option maxRecDepth 10000
theorem wv1 : firstO 6 [3, 2, 2, 5] = [1, 3, 4] := by kernel_rfl
theorem wv2 : chk 6 [3, 2, 2, 5] = 0 := by kernel_rfl
theorem wv3 : (bestO 10 [3, 3, 4, 2, 5]).1 = 18 := by kernel_rfl
theorem wv4 : chk 10 [3, 3, 4, 2, 5] = 0 := by kernel_rfl
theorem wv5 : ((bestO 6 [1, 1, 1, 1, 1, 1]).2.2 : Int) = 1 := by kernel_rfl
theorem wv6 : chk 6 [1, 1, 1, 1, 1, 1] = 0 := by kernel_rfl
theorem wv7 : fullO 6 [3, 2, 2, 5] = [2, 3, 4] := by kernel_rfl
theorem wv8 : literalF Try.prog 22 3 [(0, (.int .i64 2)), (1, (.int .i64 3)), (2, (.int .i64 4))] = some [.int .i64 2, .int .i64 3, .int .i64 4] := by kernel_rfl
theorem wv9 : costO 6 [3, 2, 2, 5] [2, 3, 4] = 16 := by kernel_rfl
theorem wv10 : endedE 6 [3, 2, 2, 5] [2, 3, 4] = 0 := by kernel_rfl
theorem wv11 : leftO 6 [3, 2, 2, 5] [2, 3, 4] = [0, 4, 1] := by kernel_rfl
theorem wv12 : pricesO 6 [3, 2, 2, 5] = [0, 9, 0, 10] := by kernel_rfl
theorem wv13 : literalF Try.prog 22 4 [(0, (.int .i64 0)), (1, (.int .i64 9)), (2, (.int .i64 0)), (3, (.int .i64 10))] = some [.int .i64 0, .int .i64 9, .int .i64 0, .int .i64 10] := by kernel_rfl
theorem wv14 : boundO 6 [3, 2, 2, 5] [0, 9, 0, 10] = (10, 0) := by kernel_rfl
theorem wv15 : startsO 10 [3, 3, 4, 2, 5] = [0, 0, 2, 2, 4] := by kernel_rfl
theorem wv16 : literalF Try.prog 22 3 [(0, (.int .i64 1)), (1, (.int .i64 3)), (2, (.int .i64 4))] = some [.int .i64 1, .int .i64 3, .int .i64 4] := by kernel_rfl
theorem wv17 : growO 6 [3, 2, 2, 5] [1, 3, 4] 1 2 = ([1, 2, 3, 4], 3, 0) := by kernel_rfl
theorem wv18 : literalF Try.prog 22 4 [(0, (.int .i64 0)), (1, (.int .i64 9)), (2, (.int .i64 0)), (3, (.int .i64 11))] = some [.int .i64 0, .int .i64 9, .int .i64 0, .int .i64 11] := by kernel_rfl
theorem wv19 : boundO 6 [3, 2, 2, 5] [0, 9, 0, 11] = (0, 14) := by kernel_rfl
theorem wv20 : growO 6 [3, 2, 2, 5] [1, 3, 4] 3 2 = ([], 0, 12) := by kernel_rfl
theorem wv21 : (literalF Try.prog 22 3 [(0, (.int .i64 1)), (1, (.int .i64 3)), (2, (.int .i64 4))]).map (AV.imm 3 true) = some (AV.imm 3 true [.int .i64 1, .int .i64 3, .int .i64 4]) := by kernel_rfl
theorem wv22 : decide (([1, 3, 4] : List Int) = [1, 3, 4]) = true := by kernel_rfl
theorem wv23 : (literalF Try.prog 22 3 [(0, (.int .i64 2)), (1, (.int .i64 3)), (2, (.int .i64 4))]).map (AV.imm 3 true) = some (AV.imm 3 true [.int .i64 2, .int .i64 3, .int .i64 4]) := by kernel_rfl
theorem wv24 : decide (([2, 3, 4] : List Int) = [2, 3, 4]) = true := by kernel_rfl
theorem wv25 : (literalF Try.prog 22 3 [(0, (.int .i64 0)), (1, (.int .i64 4)), (2, (.int .i64 1))]).map (AV.imm 3 true) = some (AV.imm 3 true [.int .i64 0, .int .i64 4, .int .i64 1]) := by kernel_rfl
theorem wv26 : decide (([0, 4, 1] : List Int) = [0, 4, 1]) = true := by kernel_rfl
theorem wv27 : (literalF Try.prog 22 4 [(0, (.int .i64 0)), (1, (.int .i64 9)), (2, (.int .i64 0)), (3, (.int .i64 10))]).map (AV.imm 4 true) = some (AV.imm 4 true [.int .i64 0, .int .i64 9, .int .i64 0, .int .i64 10]) := by kernel_rfl
theorem wv28 : decide (([0, 9, 0, 10] : List Int) = [0, 9, 0, 10]) = true := by kernel_rfl
theorem wv29 : (literalF Try.prog 22 5 [(0, (.int .i64 0)), (1, (.int .i64 0)), (2, (.int .i64 2)), (3, (.int .i64 2)), (4, (.int .i64 4))]).map (AV.imm 5 true) = some (AV.imm 5 true [.int .i64 0, .int .i64 0, .int .i64 2, .int .i64 2, .int .i64 4]) := by kernel_rfl
theorem wv30 : decide (([0, 0, 2, 2, 4] : List Int) = [0, 0, 2, 2, 4]) = true := by kernel_rfl
theorem wv31 : (literalF Try.prog 22 4 [(0, (.int .i64 1)), (1, (.int .i64 2)), (2, (.int .i64 3)), (3, (.int .i64 4))]).map (AV.imm 4 true) = some (AV.imm 4 true [.int .i64 1, .int .i64 2, .int .i64 3, .int .i64 4]) := by kernel_rfl
theorem wv32 : decide (([1, 2, 3, 4] : List Int) = [1, 2, 3, 4]) = true := by kernel_rfl
theorem wv33 : provesO 6 [3, 2, 2, 5] [1, 3, 4] [0, 9, 0, 10] = 0 := by kernel_rfl
theorem wv34 : provesO 6 [3, 2, 2, 5] [2, 3, 4] [0, 9, 0, 10] = 14 := by kernel_rfl
theorem wv35 : (literalF Try.prog 22 1 [(0, (.int .i64 4))]).map (AV.imm 1 true) = some (AV.imm 1 true [.int .i64 4]) := by kernel_rfl
theorem wv36 : endedE 6 [3, 2, 2, 5] [4] = 15 := by kernel_rfl
/-- function 16 -/
theorem c16 {H : Heap} {K : AV → Heap → Prop} (hk : K (.bool true) H) : ACalls Try.prog 16 [] H K := by
  apply W16_ok
  unfold W16
  refine letO_of rfl ?_
  refine c58 ?_
  refine c17 (w := 6) (ws := [3, 2, 2, 5]) ⟨rfl, rfl⟩ (by simp) ?_
  rw [wv1, wv2]
  refine letO_of rfl (letO_of rfl (letO_of rfl (letO_of rfl (letO_of rfl ?_))))
  refine c56 ?_
  refine c19 (w := 10) (ws := [3, 3, 4, 2, 5]) ⟨rfl, rfl⟩ (by simp) ?_
  rw [wv3, wv4]
  refine letO_of rfl (letO_of rfl (letO_of rfl (letO_of rfl (letO_of rfl ?_))))
  refine c57 ?_
  refine c21 (w := 6) (ws := [1, 1, 1, 1, 1, 1]) ⟨rfl, rfl⟩ (by simp) ?_
  rw [wv5, wv6]
  refine letO_of rfl (letO_of rfl (letO_of rfl (letO_of rfl (letO_of rfl ?_))))
  refine c58 ?_
  refine c36 (w := 6) (ws := [3, 2, 2, 5]) ⟨rfl, rfl⟩ (by simp) ?_
  rw [wv7, wv2]
  refine letO_of rfl (letO_of rfl (letO_of rfl (letO_of rfl (letO_of rfl ?_))))
  refine c58 ?_
  refine letO_of wv8 ?_
  refine c46 ?_
  refine c45 (w := 6) (ws := [3, 2, 2, 5]) (ends := [2, 3, 4]) ⟨rfl, rfl⟩ ⟨rfl, rfl⟩ (by simp) (by simp) ?_
  rw [wv9, wv10]
  refine letO_of rfl (letO_of rfl (letO_of rfl (letO_of rfl (letO_of rfl ?_))))
  refine c58 ?_
  refine letO_of wv8 ?_
  refine c46 ?_
  refine c44p (w := 6) (ws := [3, 2, 2, 5]) (ends := [2, 3, 4]) ⟨rfl, rfl⟩ ⟨rfl, rfl⟩ (by simp) (by simp) ?_
  rw [wv11, wv10]
  refine letO_of rfl (letO_of rfl (letO_of rfl (letO_of rfl (letO_of rfl ?_))))
  refine c58 ?_
  refine c26 (w := 6) (ws := [3, 2, 2, 5]) ⟨rfl, rfl⟩ (by simp) ?_
  rw [wv12, wv2]
  refine letO_of rfl (letO_of rfl (letO_of rfl (letO_of rfl (letO_of rfl (letO_of rfl ?_)))))
  refine letO_of (x := .bool false) rfl ?_
  refine letO_of rfl (letO_of rfl ?_)
  refine letO_of (x := .bool false) rfl ?_
  refine letO_of (x := .bool false) rfl ?_
  refine letO_of rfl (letO_of rfl ?_)
  refine letO_of (x := .bool false) rfl ?_
  refine letO_of (x := .bool false) rfl ?_
  refine letO_of rfl (letO_of rfl ?_)
  refine letO_of (x := .bool false) rfl ?_
  refine letO_of (x := .bool false) rfl ?_
  refine letO_of rfl (letO_of rfl ?_)
  refine letO_of (x := .bool false) rfl ?_
  refine letO_of (x := .bool false) rfl ?_
  refine letO_of rfl (letO_of rfl ?_)
  refine letO_of (x := .bool false) rfl ?_
  refine letO_of (x := .bool false) rfl ?_
  refine letO_of rfl (letO_of rfl ?_)
  refine letO_of (x := .bool false) rfl ?_
  refine letO_of (x := .bool false) rfl ?_
  refine condA_ff.2 ?_
  refine c58 ?_
  refine letO_of wv13 ?_
  refine c46 ?_
  refine c28 (w := 6) (ws := [3, 2, 2, 5]) (P := [0, 9, 0, 10]) ⟨rfl, rfl⟩ ⟨rfl, rfl⟩ (by simp) (by simp) ?_
  rw [wv14]
  refine letO_of rfl (letO_of rfl (letO_of rfl (letO_of rfl (letO_of rfl ?_))))
  refine c56 ?_
  refine c23 (w := 10) (ws := [3, 3, 4, 2, 5]) ⟨rfl, rfl⟩ (by simp) ?_
  rw [wv15, wv4]
  refine letO_of rfl (letO_of rfl (letO_of rfl (letO_of rfl (letO_of rfl ?_))))
  refine c58 ?_
  refine letO_of wv16 ?_
  refine c46 ?_
  refine c32 (w := 6) (ws := [3, 2, 2, 5]) (ends := [1, 3, 4]) ⟨rfl, rfl⟩ ⟨rfl, rfl⟩ (by simp) (by simp) ?_
  rw [wv17]
  refine letO_of rfl (letO_of rfl (letO_of rfl (letO_of rfl (letO_of rfl (letO_of rfl (letO_of rfl ?_))))))
  refine c58 ?_
  refine letO_of wv18 ?_
  refine c46 ?_
  refine c28 (w := 6) (ws := [3, 2, 2, 5]) (P := [0, 9, 0, 11]) ⟨rfl, rfl⟩ ⟨rfl, rfl⟩ (by simp) (by simp) ?_
  rw [wv19]
  refine letO_of rfl (letO_of rfl (letO_of rfl (letO_of rfl ?_)))
  refine c58 ?_
  refine letO_of wv16 ?_
  refine c46 ?_
  refine c32 (w := 6) (ws := [3, 2, 2, 5]) (ends := [1, 3, 4]) ⟨rfl, rfl⟩ ⟨rfl, rfl⟩ (by simp) (by simp) ?_
  rw [wv20]
  refine letO_of rfl (letO_of rfl (letO_of rfl (letO_of rfl (letO_of rfl (letO_of rfl ?_)))))
  refine letO_of (x := .bool true) rfl ?_
  refine letO_of rfl (letO_of rfl ?_)
  refine letO_of (x := .bool true) rfl ?_
  refine letO_of (x := .bool true) rfl ?_
  refine letO_of rfl (letO_of rfl ?_)
  refine letO_of (x := .bool true) rfl ?_
  refine letO_of (x := .bool true) rfl ?_
  refine letO_of rfl (letO_of rfl ?_)
  refine letO_of (x := .bool true) rfl ?_
  refine letO_of (x := .bool true) rfl ?_
  refine letO_of rfl (letO_of rfl ?_)
  refine letO_of (x := .bool true) rfl ?_
  refine letO_of (x := .bool true) rfl ?_
  refine letO_of rfl (letO_of rfl ?_)
  refine letO_gv ?_
  refine letO_of wv21 ?_
  refine exJc ?_
  refine c46 ?_
  refine exJc ?_
  refine c25p (l := [1, 3, 4]) (m := [1, 3, 4]) (Reads.sl _ _) ⟨rfl, rfl⟩ (by simp) ?_
  rw [wv22]
  refine letO_of (x := .bool true) rfl ?_
  refine letO_of rfl (letO_of rfl ?_)
  refine letO_of (x := .bool true) rfl ?_
  refine letO_of (x := .bool true) rfl ?_
  refine letO_of rfl (letO_of rfl ?_)
  refine letO_of (x := .bool true) rfl ?_
  refine letO_of (x := .bool true) rfl ?_
  refine letO_of rfl (letO_of rfl ?_)
  refine letO_gv ?_
  refine letO_of wv23 ?_
  refine exJc ?_
  refine c46 ?_
  refine exJc ?_
  refine c25p (l := [2, 3, 4]) (m := [2, 3, 4]) (Reads.sl _ _) ⟨rfl, rfl⟩ (by simp) ?_
  rw [wv24]
  refine letO_of (x := .bool true) rfl ?_
  refine letO_of rfl (letO_of rfl ?_)
  refine letO_of (x := .bool true) rfl ?_
  refine letO_of (x := .bool true) rfl ?_
  refine letO_of rfl (letO_of rfl ?_)
  refine letO_gv ?_
  refine letO_of wv25 ?_
  refine exJc ?_
  refine c46 ?_
  refine exJc ?_
  refine c25p (l := [0, 4, 1]) (m := [0, 4, 1]) (Reads.sl _ _) ⟨rfl, rfl⟩ (by simp) ?_
  rw [wv26]
  refine letO_of (x := .bool true) rfl ?_
  refine letO_of rfl (letO_of rfl ?_)
  refine letO_gv ?_
  refine letO_of wv27 ?_
  refine exJc ?_
  refine c46 ?_
  refine exJc ?_
  refine c25p (l := [0, 9, 0, 10]) (m := [0, 9, 0, 10]) (Reads.sl _ _) ⟨rfl, rfl⟩ (by simp) ?_
  rw [wv28]
  refine letO_of (x := .bool true) rfl ?_
  refine letO_of rfl (letO_of rfl ?_)
  refine letO_of (x := .bool true) rfl ?_
  refine letO_of (x := .bool true) rfl ?_
  refine letO_of rfl (letO_of rfl ?_)
  refine letO_gv ?_
  refine letO_of wv29 ?_
  refine exJc ?_
  refine c46 ?_
  refine exJc ?_
  refine c25p (l := [0, 0, 2, 2, 4]) (m := [0, 0, 2, 2, 4]) (Reads.sl _ _) ⟨rfl, rfl⟩ (by simp) ?_
  rw [wv30]
  refine letO_of (x := .bool true) rfl ?_
  refine letO_of rfl (letO_of rfl ?_)
  refine letO_gv ?_
  refine letO_of wv31 ?_
  refine exJc ?_
  refine c46 ?_
  refine exJc ?_
  refine c25p (l := [1, 2, 3, 4]) (m := [1, 2, 3, 4]) (Reads.sl _ _) ⟨rfl, rfl⟩ (by simp) ?_
  rw [wv32]
  refine letO_of (x := .bool true) rfl ?_
  refine letO_of rfl (letO_of rfl ?_)
  refine letO_of (x := .bool true) rfl ?_
  refine letO_of (x := .bool true) rfl ?_
  refine letO_of rfl ?_
  refine exJc ?_
  refine c58 ?_
  refine letO_of rfl (letO_of rfl ?_)
  refine exJc ?_
  refine c30 (w := 6) (ws := [3, 2, 2, 5]) (ends := [1, 3, 4]) (P := [0, 9, 0, 10]) ⟨rfl, rfl⟩ (Reads.sl _ _) (Reads.sl _ _) (by simp) (by simp) (by simp) ?_
  rw [wv33]
  refine letO_of (x := .bool true) rfl ?_
  refine letO_of (x := .bool true) rfl ?_
  refine letO_of rfl ?_
  refine exJc ?_
  refine c58 ?_
  refine letO_of rfl (letO_of rfl ?_)
  refine exJc ?_
  refine c30 (w := 6) (ws := [3, 2, 2, 5]) (ends := [2, 3, 4]) (P := [0, 9, 0, 10]) ⟨rfl, rfl⟩ (Reads.sl _ _) (Reads.sl _ _) (by simp) (by simp) (by simp) ?_
  rw [wv34]
  refine letO_of (x := .bool true) rfl ?_
  refine letO_of (x := .bool true) rfl ?_
  refine letO_of rfl ?_
  refine exJc ?_
  refine c58 ?_
  refine letO_gv ?_
  refine letO_of wv35 ?_
  refine exJc ?_
  refine c46 ?_
  refine exJc ?_
  refine c42 (w := 6) (ws := [3, 2, 2, 5]) (ends := [4]) ⟨rfl, rfl⟩ ⟨rfl, rfl⟩ (by simp) (by simp) ?_
  rw [wv36]
  refine letO_of (x := .bool true) rfl ?_
  refine letO_of (x := .bool true) rfl ?_
  refine letO_of rfl ?_
  exact endK_ret hk
end Go.Proofs.Ytlajhbpkogekfaa
