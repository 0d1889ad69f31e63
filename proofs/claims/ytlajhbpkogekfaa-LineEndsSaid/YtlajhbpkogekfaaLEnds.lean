import Derived.Test.YtlajhbpkogekfaaCon
import Derived.Test.YtlajhbpkogekfaaAvB
import Derived.Test.YtlajhbpkogekfaaRows
import Derived.Test.YtlajhbpkogekfaaLEndsW
/- LineEnds: for every input the law returns true, and the input reads as before. No conditions. -/
/- Texts by numbers. -/
set_option linter.unusedVariables false
namespace Line
def gw (W : Nat) : Nat := 1 + W % 40
def glong (W S : Nat) : Nat := if S % 3 > 0 then 1 + gw W / 2 else gw W
def gmin (W S : Nat) : Nat := if gw W < glong W S then gw W else glong W S
def gwords (W S : Nat) (l : List Nat) : List Int := l.map fun x => ((1 + x % gmin W S : Nat) : Int)
def madeL (W M S : Nat) (l : List Nat) (most : Nat) : List Int := gwords W S (l.take (1 + M % most))
theorem gw_range (W : Nat) : 1 ≤ gw W ∧ gw W ≤ 40 := by unfold gw; omega
theorem gmin_range (W S : Nat) : 1 ≤ gmin W S ∧ gmin W S ≤ gw W := by
  have := gw_range W
  unfold gmin glong
  split <;> split <;> omega
theorem made_len {W M S : Nat} {l : List Nat} {most : Nat} (hl : l.length = 10) (hm : 1 ≤ most ∧ most ≤ 10) : (madeL W M S l most).length = 1 + M % most := by
  have := Nat.mod_lt M (show most > 0 by omega)
  simp [madeL, gwords]; omega
theorem chk_made {W M S : Nat} {l : List Nat} {most : Nat} (hl : l.length = 10) (hm : 1 ≤ most ∧ most ≤ 10) : chk (gw W) (madeL W M S l most) = 0 := by
  have h1 := gw_range W
  have h2 := made_len (W := W) (M := M) (S := S) hl hm
  have h3 := Nat.mod_lt M (show most > 0 by omega)
  unfold chk
  rw [if_neg (by omega), if_neg (by omega), if_neg (by omega), if_pos]
  intro x hx
  simp only [madeL, gwords, List.mem_map] at hx
  obtain ⟨y, _, rfl⟩ := hx
  have h4 := gmin_range W S
  have := Nat.mod_lt y (show gmin W S > 0 by omega)
  omega
end Line

/- Ends in order. -/
set_option linter.unusedVariables false
namespace Line
/-- Ends that ascend, behind one, up to a last place. -/
def asc (n : Int) : Int → List Int → Prop
  | _, [] => True
  | last, e :: r => last < e ∧ 1 ≤ e ∧ e ≤ n ∧ asc n e r
theorem scan_asc {n : Int} : ∀ {l : List Int} {last : Int} (r : List Int), asc n last l → scan n last (l ++ r) = scan n (l.getLastD last) r
  | [], last, r, _ => rfl
  | e :: l, last, r, h => by
    obtain ⟨h1, h2, h3, h4⟩ := h
    rw [List.cons_append, scan, if_neg (by omega), if_neg (by omega), scan_asc r h4, List.getLastD_cons]
theorem asc_snoc {n : Int} : ∀ {l : List Int} {last x : Int}, asc n last l → l.getLastD last < x → 1 ≤ x → x ≤ n → asc n last (l ++ [x])
  | [], last, x, _, h1, h2, h3 => ⟨by simpa using h1, h2, h3, trivial⟩
  | e :: l, last, x, h, h1, h2, h3 => by
    obtain ⟨g1, g2, g3, g4⟩ := h
    rw [List.getLastD_cons] at h1
    exact ⟨g1, g2, g3, asc_snoc g4 h1 h2 h3⟩
theorem asc_of_scan {n : Int} : ∀ {l : List Int} {last : Int}, scan n last l = 0 → asc n last l
  | [], _, _ => trivial
  | e :: r, last, h => by
    rw [scan] at h
    split at h; · omega
    split at h; · omega
    exact ⟨by omega, by omega, by omega, asc_of_scan h⟩
/-- A line begins before it ends. -/
theorem stN_lt {n : Int} {l : List Int} (h : asc n 0 l) {k : Nat} (hk : k < l.length) : stN (toN l) k < (toN l).getD k 0 := by
  have key : ∀ {l : List Int} {last : Int}, 0 ≤ last → asc n last l → ∀ k, k < l.length → (if k = 0 then last.toNat else (toN l).getD (k - 1) 0) < (toN l).getD k 0 := by
    intro l
    induction l with
    | nil => intro last _ _ k hk; simp at hk
    | cons e r ih =>
      intro last hl h k hk
      obtain ⟨h1, h2, h3, h4⟩ := h
      cases k with
      | zero => simp [toN]; omega
      | succ k =>
        have := ih (last := e) (by omega) h4 k (by simpa using hk)
        cases k with
        | zero => simpa [toN] using this
        | succ k => simpa [toN] using this
  have := key (Int.le_refl 0) h k hk
  unfold stN
  simpa using this
theorem asc_le {n : Int} : ∀ {l : List Int} {last : Int}, asc n last l → ∀ e ∈ l, 1 ≤ e ∧ e ≤ n
  | [], _, _ => by simp
  | e :: r, last, h => by
    obtain ⟨h1, h2, h3, h4⟩ := h
    intro x hx
    rcases List.mem_cons.1 hx with rfl | hx
    · exact ⟨h2, h3⟩
    · exact asc_le h4 x hx
theorem up_append (a b : List Nat) : up (a ++ b) = up a ++ up b := by simp [up]
theorem up_snoc (a : List Nat) (q : Nat) : up (a ++ [q]) = up a ++ [(q : Int)] := by simp [up]
theorem toN_up (E : List Nat) : toN (up E) = E := by
  simp only [toN, up, List.map_map]
  conv => rhs; rw [← List.map_id E]
  exact List.map_congr_left fun x _ => by simp
end Line

/- Lines of ends, one by one. -/
set_option linter.unusedVariables false
set_option linter.unusedSimpArgs false
namespace Line
theorem getD_append_lt {E r : List Nat} {k : Nat} (h : k < E.length) : (E ++ r).getD k 0 = E.getD k 0 := by
  rw [List.getD_eq_getElem?_getD, List.getElem?_append_left h, ← List.getD_eq_getElem?_getD]
theorem getD_last (E : List Nat) (h : E ≠ []) : E.getD (E.length - 1) 0 = E.getLastD 0 := by
  rw [List.getLastD_eq_getLast?, List.getD_eq_getElem?_getD, List.getLast?_eq_getElem?]
theorem stN_append {E r : List Nat} : stN (E ++ r) E.length = E.getLastD 0 := by
  unfold stN
  split
  · rename_i h
    have : E = [] := List.eq_nil_of_length_eq_zero h
    subst this; rfl
  · rename_i h
    rw [getD_append_lt (by omega), getD_last E (by rintro rfl; simp at h)]
theorem spansN_append (E r : List Nat) : spansN (E ++ r) E.length = spansN E E.length := by
  unfold spansN
  refine List.map_congr_left fun k hk => ?_
  have hk := List.mem_range.1 hk
  unfold spanN stN
  rw [getD_append_lt hk]
  split
  · rfl
  · rw [getD_append_lt (by omega)]
theorem spansN_snoc (E : List Nat) (x : Nat) : spansN (E ++ [x]) (E.length + 1) = spansN E E.length ++ [(E.getLastD 0, x)] := by
  rw [spansN_succ, spansN_append]
  unfold spanN
  rw [stN_append, List.getD_eq_getElem?_getD, List.getElem?_append_right (Nat.le_refl _)]
  simp
theorem over_snoc (w : Int) (ws : List Int) (E : List Nat) (x : Nat) : over w ws (E ++ [x]) = (over w ws E || decide (lf w ws (E.getLastD 0) x < 0)) := by
  unfold over
  rw [List.length_append, List.length_singleton, spansN_snoc, List.any_append]
  simp
theorem up_lastD (E : List Nat) : (up E).getLastD 0 = (E.getLastD 0 : Nat) := by
  cases E with
  | nil => rfl
  | cons a l => simp [up, List.getLastD_eq_getLast?, List.getLast?_map, List.getLast?_cons]
/-- Ends that ascend, end with the last word, and fit. -/
theorem ended_mk {w : Int} {ws : List Int} {E : List Nat} (hc : chk w ws = 0) (ha : asc ws.length 0 (up E)) (hl : E.getLastD 0 = ws.length) (ho : over w ws E = false) : endedE w ws (up E) = 0 := by
  have hs : scan ws.length 0 (up E) = 0 := by
    have := scan_asc [] ha
    rw [List.append_nil] at this
    rw [this, up_lastD, hl]; simp [scan]
  rw [endedE, hc, hs, toN_up, ho]; simp

/-- What the first lines cost, but for those from a number on. -/
def wantE (w : Int) (ws : List Int) (E : List Nat) (m : Nat) : Nat → Int
  | 0 => 0
  | i + 1 => wantE w ws E m i + if i < m then sqf w ws (stN E i) (E.getD i 0) else 0
theorem costS_append {w : Int} {ws : List Int} {last p : Nat × Nat} {l : List (Nat × Nat)} : costS w ws last (l ++ [p]) = costS w ws last l + if p = last then 0 else sqf w ws p.1 p.2 := by
  simp [costS]
theorem costE_eq {w : Int} {ws : List Int} {E : List Nat} {n : Int} (ha : asc n 0 (up E)) (hne : E ≠ []) : ∀ i, i ≤ E.length → costS w ws (spanN E (E.length - 1)) (spansN E i) = wantE w ws E (E.length - 1) i
  | 0, _ => rfl
  | i + 1, h => by
    have hlen : 0 < E.length := List.length_pos_iff.2 hne
    rw [spansN_succ, costS_append, costE_eq ha hne i (by omega), wantE]
    congr 1
    by_cases hi : i < E.length - 1
    · rw [if_neg, if_pos hi]
      · rfl
      · intro he
        have h1 := congrArg Prod.snd he
        simp only [spanN] at h1
        have mono : ∀ d k, k + d + 1 < E.length → E.getD k 0 < E.getD (k + d + 1) 0 := by
          intro d
          induction d with
          | zero =>
            intro k hk
            have := stN_lt ha (k := k + 1) (by simpa using hk)
            rw [toN_up] at this
            simpa [stN] using this
          | succ d ih =>
            intro k hk
            have a1 := ih k (by omega)
            have := stN_lt ha (k := k + d + 1 + 1) (by simp; omega)
            rw [toN_up] at this
            simp only [stN, Nat.add_one_sub_one] at this
            rw [if_neg (by omega)] at this
            have e : k + (d + 1) + 1 = k + d + 1 + 1 := by omega
            rw [e]
            omega
        have := mono (E.length - 1 - i - 1) i (by omega)
        rw [show i + (E.length - 1 - i - 1) + 1 = E.length - 1 by omega] at this
        omega
    · have : i = E.length - 1 := by omega
      subst this
      rw [if_pos rfl, if_neg (by omega)]
theorem psum_len (ws : List Int) : psum ws ws.length = ws.sum + ws.length := by simp [psum]
theorem ended_up {w : Int} {ws es : List Int} (h : endedE w ws es = 0) : up (toN es) = es := by
  obtain ⟨h1, h2, h3⟩ : chk w ws = 0 ∧ scan ws.length 0 es = 0 ∧ over w ws (toN es) = false := by
    unfold endedE at h
    by_cases h1 : chk w ws = 0 <;> simp only [h1, ne_eq, not_true, not_false_eq_true, if_true, if_false] at h
    · by_cases h2 : scan ws.length 0 es = 0 <;> simp only [h2, ne_eq, not_true, not_false_eq_true, if_true, if_false] at h
      · refine ⟨h1, h2, ?_⟩
        cases h3 : over w ws (toN es) <;> simp [h3] at h ⊢
  exact up_toN fun e he => (scan_range h2 e he).1
end Line

/- Full lines, and lines that get longer. -/
set_option linter.unusedVariables false
namespace Line
theorem psum_mono {ws : List Int} (h : ∀ x ∈ ws, 1 ≤ x) {i j : Nat} (hij : i ≤ j) (hj : j ≤ ws.length) : psum ws i + 2 * ((j : Int) - i) ≤ psum ws j := by
  induction j with
  | zero => have : i = 0 := by omega
            subst this; omega
  | succ j ih =>
    by_cases he : i = j + 1
    · subst he; omega
    · have := ih (by omega) (by omega)
      rw [psum_succ (by omega)]
      have hm : ws.getD j 0 ∈ ws := by rw [List.getD_eq_getElem?_getD]; simp [show j < ws.length by omega]
      have := h _ hm
      omega
theorem lf_mono {w : Int} {ws : List Int} (hc : chk w ws = 0) {i j k : Nat} (hij : i ≤ j) (hjk : j ≤ k) (hk : k ≤ ws.length) : lf w ws i k ≤ lf w ws i j := by
  have := psum_mono (ws := ws) (fun x hx => ((chk_ok hc).2.2.2.2 x hx).1) hjk hk
  rw [lf_eq (by omega) (by omega), lf_eq (by omega) (by omega)]
  omega
theorem endN_eq {w : Int} {ws : List Int} {i m : Nat} (h1 : 1 ≤ m) (h2 : 0 ≤ lf w ws i m) : ∀ d, (∀ j, m < j → j ≤ m + d → lf w ws i j < 0) → endN w ws i (m + d) = m
  | 0, _ => by
    obtain ⟨m, rfl⟩ : ∃ m', m = m' + 1 := ⟨m - 1, by omega⟩
    rw [Nat.add_zero, endN, if_neg (by omega)]
  | d + 1, h => by
    rw [← Nat.add_assoc, endN, if_pos (h _ (by omega) (by omega))]
    exact endN_eq h1 h2 d fun j hj hj2 => h j hj (by omega)
theorem endN_greedy {w : Int} {ws : List Int} (hc : chk w ws = 0) {i m : Nat} (h1 : i < m) (h2 : 0 ≤ lf w ws i m) (hm : m ≤ ws.length) (h3 : m = ws.length ∨ lf w ws i (m + 1) < 0) : endN w ws i ws.length = m := by
  have := endN_eq (w := w) (ws := ws) (i := i) (m := m) (by omega) h2 (ws.length - m) fun j hj hj2 => by
    rcases h3 with h3 | h3
    · omega
    · have := lf_mono hc (i := i) (j := m + 1) (k := j) (by omega) (by omega) (by omega)
      omega
  rwa [show m + (ws.length - m) = ws.length by omega] at this
theorem fullE_done (w : Int) (ws : List Int) (f : Nat) : fullE w ws f ws.length = [] := by cases f <;> simp [fullE]
theorem wantE_m {w : Int} {ws : List Int} {E : List Nat} {m : Nat} : ∀ {i m' : Nat}, i ≤ m → i ≤ m' → wantE w ws E m i = wantE w ws E m' i
  | 0, _, _, _ => rfl
  | i + 1, m', h1, h2 => by
    rw [wantE, wantE, wantE_m (m' := m') (by omega) (by omega), if_pos (by omega), if_pos (by omega)]
end Line

namespace Go.Proofs.Ytlajhbpkogekfaa
open Go.Av Line
set_option linter.unusedVariables false
set_option linter.unusedSimpArgs false
set_option maxRecDepth 4000

theorem slc_reads {H : Heap} {v : AV} {l : List Int} {i j : Nat} (h : Reads H v l) (hij : i < j) (hj : j ≤ l.length) :
    ∃ v', slc 1 v (some (.int .i64 (i : Int))) (some (.int .i64 (j : Int))) none = some v' ∧ Reads H v' ((l.drop i).take (j - i)) := by
  have n1 : ∀ d, natOf (some (.int .i64 (i : Int))) d = some i := fun d => by simp [natOf]
  have n2 : ∀ d, natOf (some (.int .i64 (j : Int))) d = some j := fun d => by simp [natOf]
  cases v <;> simp only [Reads] at h <;> try exact h.elim
  · subst h; simp at hj; omega
  · obtain ⟨rfl, rfl⟩ := h
    simp only [slc, n1, n2, Option.bind_some]
    rw [if_pos ⟨by omega, hj⟩]
    refine ⟨_, rfl, by simp; omega, ?_⟩
    rw [Nat.mul_one, Nat.mul_one, ints_drop, ints_take]
  · rename_i s b off n cp
    obtain ⟨rfl, rfl, cells, hb, hc, ht⟩ := h
    simp only [slc, n1, n2, Option.bind_some]
    rw [if_pos ⟨by trivial, by omega, hj, by omega⟩]
    refine ⟨_, rfl, rfl, by simp; omega, cells, hb, by omega, ?_⟩
    rw [Nat.mul_one, ← ints_take, ← ints_drop, ← ht, List.drop_take, List.take_take, List.drop_drop, Nat.min_eq_left (by omega)]

/-- left, of the law -/
theorem c43 {w : Int} {v : AV} {ws : List Int} {i j : Nat} {H : Heap} {K : AV → Heap → Prop} (hv : Reads H v ws) (hc : chk w ws = 0) (hij : i < j) (hj : j ≤ ws.length) (hk : K (.int .i64 (lf w ws i j)) H) :
    ACalls Try.prog 43 [.agg [.int .i64 w, v], .int .i64 i, .int .i64 j] H K := by
  apply W43_ok
  unfold W43
  obtain ⟨w1, w2, n1, n2, hws⟩ := chk_ok hc
  obtain ⟨v', hs, hr⟩ := slc_reads hv hij hj
  have hll : ((ws.drop i).take (j - i)).length = j - i := by simp; omega
  simp only [letO_some, cellsOf?_agg, cellsOf?_int, cellsOf?_bool, cellsOf?_imm, cellsOf?_ref, cellsOf?_nils, faddr_iptr, faddr_ptr, List.drop_succ_cons, List.drop_zero, List.take_succ_cons, List.take_zero, load1_iptr, loadN_iptr, List.length_cons, List.length_nil, Nat.le_refl, if_true, List.getElem?_cons_zero, List.getElem?_cons_succ, List.getD_cons_zero, List.getD_cons_succ, extrF_tup, binF_add, binF_sub, binF_mul, binF_eql, binF_neq, binF_lss, binF_leq, binF_gtr, binF_geq, true_and, hs, hr.len]
  refine ⟨fun L H' => ∃ (k : Nat), L = [.int .i64 (psum ws (i + k) - psum ws i - 1), .int .i64 k] ∧ i + k ≤ j ∧ H' = H, fun L _ => (j - i - iv L 1).toNat, ⟨0, by simp, by omega, rfl⟩, ?_⟩
  intro L H' hI
  obtain ⟨k, rfl, hk1, rfl⟩ := hI
  simp only [letO_some, cellsOf?_agg, cellsOf?_int, cellsOf?_bool, cellsOf?_imm, cellsOf?_ref, cellsOf?_nils, faddr_iptr, faddr_ptr, List.drop_succ_cons, List.drop_zero, List.take_succ_cons, List.take_zero, load1_iptr, loadN_iptr, List.length_cons, List.length_nil, Nat.le_refl, if_true, List.getElem?_cons_zero, List.getElem?_cons_succ, List.getD_cons_zero, List.getD_cons_succ, extrF_tup, binF_add, binF_sub, binF_mul, binF_eql, binF_neq, binF_lss, binF_leq, binF_gtr, binF_geq, true_and, hll]
  have hb1 := psum_le (ws := ws) (k := i) fun x hx => by have := hws x (List.mem_of_mem_take hx); omega
  have hb2 := psum_le (ws := ws) (k := i + k) fun x hx => by have := hws x (List.mem_of_mem_take hx); omega
  refine condA_t (fun hlt => ?_) (fun hge => ?_)
  · refine hr.get (Heap.le_refl _) (by omega) (by rw [hll]; exact hlt) ?_
    have hk2 : k < j - i := by omega
    have hg : ((ws.drop i).take (j - i)).getD (k : Int).toNat 0 = ws.getD (i + k) 0 := by
      rw [Int.toNat_natCast, List.getD_eq_getElem?_getD, List.getElem?_take_of_lt hk2, List.getElem?_drop, ← List.getD_eq_getElem?_getD]
    rw [hg]
    have hm : ws.getD (i + k) 0 ∈ ws := by rw [List.getD_eq_getElem?_getD]; simp [show i + k < ws.length by omega]
    have hx := hws _ hm
    have hp := psum_succ (show i + k < ws.length by omega)
    simp only [letO_some, cellsOf?_agg, cellsOf?_int, cellsOf?_bool, cellsOf?_imm, cellsOf?_ref, cellsOf?_nils, faddr_iptr, faddr_ptr, List.drop_succ_cons, List.drop_zero, List.take_succ_cons, List.take_zero, load1_iptr, loadN_iptr, List.length_cons, List.length_nil, Nat.le_refl, if_true, List.getElem?_cons_zero, List.getElem?_cons_succ, List.getD_cons_zero, List.getD_cons_succ, extrF_tup, binF_add, binF_sub, binF_mul, binF_eql, binF_neq, binF_lss, binF_leq, binF_gtr, binF_geq, true_and]
    rw [wrap_i64 (n := ws.getD (i + k) 0 + 1) (by omega) (by omega), wrap_i64 (n := psum ws (i + k) - psum ws i - 1 + (ws.getD (i + k) 0 + 1)) (by omega) (by omega), wrap_i64 (n := (k : Int) + 1) (by omega) (by omega)]
    try simp only [true_and, and_true]
    refine ⟨⟨k + 1, ?_, by omega⟩, by simp <;> omega⟩
    have e : psum ws (i + (k + 1)) - psum ws i - 1 = psum ws (i + k) - psum ws i - 1 + (ws.getD (i + k) 0 + 1) := by
      rw [show i + (k + 1) = i + k + 1 by omega, hp]; omega
    rw [e]
    rfl
  · have : i + k = j := by omega
    rw [this] at hb2 ⊢
    rw [wrap_i64 (by omega) (by omega)]
    rw [lf_eq (by omega) hj] at hk
    refine endK_ret ?_
    have e : w - (psum ws j - psum ws i - 1) = w + 1 - (psum ws j - psum ws i) := by omega
    rw [e]; exact hk

theorem conv53 {n : Int} (h : 0 ≤ n ∧ n < 256) : convF Try.prog 5 3 (.int .u8 n) = some (.int .i64 n) := by
  have h1 : Try.prog.underlying 5 = some (.int .u8) := by kernel_rfl
  have h2 : Try.prog.underlying 3 = some (.int .i64) := by kernel_rfl
  simp only [convF, h1, h2]
  rw [wrap_i64 (by omega) (by omega)]
theorem rem_nat {k : IntKind} {t : TypeId} {a b : Nat} (hb : b ≠ 0) : binF Try.prog .rem t (.int k (a : Int)) (.int k (b : Int)) = some (.int k ((a % b : Nat) : Int)) := by
  simp only [binF]
  rw [if_pos ⟨by trivial, by omega⟩, Int.ofNat_tmod]
theorem quo_nat {t : TypeId} {a b : Nat} (hb : b ≠ 0) (ha : a < 1000000000) : binF Try.prog .quo t (.int .i64 (a : Int)) (.int .i64 (b : Int)) = some (.int .i64 ((a / b : Nat) : Int)) := by
  simp only [binF]
  rw [if_pos ⟨by trivial, by omega⟩, ← Int.ofNat_tdiv]
  have := Nat.div_le_self a b
  generalize a / b = q at *
  rw [wrap_i64 (by omega) (by omega)]
theorem b24n {x : AV} (hx : cellsOf? x = some [x]) : buildF Try.prog 24 [(0, x)] = some (.agg [x, .nils]) := by
  rw [buildF_of (show buildPlan Try.prog 24 = some ([.int .i64 0, .nils], [(0, 1), (1, 1)]) by kernel_rfl)]
  simp [fillA, hx, splice]
def u8s (l : List Nat) : List AV := l.map fun (x : Nat) => .int .u8 (x : Int)
@[simp] theorem u8s_length (l : List Nat) : (u8s l).length = l.length := by simp [u8s]

/-- made -/
theorem c34 {W M S most : Nat} {l : List Nat} {H : Heap} {K : AV → Heap → Prop} (hW : W < 256) (hM : M < 256) (hS : S < 256) (hl : l.length = 10) (hlx : ∀ x ∈ l, x < 256) (hm : 1 ≤ most ∧ most ≤ 10)
    (hk : K (.agg [.int .i64 (gw W : Nat), sl (madeL W M S l most)]) H) : ACalls Try.prog 34 [.agg (u8s (W :: M :: S :: l)), .int .i64 most] H K := by
  apply W34_ok
  unfold W34
  have hgw := gw_range W
  have hgm := gmin_range W S
  have hr40 : binF Try.prog .rem 3 (.int .i64 (W : Int)) (.int .i64 40) = some (.int .i64 ((W % 40 : Nat) : Int)) := rem_nat (b := 40) (by decide)
  simp only [letO_some, cellsOf?_agg, cellsOf?_int, cellsOf?_bool, cellsOf?_imm, cellsOf?_ref, cellsOf?_nils, faddr_iptr, faddr_ptr, List.drop_succ_cons, List.drop_zero, List.take_succ_cons, List.take_zero, load1_iptr, loadN_iptr, List.length_cons, List.length_nil, Nat.le_refl, if_true, List.getElem?_cons_zero, List.getElem?_cons_succ, List.getD_cons_zero, List.getD_cons_succ, extrF_tup, binF_add, binF_sub, binF_mul, binF_eql, binF_neq, binF_lss, binF_leq, binF_gtr, binF_geq, true_and, u8s, List.map_cons, conv53 (show (0 : Int) ≤ W ∧ (W : Int) < 256 by omega), hr40]
  intro b4 hb4
  have e1 : (1 : Int) + ((W % 40 : Nat) : Int) = ((gw W : Nat) : Int) := by unfold gw; omega
  rw [e1, wrap_i64 (by omega) (by omega)]
  simp only [b24n cellsOf?_int, letO_some]
  refine alloc_store (cs := [.int .i64 (gw W : Nat), .nils]) rfl rfl rfl rfl fun b5 hb5 => ?_
  have hne : b4 ≠ b5 := Heap.ne_of Heap.put_same hb5
  have hb5' : H b5 = none := by rwa [Heap.put_ne (Ne.symm hne)] at hb5
  generalize hH4 : (H.put b4 [.int .i64 0, .nils]).put b5 [.int .i64 (gw W : Nat), .nils] = H4
  have l50 : load1 (.ptr b5 0) H4 = some (.int .i64 (gw W : Nat)) := load1_at (by subst hH4; exact Heap.put_same) rfl
  have hr3 : binF Try.prog .rem 5 (.int .u8 (S : Int)) (.int .u8 3) = some (.int .u8 ((S % 3 : Nat) : Int)) := rem_nat (b := 3) (by decide)
  have hq2 : binF Try.prog .quo 3 (.int .i64 (gw W : Nat)) (.int .i64 2) = some (.int .i64 ((gw W / 2 : Nat) : Int)) := quo_nat (b := 2) (by decide) (by omega)
  simp only [letO_some, cellsOf?_agg, cellsOf?_int, cellsOf?_bool, cellsOf?_imm, cellsOf?_ref, cellsOf?_nils, faddr_iptr, faddr_ptr, List.drop_succ_cons, List.drop_zero, List.take_succ_cons, List.take_zero, load1_iptr, loadN_iptr, List.length_cons, List.length_nil, Nat.le_refl, if_true, List.getElem?_cons_zero, List.getElem?_cons_succ, List.getD_cons_zero, List.getD_cons_succ, extrF_tup, binF_add, binF_sub, binF_mul, binF_eql, binF_neq, binF_lss, binF_leq, binF_gtr, binF_geq, true_and, Nat.zero_add, l50, hr3, hq2]
  refine ⟨fun L h => L = [.int .i64 (glong W S : Nat)] ∧ h = H4, ?_, ?_⟩
  · refine condA_t (fun hgt => ?_) (fun hle => ?_)
    · have : glong W S = 1 + gw W / 2 := by unfold glong; rw [if_pos (by omega)]
      rw [this, wrap_i64 (by omega) (by omega)]
      exact ⟨by simp, rfl⟩
    · have : glong W S = gw W := by unfold glong; rw [if_neg (by omega)]
      rw [this]
      exact ⟨rfl, rfl⟩
  rintro L h ⟨rfl, rfl⟩
  have hrm : binF Try.prog .rem 3 (.int .i64 (M : Int)) (.int .i64 (most : Int)) = some (.int .i64 ((M % most : Nat) : Int)) := rem_nat (by omega)
  have hmm := Nat.mod_lt M (show most > 0 by omega)
  simp only [letO_some, cellsOf?_agg, cellsOf?_int, cellsOf?_bool, cellsOf?_imm, cellsOf?_ref, cellsOf?_nils, faddr_iptr, faddr_ptr, List.drop_succ_cons, List.drop_zero, List.take_succ_cons, List.take_zero, load1_iptr, loadN_iptr, List.length_cons, List.length_nil, Nat.le_refl, if_true, List.getElem?_cons_zero, List.getElem?_cons_succ, List.getD_cons_zero, List.getD_cons_succ, extrF_tup, binF_add, binF_sub, binF_mul, binF_eql, binF_neq, binF_lss, binF_leq, binF_gtr, binF_geq, true_and, conv53 (show (0 : Int) ≤ M ∧ (M : Int) < 256 by omega), hrm]
  have e2 : (1 : Int) + ((M % most : Nat) : Int) = ((1 + M % most : Nat) : Int) := by omega
  rw [e2, wrap_i64 (by omega) (by omega)]
  generalize hn : 1 + M % most = n at *
  have hsl : slcArr 10 1 (.iptr (l.map fun (x : Nat) => AV.int .u8 (x : Int))) none (some (.int .i64 (n : Int))) none = some (.imm n (n == 10) (u8s (l.take n))) := by
    have e : natOf (some (.int .i64 (n : Int))) 10 = some n := by simp [natOf]
    have e3 : natOf none 0 = some 0 := rfl
    simp only [slcArr, e, e3, Option.bind_some]
    rw [if_pos ⟨by omega, by omega⟩]
    simp [u8s, List.map_take]
  simp only [hsl, letO_some, lenA]
  have hws : ∀ x ∈ madeL W M S l most, 1 ≤ x ∧ x ≤ 40 := fun x hx => by
    have := (chk_ok (chk_made (W := W) (M := M) (S := S) hl hm)).2.2.2.2 x hx
    omega
  let T : AV → List AV := fun X => [.int .i64 (gw W : Nat), X]
  refine ⟨fun L H' => ∃ (i : Nat) (X : AV), L = [.int .i64 i] ∧ i ≤ n ∧ Grow 1 ((H.put b4 [.int .i64 0, .nils]).put b5 (T X)) H' X i (ints (gwords W S (l.take i))), fun L _ => (n - iv L 0).toNat,
    ⟨0, .nils, rfl, by omega, by subst hH4; exact Grow.nils 1 _⟩, ?_⟩
  intro L H' hI
  obtain ⟨i, X, rfl, hi, hg⟩ := hI
  simp only [letO_some, cellsOf?_agg, cellsOf?_int, cellsOf?_bool, cellsOf?_imm, cellsOf?_ref, cellsOf?_nils, faddr_iptr, faddr_ptr, List.drop_succ_cons, List.drop_zero, List.take_succ_cons, List.take_zero, load1_iptr, loadN_iptr, List.length_cons, List.length_nil, Nat.le_refl, if_true, List.getElem?_cons_zero, List.getElem?_cons_succ, List.getD_cons_zero, List.getD_cons_succ, extrF_tup, binF_add, binF_sub, binF_mul, binF_eql, binF_neq, binF_lss, binF_leq, binF_gtr, binF_geq, true_and]
  have hHb : H' b5 = some (T X) := hg.le _ _ Heap.put_same
  refine condA_t (fun hlt => ?_) (fun hge => ?_)
  · have hin : i < n := by omega
    have hil : i < l.length := by omega
    have hx : ((u8s (l.take n)).drop (i * 1))[0]? = some (.int .u8 (l[i] : Nat)) := by
      rw [List.getElem?_drop, Nat.mul_one, Nat.add_zero]
      simp [u8s, hil, hin]
    have hxl : l[i] < 256 := hlx _ (by simp)
    have l1 : load1 (.ptr b5 (0 + 1)) H' = some X := load1_at hHb rfl
    have l0 : load1 (.ptr b5 0) H' = some (.int .i64 (gw W : Nat)) := load1_at hHb rfl
    have hmin : min2F (.int .i64 (glong W S : Nat)) (.int .i64 (gw W : Nat)) = some (.int .i64 (gmin W S : Nat)) := by
      simp only [min2F]
      unfold gmin
      split <;> split <;> first | rfl | omega
    have hrx : binF Try.prog .rem 3 (.int .i64 ((l[i] : Nat) : Int)) (.int .i64 (gmin W S : Nat)) = some (.int .i64 ((l[i] % gmin W S : Nat) : Int)) := rem_nat (by omega)
    simp only [idx_imm hin, letO_some, cellsOf?_agg, cellsOf?_int, cellsOf?_bool, cellsOf?_imm, cellsOf?_ref, cellsOf?_nils, faddr_iptr, faddr_ptr, List.drop_succ_cons, List.drop_zero, List.take_succ_cons, List.take_zero, load1_iptr, loadN_iptr, List.length_cons, List.length_nil, Nat.le_refl, if_true, List.getElem?_cons_zero, List.getElem?_cons_succ, List.getD_cons_zero, List.getD_cons_succ, extrF_tup, binF_add, binF_sub, binF_mul, binF_eql, binF_neq, binF_lss, binF_leq, binF_gtr, binF_geq, true_and, hx, conv53 (show (0 : Int) ≤ (l[i] : Nat) ∧ ((l[i] : Nat) : Int) < 256 by omega), l1, l0, hmin, hrx]
    have hmx := Nat.mod_lt l[i] (show gmin W S > 0 by omega)
    have e3 : (1 : Int) + ((l[i] % gmin W S : Nat) : Int) = ((1 + l[i] % gmin W S : Nat) : Int) := by omega
    rw [e3, wrap_i64 (by omega) (by omega)]
    simp only [l22 cellsOf?_int, letO_some]
    refine appendA_one hg (by omega) fun v' H'' hg' => ?_
    refine storeA_of (cs := [v']) (hg'.le _ _ Heap.put_same) hg'.cells (by simp [hg'.scalar]) rfl (by simp [T]) ?_
    rw [wrap_i64 (by omega) (by omega)]
    refine ⟨⟨i + 1, v', by simp, by omega, ?_⟩, by simp <;> omega⟩
    have e4 : gwords W S (l.take (i + 1)) = gwords W S (l.take i) ++ [((1 + l[i] % gmin W S : Nat) : Int)] := by
      unfold gwords
      rw [List.take_add_one, List.getElem?_eq_getElem hil, List.map_append]
      rfl
    rw [e4]
    have := hg'.put (y := T v') Heap.put_same
    rw [Heap.put_put] at this
    simpa [splice, T] using this
  · have hin : i = n := by omega
    subst hin
    have hL : loadN 2 (.ptr b5 0) H' = some (.agg [.int .i64 (gw W : Nat), X]) := loadN_at hHb
    have hb4H : H' b4 = some [.int .i64 0, .nils] := hg.le _ _ (by rw [Heap.put_ne hne]; exact Heap.put_same)
    simp only [hL, letO_some]
    refine storeA_of (cs := [.int .i64 (gw W : Nat), X]) hb4H rfl (by simp only [List.all_cons, hg.scalar]; rfl) rfl (by simp) ?_
    have e5 : splice [.int .i64 0, .nils] 0 [.int .i64 (gw W : Nat), X] = [.int .i64 (gw W : Nat), X] := rfl
    rw [e5]
    rw [show loadN 2 (.ptr b4 0) (Heap.put H' b4 [.int .i64 (gw W : Nat), X]) = some (.agg [.int .i64 (gw W : Nat), X]) from loadN_at (cells := [.int .i64 (gw W : Nat), X]) Heap.put_same]
    simp only [letO_some]
    have hg1 := hg.put (c := b4) (x := [.int .i64 0, .nils]) (y := [.int .i64 (gw W : Nat), X]) (by rw [Heap.put_ne hne]; exact Heap.put_same)
    obtain ⟨H2, hl2, hg2⟩ := hg1.shrink (H := H) (Heap.le_put (Heap.le_put (Heap.le_put_self hb4) hb5') hb4)
    refine endK_pub (r' := .agg [.int .i64 (gw W : Nat), X]) (Pub.drop hl2) ?_
    refine hg2.endG (f := fun v => .agg [.int .i64 (gw W : Nat), v]) (fun b => ⟨fun e => by subst e; rfl, fun e => by subst e; rfl, fun e => by subst e; have := Grow.frz hg2.1 b; simp only [lift, List.map, this]; rfl⟩) ?_
    have hlen := made_len (W := W) (M := M) (S := S) hl hm
    rw [sl, hlen, hn] at hk
    rw [madeL, hn] at hk
    exact hk
theorem shr_ex {t : TypeId} {k k' : IntKind} {a b : Int} (hb : 0 ≤ b) : ∃ y, binF Try.prog .shr t (.int k a) (.int k' b) = some (.int k y) := by
  simp only [binF]
  rw [if_neg (by omega)]
  exact ⟨_, rfl⟩
theorem and_ex {t : TypeId} {k : IntKind} {a b : Int} : ∃ y, binF Try.prog .and t (.int k a) (.int k b) = some (.int k y) := by
  simp only [binF, if_true]
  exact ⟨_, rfl⟩
theorem slc_pre {H : Heap} {v : AV} {l : List Int} {k : Nat} (h : Reads H v l) (hk : k ≤ l.length) : ∃ v', slc 1 v none (some (.int .i64 (k : Int))) none = some v' ∧ Reads H v' (l.take k) := by
  have n1 : ∀ d, natOf none d = some d := fun d => rfl
  have n2 : ∀ d, natOf (some (.int .i64 (k : Int))) d = some k := fun d => by simp [natOf]
  cases v <;> simp only [Reads] at h <;> try exact h.elim
  · subst h
    have : k = 0 := by simpa using hk
    subst this
    simp only [slc, n1, n2, Option.bind_some]
    exact ⟨_, rfl, rfl⟩
  · obtain ⟨rfl, rfl⟩ := h
    simp only [slc, n1, n2, Option.bind_some]
    rw [if_pos ⟨by omega, hk⟩]
    refine ⟨_, rfl, by simp; omega, ?_⟩
    rw [Nat.mul_one, Nat.zero_mul, List.drop_zero, Nat.sub_zero, ints_take]
  · rename_i s b off n cp
    obtain ⟨rfl, rfl, cells, hb, hc, ht⟩ := h
    simp only [slc, n1, n2, Option.bind_some]
    rw [if_pos ⟨by trivial, by omega, hk, by simp⟩]
    refine ⟨_, rfl, rfl, by simp; omega, cells, hb, by omega, ?_⟩
    rw [Nat.zero_mul, Nat.add_zero, Nat.sub_zero, ← ints_take, ← ht, List.take_take, Nat.min_eq_left hk]

theorem any_succ (F : List Nat) (i : Nat) (g : Nat × Nat → Bool) : (spansN F (i + 1)).any g = ((spansN F i).any g || g (stN F i, F.getD i 0)) := by
  rw [spansN_succ, List.any_append]
  simp [spanN]

@[simp] theorem iv_three {k : IntKind} {n : Int} {x y z : AV} {L : List AV} : iv (x :: y :: z :: .int k n :: L) 3 = n := rfl
theorem wantE_bd {w : Int} {ws : List Int} (hc : chk w ws = 0) (E : List Nat) (m : Nat) : ∀ i, 0 ≤ wantE w ws E m i ∧ wantE w ws E m i ≤ 40000000000 * i
  | 0 => by simp [wantE]
  | i + 1 => by
    have := wantE_bd hc E m i
    have := sqf_bnd hc (stN E i) (E.getD i 0)
    rw [wantE]
    split <;> omega
theorem leftL_get {w : Int} {ws : List Int} {E : List Nat} {n k : Nat} (h : k < n) : (leftL w ws E n).getD k 0 = lf w ws (stN E k) (E.getD k 0) := by
  rw [List.getD_eq_getElem?_getD]
  simp only [leftL, List.getElem?_map]
  rw [List.getElem?_range h]
  rfl
theorem sum_take_succ {ws : List Int} {k : Nat} (h : k < ws.length) : (ws.take (k + 1)).sum = (ws.take k).sum + ws.getD k 0 := by
  rw [List.take_add_one, List.sum_append, List.getD_eq_getElem?_getD, List.getElem?_eq_getElem h]
  simp

end Go.Proofs.Ytlajhbpkogekfaa

namespace Go.Proofs.Ytlajhbpkogekfaa
open Go.Av Line
set_option linter.unusedVariables false
set_option linter.unusedSimpArgs false
set_option maxRecDepth 4000

/-- Equal, for states: nothing rewrites it. -/
def eqv {α : Type} (a b : α) : Prop := a = b
/-- in -/
theorem c77 {a lo hi : Int} {H : Heap} {K : AV → Heap → Prop} (hk : K (.bool (decide (lo ≤ a ∧ a ≤ hi))) H) : ACalls Try.prog 77 [.int .i64 a, .int .i64 lo, .int .i64 hi] H K := by
  apply W77_ok
  unfold W77
  simp only [letO_some, binF_geq, gval_bool]
  by_cases h : lo ≤ a <;> simp [h] <;> exact endK_ret (by simpa [h] using hk)

theorem not_bool {b : Bool} : unF .not (.bool b) = some (.bool !b) := rfl

/-- Check, of the reference -/
theorem c51 {w : Int} {v : AV} {ws : List Int} {H : Heap} {K : AV → Heap → Prop} (hv : Reads H v ws) (hlen : ws.length < 2 ^ 62) (hk : K (.int .i64 (chk w ws)) H) : ACalls Try.prog 51 [.agg [.int .i64 w, v]] H K := by
  apply W51_ok
  unfold W51
  simp only [letO_some, cellsOf?_agg, cellsOf?_int, cellsOf?_bool, cellsOf?_imm, cellsOf?_ref, cellsOf?_nils, faddr_iptr, faddr_ptr, List.drop_succ_cons, List.drop_zero, List.take_succ_cons, List.take_zero, load1_iptr, loadN_iptr, List.length_cons, List.length_nil, Nat.le_refl, if_true, List.getElem?_cons_zero, List.getElem?_cons_succ, List.getD_cons_zero, List.getD_cons_succ, extrF_tup, binF_add, binF_sub, binF_mul, binF_eql, binF_neq, binF_lss, binF_leq, binF_gtr, binF_geq, true_and]
  refine c77 ?_
  simp only [not_bool, letO_some, condA_bool, condG_bool]
  refine ⟨fun h => ?_, fun h => ?_⟩
  · have h : ¬ (1 ≤ w ∧ w ≤ 40) := by intro hh; simp [hh] at h
    rw [chk, if_pos (by omega)] at hk
    exact endK_ret hk
  have hw : 1 ≤ w ∧ w ≤ 40 := by simpa using h
  rw [chk, if_neg (by omega)] at hk
  simp only [letO_some, cellsOf?_agg, cellsOf?_int, cellsOf?_bool, cellsOf?_imm, cellsOf?_ref, cellsOf?_nils, faddr_iptr, faddr_ptr, List.drop_succ_cons, List.drop_zero, List.take_succ_cons, List.take_zero, load1_iptr, loadN_iptr, List.length_cons, List.length_nil, Nat.le_refl, if_true, List.getElem?_cons_zero, List.getElem?_cons_succ, List.getD_cons_zero, List.getD_cons_succ, extrF_tup, binF_add, binF_sub, binF_mul, binF_eql, binF_neq, binF_lss, binF_leq, binF_gtr, binF_geq, true_and, hv.len, condA_bool, condG_bool]
  refine ⟨fun h => ?_, fun h => ?_⟩
  · have h : ws.length = 0 := by simp at h; simp [h]
    rw [if_pos h] at hk
    exact endK_ret hk
  have h0 : ¬ ws.length = 0 := by intro h'; apply h; rw [h']; rfl
  rw [if_neg h0] at hk
  refine ⟨fun h => ?_, fun h => ?_⟩
  · have h : 10 < ws.length := by simp at h; omega
    rw [if_pos h] at hk
    exact endK_ret hk
  have h10 : ¬ 10 < ws.length := by simp at h; omega
  rw [if_neg h10] at hk
  refine ⟨fun L H' => ∃ i : Nat, L = [.int .i64 i] ∧ i ≤ ws.length ∧ (∀ x ∈ ws.take i, 1 ≤ x ∧ x ≤ w) ∧ H' = H, fun L _ => (ws.length - iv L 0).toNat, ⟨0, rfl, by omega, by simp, rfl⟩, ?_⟩
  intro L H' hI
  obtain ⟨i, rfl, hi, hall, rfl⟩ := hI
  simp only [letO_some, cellsOf?_agg, cellsOf?_int, cellsOf?_bool, cellsOf?_imm, cellsOf?_ref, cellsOf?_nils, faddr_iptr, faddr_ptr, List.drop_succ_cons, List.drop_zero, List.take_succ_cons, List.take_zero, load1_iptr, loadN_iptr, List.length_cons, List.length_nil, Nat.le_refl, if_true, List.getElem?_cons_zero, List.getElem?_cons_succ, List.getD_cons_zero, List.getD_cons_succ, extrF_tup, binF_add, binF_sub, binF_mul, binF_eql, binF_neq, binF_lss, binF_leq, binF_gtr, binF_geq, true_and]
  refine condA_t (fun hlt => ?_) (fun hge => ?_)
  · have hil : i < ws.length := by omega
    refine hv.get (Heap.le_refl _) (by omega) hlt ?_
    rw [Int.toNat_natCast]
    have hm : ws.getD i 0 ∈ ws := by rw [List.getD_eq_getElem?_getD]; simp [hil]
    try simp only [letO_some, cellsOf?_agg, cellsOf?_int, cellsOf?_bool, cellsOf?_imm, cellsOf?_ref, cellsOf?_nils, faddr_iptr, faddr_ptr, List.drop_succ_cons, List.drop_zero, List.take_succ_cons, List.take_zero, load1_iptr, loadN_iptr, List.length_cons, List.length_nil, Nat.le_refl, if_true, List.getElem?_cons_zero, List.getElem?_cons_succ, List.getD_cons_zero, List.getD_cons_succ, extrF_tup, binF_add, binF_sub, binF_mul, binF_eql, binF_neq, binF_lss, binF_leq, binF_gtr, binF_geq, true_and]
    refine c77 ?_
    simp only [not_bool, letO_some, condA_bool, condG_bool]
    refine ⟨fun h => ?_, fun h => ?_⟩
    · have h : ¬ (1 ≤ ws.getD i 0 ∧ ws.getD i 0 ≤ w) := by intro hh; rw [show decide (1 ≤ ws.getD i 0 ∧ ws.getD i 0 ≤ w) = true from decide_eq_true hh] at h; simp at h
      rw [if_neg (fun ha => h (ha _ hm))] at hk
      exact endK_ret hk
    · have h : 1 ≤ ws.getD i 0 ∧ ws.getD i 0 ≤ w := by
        by_cases hh : 1 ≤ ws.getD i 0 ∧ ws.getD i 0 ≤ w
        · exact hh
        · exact absurd (by rw [decide_eq_false hh]; rfl) h
      try simp only [letO_some, cellsOf?_agg, cellsOf?_int, cellsOf?_bool, cellsOf?_imm, cellsOf?_ref, cellsOf?_nils, faddr_iptr, faddr_ptr, List.drop_succ_cons, List.drop_zero, List.take_succ_cons, List.take_zero, load1_iptr, loadN_iptr, List.length_cons, List.length_nil, Nat.le_refl, if_true, List.getElem?_cons_zero, List.getElem?_cons_succ, List.getD_cons_zero, List.getD_cons_succ, extrF_tup, binF_add, binF_sub, binF_mul, binF_eql, binF_neq, binF_lss, binF_leq, binF_gtr, binF_geq, true_and]
      rw [wrap_i64 (by omega) (by omega)]
      try simp only [and_true]
      refine ⟨⟨i + 1, by simp, by omega, fun x hx => ?_⟩, by simp <;> omega⟩
      rw [List.take_add_one] at hx
      rcases List.mem_append.1 hx with hx | hx
      · exact hall x hx
      · rw [List.getElem?_eq_getElem hil] at hx
        have : x = ws.getD i 0 := by rw [List.getD_eq_getElem?_getD, List.getElem?_eq_getElem hil]; simpa using hx
        rw [this]; exact h
  · have : i = ws.length := by omega
    subst this
    rw [List.take_length] at hall
    rw [if_pos hall] at hk
    exact endK_ret hk

/-- left, of the reference -/
theorem c79 {w : Int} {v : AV} {ws : List Int} {i j : Nat} {H : Heap} {K : AV → Heap → Prop} (hv : Reads H v ws) (hc : chk w ws = 0) (hij : i ≤ j) (hj : j ≤ ws.length) (hk : K (.int .i64 (lf w ws i j)) H) :
    ACalls Try.prog 79 [.agg [.int .i64 w, v], .int .i64 i, .int .i64 j] H K := by
  apply W79_ok
  unfold W79
  obtain ⟨w1, w2, n1, n2, hws⟩ := chk_ok hc
  simp only [letO_some, cellsOf?_agg, cellsOf?_int, cellsOf?_bool, cellsOf?_imm, cellsOf?_ref, cellsOf?_nils, faddr_iptr, faddr_ptr, List.drop_succ_cons, List.drop_zero, List.take_succ_cons, List.take_zero, load1_iptr, loadN_iptr, List.length_cons, List.length_nil, Nat.le_refl, if_true, List.getElem?_cons_zero, List.getElem?_cons_succ, List.getD_cons_zero, List.getD_cons_succ, extrF_tup, binF_add, binF_sub, binF_mul, binF_eql, binF_neq, binF_lss, binF_leq, binF_gtr, binF_geq, true_and]
  rw [wrap_i64 (n := (j : Int) - i) (by omega) (by omega), wrap_i64 (n := (j : Int) - i - 1) (by omega) (by omega), wrap_i64 (n := w - ((j : Int) - i - 1)) (by omega) (by omega)]
  refine ⟨fun L H' => ∃ k : Nat, L = [.int .i64 (w - ((j : Int) - i - 1) - (psum ws (i + k) - psum ws i - k)), .int .i64 ((i + k : Nat) : Int)] ∧ i + k ≤ j ∧ H' = H, fun L _ => (j - iv L 1).toNat, ⟨0, by simp, by omega, rfl⟩, ?_⟩
  intro L H' hI
  obtain ⟨k, rfl, hk1, rfl⟩ := hI
  simp only [letO_some, cellsOf?_agg, cellsOf?_int, cellsOf?_bool, cellsOf?_imm, cellsOf?_ref, cellsOf?_nils, faddr_iptr, faddr_ptr, List.drop_succ_cons, List.drop_zero, List.take_succ_cons, List.take_zero, load1_iptr, loadN_iptr, List.length_cons, List.length_nil, Nat.le_refl, if_true, List.getElem?_cons_zero, List.getElem?_cons_succ, List.getD_cons_zero, List.getD_cons_succ, extrF_tup, binF_add, binF_sub, binF_mul, binF_eql, binF_neq, binF_lss, binF_leq, binF_gtr, binF_geq, true_and]
  have hb1 := psum_le (ws := ws) (k := i) fun x hx => by have := hws x (List.mem_of_mem_take hx); omega
  have hb2 := psum_le (ws := ws) (k := i + k) fun x hx => by have := hws x (List.mem_of_mem_take hx); omega
  refine condA_t (fun hlt => ?_) (fun hge => ?_)
  · refine hv.get (Heap.le_refl _) (by omega) (by omega) ?_
    rw [Int.toNat_natCast]
    have hm : ws.getD (i + k) 0 ∈ ws := by rw [List.getD_eq_getElem?_getD]; simp [show i + k < ws.length by omega]
    have hx := hws _ hm
    have hp := psum_succ (show i + k < ws.length by omega)
    try simp only [letO_some, cellsOf?_agg, cellsOf?_int, cellsOf?_bool, cellsOf?_imm, cellsOf?_ref, cellsOf?_nils, faddr_iptr, faddr_ptr, List.drop_succ_cons, List.drop_zero, List.take_succ_cons, List.take_zero, load1_iptr, loadN_iptr, List.length_cons, List.length_nil, Nat.le_refl, if_true, List.getElem?_cons_zero, List.getElem?_cons_succ, List.getD_cons_zero, List.getD_cons_succ, extrF_tup, binF_add, binF_sub, binF_mul, binF_eql, binF_neq, binF_lss, binF_leq, binF_gtr, binF_geq, true_and]
    rw [wrap_i64 (n := w - ((j : Int) - i - 1) - (psum ws (i + k) - psum ws i - k) - ws.getD (i + k) 0) (by omega) (by omega), wrap_i64 (n := ((i + k : Nat) : Int) + 1) (by omega) (by omega)]
    try simp only [and_true]
    refine ⟨⟨k + 1, ?_, by omega⟩, by simp <;> omega⟩
    have e : w - ((j : Int) - i - 1) - (psum ws (i + (k + 1)) - psum ws i - ((k + 1 : Nat) : Int)) = w - ((j : Int) - i - 1) - (psum ws (i + k) - psum ws i - k) - ws.getD (i + k) 0 := by
      rw [show i + (k + 1) = i + k + 1 by omega, hp]; omega
    rw [e]
    rfl
  · have hkj : i + k = j := by omega
    rw [hkj]
    rw [lf_eq (by omega) hj] at hk
    refine endK_ret ?_
    have e : w - ((j : Int) - i - 1) - (psum ws j - psum ws i - k) = w + 1 - (psum ws j - psum ws i) := by omega
    rw [e]; exact hk

/-- begin -/
theorem c78 {u : AV} {E : List Nat} {k : Nat} {H : Heap} {K : AV → Heap → Prop} (hu : Reads H u (up E)) (hk1 : k ≤ E.length) (hl : E.length < 2 ^ 60) (hk : K (.int .i64 (stN E k : Nat)) H) : ACalls Try.prog 78 [u, .int .i64 k] H K := by
  apply W78_ok
  unfold W78
  simp only [letO_some, cellsOf?_agg, cellsOf?_int, cellsOf?_bool, cellsOf?_imm, cellsOf?_ref, cellsOf?_nils, faddr_iptr, faddr_ptr, List.drop_succ_cons, List.drop_zero, List.take_succ_cons, List.take_zero, load1_iptr, loadN_iptr, List.length_cons, List.length_nil, Nat.le_refl, if_true, List.getElem?_cons_zero, List.getElem?_cons_succ, List.getD_cons_zero, List.getD_cons_succ, extrF_tup, binF_add, binF_sub, binF_mul, binF_eql, binF_neq, binF_lss, binF_leq, binF_gtr, binF_geq, true_and, condA_bool, condG_bool]
  refine ⟨fun h => ?_, fun h => ?_⟩
  · have h : k = 0 := by simpa using h
    subst h
    exact endK_ret hk
  · have h : ¬ k = 0 := by simpa using h
    rw [wrap_i64 (by omega) (by omega)]
    refine hu.get (Heap.le_refl _) (by omega) (by simp; omega) ?_
    rw [show ((k : Int) - 1).toNat = k - 1 by omega, up_getD]
    try simp only [letO_some]
    rw [stN, if_neg h] at hk
    exact endK_ret hk

def refE (w : Int) (ws ends : List Int) : Int := if chk w ws ≠ 0 then chk w ws else scan ws.length 0 ends
/-- ended, of the reference -/
theorem c82 {w : Int} {v u : AV} {ws ends : List Int} {H : Heap} {K : AV → Heap → Prop} (hv : Reads H v ws) (hu : Reads H u ends) (hlen : ws.length < 2 ^ 60) (hlen2 : ends.length < 2 ^ 60) (hk : K (.int .i64 (refE w ws ends)) H) :
    ACalls Try.prog 82 [.agg [.int .i64 w, v], u] H K := by
  apply W82_ok
  unfold W82
  simp only [letO_some, cellsOf?_agg, cellsOf?_int, cellsOf?_bool, cellsOf?_imm, cellsOf?_ref, cellsOf?_nils, faddr_iptr, faddr_ptr, List.drop_succ_cons, List.drop_zero, List.take_succ_cons, List.take_zero, load1_iptr, loadN_iptr, List.length_cons, List.length_nil, Nat.le_refl, if_true, List.getElem?_cons_zero, List.getElem?_cons_succ, List.getD_cons_zero, List.getD_cons_succ, extrF_tup, binF_add, binF_sub, binF_mul, binF_eql, binF_neq, binF_lss, binF_leq, binF_gtr, binF_geq, true_and]
  refine c51 hv (by omega) ?_
  try simp only [letO_some, cellsOf?_agg, cellsOf?_int, cellsOf?_bool, cellsOf?_imm, cellsOf?_ref, cellsOf?_nils, faddr_iptr, faddr_ptr, List.drop_succ_cons, List.drop_zero, List.take_succ_cons, List.take_zero, load1_iptr, loadN_iptr, List.length_cons, List.length_nil, Nat.le_refl, if_true, List.getElem?_cons_zero, List.getElem?_cons_succ, List.getD_cons_zero, List.getD_cons_succ, extrF_tup, binF_add, binF_sub, binF_mul, binF_eql, binF_neq, binF_lss, binF_leq, binF_gtr, binF_geq, true_and]
  refine ⟨fun L H' => ∃ (i : Nat) (e : Int), eqv L [.int .i64 e, .int .i64 i] ∧ i ≤ ends.length ∧ eqv H' H ∧ (e ≠ 0 → refE w ws ends = e) ∧ (e = 0 → chk w ws = 0 ∧ scan ws.length 0 ends = scan ws.length (if i = 0 then 0 else ends.getD (i - 1) 0) (ends.drop i)), fun L _ => (ends.length - iv L 1).toNat,
    ⟨0, chk w ws, rfl, by omega, rfl, fun h => by rw [refE, if_pos h], fun h => ⟨h, rfl⟩⟩, ?_⟩
  intro L H' hI
  obtain ⟨i, e, rfl, hi, rfl, he1, he2⟩ := hI
  simp only [letO_some, cellsOf?_agg, cellsOf?_int, cellsOf?_bool, cellsOf?_imm, cellsOf?_ref, cellsOf?_nils, faddr_iptr, faddr_ptr, List.drop_succ_cons, List.drop_zero, List.take_succ_cons, List.take_zero, load1_iptr, loadN_iptr, List.length_cons, List.length_nil, Nat.le_refl, if_true, List.getElem?_cons_zero, List.getElem?_cons_succ, List.getD_cons_zero, List.getD_cons_succ, extrF_tup, binF_add, binF_sub, binF_mul, binF_eql, binF_neq, binF_lss, binF_leq, binF_gtr, binF_geq, true_and, hu.len]
  by_cases hil : i < ends.length
  · have e1 : decide ((i : Int) < (ends.length : Int)) = true := by simp; omega
    simp only [e1, gval_bool, if_true, letO_some, binF_eql, pickF_true]
    by_cases h0 : e = 0
    · subst h0
      obtain ⟨hc, hs⟩ := he2 rfl
      have hn := chk_ok hc
      simp only [beq_self_eq_true, condA_tt, condG_tt]
      have hd : ends.drop i = ends.getD i 0 :: ends.drop (i + 1) := by
        rw [List.drop_eq_getElem_cons hil, List.getD_eq_getElem?_getD]; simp [hil]
      rw [hd] at hs
      refine ⟨fun L h => ∃ e' : Int, eqv L [.int .i64 e'] ∧ eqv h H' ∧ (e' ≠ 0 → refE w ws ends = e') ∧ (e' = 0 → scan ws.length 0 ends = scan ws.length (ends.getD i 0) (ends.drop (i + 1))), ?_, ?_⟩
      · refine hu.get (Heap.le_refl _) (by omega) (by omega) ?_
        rw [Int.toNat_natCast]
        simp only [letO_some, cellsOf?_agg, cellsOf?_int, cellsOf?_bool, cellsOf?_imm, cellsOf?_ref, cellsOf?_nils, faddr_iptr, faddr_ptr, List.drop_succ_cons, List.drop_zero, List.take_succ_cons, List.take_zero, load1_iptr, loadN_iptr, List.length_cons, List.length_nil, Nat.le_refl, if_true, List.getElem?_cons_zero, List.getElem?_cons_succ, List.getD_cons_zero, List.getD_cons_succ, extrF_tup, binF_add, binF_sub, binF_mul, binF_eql, binF_neq, binF_lss, binF_leq, binF_gtr, binF_geq, true_and, hv.len]
        refine c77 ?_
        simp only [not_bool, letO_some, condA_bool, condG_bool]
        refine ⟨fun h => ?_, fun h => ?_⟩
        · have h : ¬ (1 ≤ ends.getD i 0 ∧ ends.getD i 0 ≤ ws.length) := by intro hh; rw [show decide (1 ≤ ends.getD i 0 ∧ ends.getD i 0 ≤ ws.length) = true from decide_eq_true hh] at h; simp at h
          rw [scan, if_pos (by omega)] at hs
          refine ⟨2, rfl, rfl, fun _ => by rw [refE, if_neg (by omega), hs], fun h => by omega⟩
        · have h : 1 ≤ ends.getD i 0 ∧ ends.getD i 0 ≤ ws.length := by
            by_cases hh : 1 ≤ ends.getD i 0 ∧ ends.getD i 0 ≤ ws.length
            · exact hh
            · exact absurd (by rw [decide_eq_false hh]; rfl) h
          by_cases hi0 : i = 0
          · subst hi0
            rw [scan, if_neg (by omega), if_pos rfl, if_neg (by omega)] at hs
            have e2 : decide ((0 : Int) < ((0 : Nat) : Int)) = false := by simp
            simp only [e2, gval_bool, Bool.false_eq_true, if_false, letO_some, pickF_false, condA_ff, condG_ff]
            exact ⟨0, rfl, rfl, fun h => absurd rfl h, fun _ => hs⟩
          · have e2 : decide ((0 : Int) < (i : Int)) = true := by simp; omega
            rw [scan, if_neg (by omega), if_neg hi0] at hs
            simp only [e2, gval_bool, if_true, letO_some, binF_sub]
            rw [wrap_i64 (by omega) (by omega)]
            refine hu.get (Heap.le_refl _) (by omega) (by omega) ?_
            rw [Int.toNat_natCast]
            refine hu.get (Heap.le_refl _) (by omega) (by omega) ?_
            rw [show ((i : Int) - 1).toNat = i - 1 by omega]
            simp only [letO_some, cellsOf?_agg, cellsOf?_int, cellsOf?_bool, cellsOf?_imm, cellsOf?_ref, cellsOf?_nils, faddr_iptr, faddr_ptr, List.drop_succ_cons, List.drop_zero, List.take_succ_cons, List.take_zero, load1_iptr, loadN_iptr, List.length_cons, List.length_nil, Nat.le_refl, if_true, List.getElem?_cons_zero, List.getElem?_cons_succ, List.getD_cons_zero, List.getD_cons_succ, extrF_tup, binF_add, binF_sub, binF_mul, binF_eql, binF_neq, binF_lss, binF_leq, binF_gtr, binF_geq, true_and, pickF_true]
            refine condA_t (fun hle => ?_) (fun hgt => ?_)
            · rw [if_pos hle] at hs
              exact ⟨7, rfl, rfl, fun _ => by rw [refE, if_neg (by omega), hs], fun h => by omega⟩
            · rw [if_neg hgt] at hs
              exact ⟨0, rfl, rfl, fun h => absurd rfl h, fun _ => hs⟩
      · rintro L h ⟨e', rfl, rfl, h1, h2⟩
        simp only [letO_some, cellsOf?_agg, cellsOf?_int, cellsOf?_bool, cellsOf?_imm, cellsOf?_ref, cellsOf?_nils, faddr_iptr, faddr_ptr, List.drop_succ_cons, List.drop_zero, List.take_succ_cons, List.take_zero, load1_iptr, loadN_iptr, List.length_cons, List.length_nil, Nat.le_refl, if_true, List.getElem?_cons_zero, List.getElem?_cons_succ, List.getD_cons_zero, List.getD_cons_succ, extrF_tup, binF_add, binF_sub, binF_mul, binF_eql, binF_neq, binF_lss, binF_leq, binF_gtr, binF_geq, true_and]
        rw [wrap_i64 (by omega) (by omega)]
        refine ⟨⟨i + 1, e', rfl, by omega, rfl, h1, fun h => ⟨hc, ?_⟩⟩, by simp <;> omega⟩
        rw [if_neg (by omega), Nat.add_sub_cancel]
        exact h2 h
    · have e3 : (e == 0) = false := by simpa using h0
      simp only [e3, condA_ff, condG_ff]
      refine ⟨fun L h => eqv L [.int .i64 e] ∧ eqv h H', ?_, ?_⟩
      · simp only [gval_bool, Bool.false_eq_true, if_false, letO_some, pickF_false, condA_ff, condG_ff]
        exact ⟨rfl, rfl⟩
      rintro L h ⟨rfl, rfl⟩
      simp only [letO_some, cellsOf?_agg, cellsOf?_int, cellsOf?_bool, cellsOf?_imm, cellsOf?_ref, cellsOf?_nils, faddr_iptr, faddr_ptr, List.drop_succ_cons, List.drop_zero, List.take_succ_cons, List.take_zero, load1_iptr, loadN_iptr, List.length_cons, List.length_nil, Nat.le_refl, if_true, List.getElem?_cons_zero, List.getElem?_cons_succ, List.getD_cons_zero, List.getD_cons_succ, extrF_tup, binF_add, binF_sub, binF_mul, binF_eql, binF_neq, binF_lss, binF_leq, binF_gtr, binF_geq, true_and]
      rw [he1 h0] at hk
      exact endK_ret hk
  · have e1 : decide ((i : Int) < (ends.length : Int)) = false := by simp; omega
    have hie : i = ends.length := by omega
    simp only [e1, gval_bool, Bool.false_eq_true, if_false, letO_some, pickF_false, condA_ff, condG_ff]
    refine ⟨fun L h => eqv L [.int .i64 (refE w ws ends)] ∧ eqv h H', ?_, ?_⟩
    · by_cases h0 : e = 0
      · subst h0
        obtain ⟨hc, hs⟩ := he2 rfl
        have hn := chk_ok hc
        have hr : refE w ws ends = scan ws.length 0 ends := by rw [refE, if_neg (by omega)]
        rw [hie, List.drop_length, scan] at hs
        simp only [beq_self_eq_true, gval_bool, if_true, letO_some, binF_eql, hu.len]
        by_cases hl0 : ends.length = 0
        · have e4 : ((ends.length : Int) == 0) = true := by rw [hl0]; rfl
          rw [if_pos hl0, if_pos (by omega)] at hs
          simp only [e4, gval_bool, Bool.true_eq_false, if_false, letO_some, pickF_true, condA_tt, condG_tt]
          rw [hr, hs]
          exact ⟨rfl, rfl⟩
        · have e4 : ((ends.length : Int) == 0) = false := by simpa using hl0
          rw [if_neg hl0] at hs
          simp only [e4, gval_bool, if_true, letO_some, binF_sub, hu.len]
          rw [wrap_i64 (by omega) (by omega)]
          refine hu.get (Heap.le_refl _) (by omega) (by omega) ?_
          rw [show ((ends.length : Int) - 1).toNat = ends.length - 1 by omega]
          simp only [letO_some, cellsOf?_agg, cellsOf?_int, cellsOf?_bool, cellsOf?_imm, cellsOf?_ref, cellsOf?_nils, faddr_iptr, faddr_ptr, List.drop_succ_cons, List.drop_zero, List.take_succ_cons, List.take_zero, load1_iptr, loadN_iptr, List.length_cons, List.length_nil, Nat.le_refl, if_true, List.getElem?_cons_zero, List.getElem?_cons_succ, List.getD_cons_zero, List.getD_cons_succ, extrF_tup, binF_add, binF_sub, binF_mul, binF_eql, binF_neq, binF_lss, binF_leq, binF_gtr, binF_geq, true_and, hv.len, pickF_true, pickF_false, condA_bool, condG_bool]
          refine ⟨fun h => ?_, fun h => ?_⟩
          · rw [if_pos (by simpa using h)] at hs
            rw [hr, hs]
            exact ⟨rfl, rfl⟩
          · rw [if_neg (by simpa using h)] at hs
            rw [hr, hs]
            exact ⟨rfl, rfl⟩
      · have e3 : (e == 0) = false := by simpa using h0
        simp only [e3, gval_bool, Bool.false_eq_true, if_false, letO_some, pickF_false, condA_ff, condG_ff]
        rw [he1 h0]
        exact ⟨rfl, rfl⟩
    rintro L h ⟨rfl, rfl⟩
    simp only [letO_some, cellsOf?_agg, cellsOf?_int, cellsOf?_bool, cellsOf?_imm, cellsOf?_ref, cellsOf?_nils, faddr_iptr, faddr_ptr, List.drop_succ_cons, List.drop_zero, List.take_succ_cons, List.take_zero, load1_iptr, loadN_iptr, List.length_cons, List.length_nil, Nat.le_refl, if_true, List.getElem?_cons_zero, List.getElem?_cons_succ, List.getD_cons_zero, List.getD_cons_succ, extrF_tup, binF_add, binF_sub, binF_mul, binF_eql, binF_neq, binF_lss, binF_leq, binF_gtr, binF_geq, true_and]
    exact endK_ret hk
end Go.Proofs.Ytlajhbpkogekfaa

namespace Go.Proofs.Ytlajhbpkogekfaa
open Go.Av Line
set_option linter.unusedVariables false
set_option linter.unusedSimpArgs false
set_option maxRecDepth 4000

theorem ref_ok {w : Int} {ws ends : List Int} (h : refE w ws ends = 0) : chk w ws = 0 ∧ scan ws.length 0 ends = 0 := by
  unfold refE at h
  by_cases h1 : chk w ws = 0
  · rw [if_neg (by omega)] at h; exact ⟨h1, h⟩
  · rw [if_pos h1] at h; exact absurd h h1
/-- What is known of ends in order. -/
theorem ord_facts {w : Int} {ws ends : List Int} (hc : chk w ws = 0) (hs : scan ws.length 0 ends = 0) :
    up (toN ends) = ends ∧ asc ws.length 0 (up (toN ends)) ∧ ends.length ≤ 10 ∧ 1 ≤ ends.length ∧ (∀ e ∈ toN ends, e ≤ ws.length) ∧ ∀ k, k < ends.length → stN (toN ends) k < (toN ends).getD k 0 ∧ (toN ends).getD k 0 ≤ ws.length ∧ stN (toN ends) k ≤ ws.length := by
  have hn := chk_ok hc
  have hup : up (toN ends) = ends := up_toN fun e he => (scan_range hs e he).1
  have ha : asc ws.length 0 (up (toN ends)) := by rw [hup]; exact asc_of_scan hs
  have hl := scan_len hs
  have hE : ∀ e ∈ toN ends, e ≤ ws.length := by
    intro e he
    obtain ⟨x, hx, rfl⟩ := List.mem_map.1 he
    have := scan_range hs x hx
    omega
  refine ⟨hup, ha, by omega, ?_, hE, fun k hk => ?_⟩
  · cases ends with
    | nil => simp [scan] at hs; omega
    | cons a l => simp
  · have h1 := stN_lt ha (k := k) (by rw [hup]; exact hk)
    rw [toN_up] at h1
    have h2 := stN_le hE k
    exact ⟨h1, h2.2, h2.1⟩

/-- fits, of the reference -/
theorem c83 {w : Int} {v u : AV} {ws ends : List Int} {H : Heap} {K : AV → Heap → Prop} (hv : Reads H v ws) (hu : Reads H u ends) (hc : chk w ws = 0) (hs : scan ws.length 0 ends = 0) (hk : K (.bool (!over w ws (toN ends))) H) :
    ACalls Try.prog 83 [.agg [.int .i64 w, v], u] H K := by
  apply W83_ok
  unfold W83
  obtain ⟨hup, ha, hl1, hl2, hE, hf⟩ := ord_facts hc hs
  have hEl := toN_len ends
  simp only [letO_some, cellsOf?_agg, cellsOf?_int, cellsOf?_bool, cellsOf?_imm, cellsOf?_ref, cellsOf?_nils, faddr_iptr, faddr_ptr, List.drop_succ_cons, List.drop_zero, List.take_succ_cons, List.take_zero, load1_iptr, loadN_iptr, List.length_cons, List.length_nil, Nat.le_refl, if_true, List.getElem?_cons_zero, List.getElem?_cons_succ, List.getD_cons_zero, List.getD_cons_succ, extrF_tup, binF_add, binF_sub, binF_mul, binF_eql, binF_neq, binF_lss, binF_leq, binF_gtr, binF_geq, true_and]
  refine ⟨fun L H' => ∃ i : Nat, eqv L [.int .i64 i] ∧ i ≤ ends.length ∧ eqv H' H ∧ (spansN (toN ends) i).any (fun p => decide (lf w ws p.1 p.2 < 0)) = false, fun L _ => (ends.length - iv L 0).toNat, ⟨0, rfl, by omega, rfl, rfl⟩, ?_⟩
  intro L H' hI
  obtain ⟨i, rfl, hi, rfl, hany⟩ := hI
  simp only [letO_some, cellsOf?_agg, cellsOf?_int, cellsOf?_bool, cellsOf?_imm, cellsOf?_ref, cellsOf?_nils, faddr_iptr, faddr_ptr, List.drop_succ_cons, List.drop_zero, List.take_succ_cons, List.take_zero, load1_iptr, loadN_iptr, List.length_cons, List.length_nil, Nat.le_refl, if_true, List.getElem?_cons_zero, List.getElem?_cons_succ, List.getD_cons_zero, List.getD_cons_succ, extrF_tup, binF_add, binF_sub, binF_mul, binF_eql, binF_neq, binF_lss, binF_leq, binF_gtr, binF_geq, true_and, hu.len]
  refine condA_t (fun hlt => ?_) (fun hge => ?_)
  · have hil : i < ends.length := by omega
    obtain ⟨f1, f2, f3⟩ := hf i hil
    refine ⟨_, c78 (E := toN ends) (k := i) (by rw [hup]; exact hu) (by omega) (by omega) ⟨rfl, rfl⟩, ?_⟩
    refine hu.get (Heap.le_refl _) (by omega) (by omega) ?_
    have hEi : ends.getD (i : Int).toNat 0 = ((toN ends).getD i 0 : Nat) := by
      rw [Int.toNat_natCast, ← up_getD, hup]
    rw [hEi]
    refine c79 hv hc (Nat.le_of_lt f1) f2 ?_
    simp only [letO_some, cellsOf?_agg, cellsOf?_int, cellsOf?_bool, cellsOf?_imm, cellsOf?_ref, cellsOf?_nils, faddr_iptr, faddr_ptr, List.drop_succ_cons, List.drop_zero, List.take_succ_cons, List.take_zero, load1_iptr, loadN_iptr, List.length_cons, List.length_nil, Nat.le_refl, if_true, List.getElem?_cons_zero, List.getElem?_cons_succ, List.getD_cons_zero, List.getD_cons_succ, extrF_tup, binF_add, binF_sub, binF_mul, binF_eql, binF_neq, binF_lss, binF_leq, binF_gtr, binF_geq, true_and]
    refine condA_t (fun hneg => ?_) (fun hnn => ?_)
    · have : over w ws (toN ends) = true := by
        unfold over
        rw [List.any_eq_true]
        exact ⟨spanN (toN ends) i, List.mem_of_getElem? (spansN_get (by omega)), by simpa [spanN] using hneg⟩
      rw [this] at hk
      exact endK_ret hk
    · rw [wrap_i64 (by omega) (by omega)]
      refine ⟨⟨i + 1, rfl, by omega, rfl, ?_⟩, by simp <;> omega⟩
      rw [any_succ, hany]; simpa using hnn
  · have : i = ends.length := by omega
    subst this
    have : over w ws (toN ends) = false := by unfold over; rw [hEl]; exact hany
    rw [this] at hk
    exact endK_ret hk

theorem ended_ref {w : Int} {ws ends : List Int} : endedE w ws ends = if refE w ws ends ≠ 0 then refE w ws ends else if over w ws (toN ends) then 15 else 0 := by
  unfold endedE refE
  by_cases h1 : chk w ws = 0 <;> simp [h1]

/-- Fits, of the reference -/
theorem c52 {w : Int} {v u : AV} {ws ends : List Int} {H : Heap} {K : AV → Heap → Prop} (hv : Reads H v ws) (hu : Reads H u ends) (hlen : ws.length < 2 ^ 60) (hlen2 : ends.length < 2 ^ 60) (hk : K (.int .i64 (endedE w ws ends)) H) :
    ACalls Try.prog 52 [.agg [.int .i64 w, v], u] H K := by
  apply W52_ok
  unfold W52
  simp only [letO_some, cellsOf?_agg, cellsOf?_int, cellsOf?_bool, cellsOf?_imm, cellsOf?_ref, cellsOf?_nils, faddr_iptr, faddr_ptr, List.drop_succ_cons, List.drop_zero, List.take_succ_cons, List.take_zero, load1_iptr, loadN_iptr, List.length_cons, List.length_nil, Nat.le_refl, if_true, List.getElem?_cons_zero, List.getElem?_cons_succ, List.getD_cons_zero, List.getD_cons_succ, extrF_tup, binF_add, binF_sub, binF_mul, binF_eql, binF_neq, binF_lss, binF_leq, binF_gtr, binF_geq, true_and]
  refine c82 hv hu hlen hlen2 ?_
  rw [ended_ref] at hk
  refine ⟨fun L h => eqv L [.int .i64 (if refE w ws ends ≠ 0 then refE w ws ends else if over w ws (toN ends) then 15 else 0)] ∧ eqv h H, ?_, ?_⟩
  · by_cases h : refE w ws ends = 0
    · obtain ⟨hc, hs⟩ := ref_ok h
      have e : (refE w ws ends == 0) = true := by rw [h]; rfl
      simp only [binF_eql, letO_some, e, gval_bool, if_true, condG_tt]
      refine exJ ?_
      refine c83 hv hu hc hs ?_
      rw [if_neg (by omega), h]
      simp only [not_bool, Bool.not_not, gval_bool, if_true, letO_some, pickF_true, condA_bool]
      refine ⟨fun h2 => ?_, fun h2 => ?_⟩
      · rw [if_pos h2]; exact ⟨rfl, rfl⟩
      · rw [if_neg h2]; exact ⟨rfl, rfl⟩
    · have e : (refE w ws ends == 0) = false := by simpa using h
      simp only [binF_eql, letO_some, e, gval_bool, Bool.false_eq_true, if_false, condG_ff]
      refine exU ?_
      simp only [gval_bool, Bool.false_eq_true, if_false, letO_some, pickF_false, condA_ff]
      rw [if_pos h]
      exact ⟨rfl, rfl⟩
  rintro L h ⟨rfl, rfl⟩
  simp only [letO_some, cellsOf?_agg, cellsOf?_int, cellsOf?_bool, cellsOf?_imm, cellsOf?_ref, cellsOf?_nils, faddr_iptr, faddr_ptr, List.drop_succ_cons, List.drop_zero, List.take_succ_cons, List.take_zero, load1_iptr, loadN_iptr, List.length_cons, List.length_nil, Nat.le_refl, if_true, List.getElem?_cons_zero, List.getElem?_cons_succ, List.getD_cons_zero, List.getD_cons_succ, extrF_tup, binF_add, binF_sub, binF_mul, binF_eql, binF_neq, binF_lss, binF_leq, binF_gtr, binF_geq, true_and]
  exact endK_ret hk

/-- Left, of the reference -/
theorem c47 {w : Int} {v u : AV} {ws ends : List Int} {H : Heap} {K : AV → Heap → Prop} (hv : Reads H v ws) (hu : Reads H u ends) (hlen : ws.length < 2 ^ 60) (hlen2 : ends.length < 2 ^ 60)
    (hk : K (.tup [sl (leftO w ws ends), .int .i64 (endedE w ws ends)]) H) : ACalls Try.prog 47 [.agg [.int .i64 w, v], u] H K := by
  apply W47_ok
  unfold W47
  simp only [letO_some, cellsOf?_agg, cellsOf?_int, cellsOf?_bool, cellsOf?_imm, cellsOf?_ref, cellsOf?_nils, faddr_iptr, faddr_ptr, List.drop_succ_cons, List.drop_zero, List.take_succ_cons, List.take_zero, load1_iptr, loadN_iptr, List.length_cons, List.length_nil, Nat.le_refl, if_true, List.getElem?_cons_zero, List.getElem?_cons_succ, List.getD_cons_zero, List.getD_cons_succ, extrF_tup, binF_add, binF_sub, binF_mul, binF_eql, binF_neq, binF_lss, binF_leq, binF_gtr, binF_geq, true_and]
  refine c52 hv hu hlen hlen2 ?_
  simp only [letO_some, cellsOf?_agg, cellsOf?_int, cellsOf?_bool, cellsOf?_imm, cellsOf?_ref, cellsOf?_nils, faddr_iptr, faddr_ptr, List.drop_succ_cons, List.drop_zero, List.take_succ_cons, List.take_zero, load1_iptr, loadN_iptr, List.length_cons, List.length_nil, Nat.le_refl, if_true, List.getElem?_cons_zero, List.getElem?_cons_succ, List.getD_cons_zero, List.getD_cons_succ, extrF_tup, binF_add, binF_sub, binF_mul, binF_eql, binF_neq, binF_lss, binF_leq, binF_gtr, binF_geq, true_and, condA_bool]
  refine ⟨fun h => ?_, fun h => ?_⟩
  · have h : ¬ endedE w ws ends = 0 := by simpa using h
    rw [leftO, if_neg h] at hk
    exact endK_nil (Heap.le_refl _) hk
  have h : endedE w ws ends = 0 := by simpa using h
  rw [leftO, if_pos h, h] at hk
  obtain ⟨hc, hs, hov⟩ := ended_ok h
  obtain ⟨hup, ha, hl1, hl2, hE, hf⟩ := ord_facts hc hs
  have hEl := toN_len ends
  refine ⟨fun L H' => ∃ (i : Nat) (X : AV), eqv L [X, .int .i64 i] ∧ i ≤ ends.length ∧ Grow 1 H H' X i (ints (leftL w ws (toN ends) i)), fun L _ => (ends.length - iv L 1).toNat, ⟨0, .nils, rfl, by omega, Grow.nils 1 H⟩, ?_⟩
  intro L H' hI
  obtain ⟨i, X, rfl, hi, hg⟩ := hI
  have hv' := hv.le hg.le
  have hu' := hu.le hg.le
  simp only [letO_some, cellsOf?_agg, cellsOf?_int, cellsOf?_bool, cellsOf?_imm, cellsOf?_ref, cellsOf?_nils, faddr_iptr, faddr_ptr, List.drop_succ_cons, List.drop_zero, List.take_succ_cons, List.take_zero, load1_iptr, loadN_iptr, List.length_cons, List.length_nil, Nat.le_refl, if_true, List.getElem?_cons_zero, List.getElem?_cons_succ, List.getD_cons_zero, List.getD_cons_succ, extrF_tup, binF_add, binF_sub, binF_mul, binF_eql, binF_neq, binF_lss, binF_leq, binF_gtr, binF_geq, true_and, hu.len]
  refine condA_t (fun hlt => ?_) (fun hge => ?_)
  · have hil : i < ends.length := by omega
    obtain ⟨f1, f2, f3⟩ := hf i hil
    refine ⟨_, c78 (E := toN ends) (k := i) (by rw [hup]; exact hu') (by omega) (by omega) ⟨rfl, rfl⟩, ?_⟩
    refine hu'.get (Heap.le_refl _) (by omega) (by omega) ?_
    have hEi : ends.getD (i : Int).toNat 0 = ((toN ends).getD i 0 : Nat) := by
      rw [Int.toNat_natCast, ← up_getD, hup]
    rw [hEi]
    refine ⟨_, c79 hv' hc (Nat.le_of_lt f1) f2 ⟨rfl, rfl⟩, ?_⟩
    simp only [l22 cellsOf?_int, letO_some]
    refine appendA_one hg (by omega) fun v' H7 hg7 => ?_
    rw [wrap_i64 (by omega) (by omega)]
    refine ⟨⟨i + 1, v', rfl, by omega, ?_⟩, by simp <;> omega⟩
    rw [leftL_succ]; exact hg7
  · have : i = ends.length := by omega
    subst this
    refine hg.end2 ?_
    simpa [sl] using hk

/-- squares, of the reference -/
theorem c66 {w : Int} {v u : AV} {ws ends : List Int} {m : Nat} {H : Heap} {K : AV → Heap → Prop} (hv : Reads H v ws) (hu : Reads H u ends) (hc : chk w ws = 0) (hup : up (toN ends) = ends) (hm : m ≤ ends.length) (hl : ends.length ≤ 10)
    (hf : ∀ k, k < ends.length → stN (toN ends) k < (toN ends).getD k 0 ∧ (toN ends).getD k 0 ≤ ws.length ∧ stN (toN ends) k ≤ ws.length)
    (hk : K (.int .i64 (wantE w ws (toN ends) m m)) H) : ACalls Try.prog 66 [.agg [.int .i64 w, v], u, .int .i64 m] H K := by
  apply W66_ok
  unfold W66
  have hEl := toN_len ends
  simp only [letO_some, cellsOf?_agg, cellsOf?_int, cellsOf?_bool, cellsOf?_imm, cellsOf?_ref, cellsOf?_nils, faddr_iptr, faddr_ptr, List.drop_succ_cons, List.drop_zero, List.take_succ_cons, List.take_zero, load1_iptr, loadN_iptr, List.length_cons, List.length_nil, Nat.le_refl, if_true, List.getElem?_cons_zero, List.getElem?_cons_succ, List.getD_cons_zero, List.getD_cons_succ, extrF_tup, binF_add, binF_sub, binF_mul, binF_eql, binF_neq, binF_lss, binF_leq, binF_gtr, binF_geq, true_and]
  refine ⟨fun L H' => ∃ i : Nat, eqv L [.int .i64 (wantE w ws (toN ends) m i), .int .i64 i] ∧ i ≤ m ∧ eqv H' H, fun L _ => (m - iv L 1).toNat, ⟨0, rfl, by omega, rfl⟩, ?_⟩
  intro L H' hI
  obtain ⟨i, rfl, hi, rfl⟩ := hI
  simp only [letO_some, cellsOf?_agg, cellsOf?_int, cellsOf?_bool, cellsOf?_imm, cellsOf?_ref, cellsOf?_nils, faddr_iptr, faddr_ptr, List.drop_succ_cons, List.drop_zero, List.take_succ_cons, List.take_zero, load1_iptr, loadN_iptr, List.length_cons, List.length_nil, Nat.le_refl, if_true, List.getElem?_cons_zero, List.getElem?_cons_succ, List.getD_cons_zero, List.getD_cons_succ, extrF_tup, binF_add, binF_sub, binF_mul, binF_eql, binF_neq, binF_lss, binF_leq, binF_gtr, binF_geq, true_and]
  refine condA_t (fun hlt => ?_) (fun hge => ?_)
  · have hil : i < m := by omega
    obtain ⟨f1, f2, f3⟩ := hf i (by omega)
    refine ⟨_, c78 (E := toN ends) (k := i) (by rw [hup]; exact hu) (by omega) (by omega) ⟨rfl, rfl⟩, ?_⟩
    refine hu.get (Heap.le_refl _) (by omega) (by omega) ?_
    have hEi : ends.getD (i : Int).toNat 0 = ((toN ends).getD i 0 : Nat) := by
      rw [Int.toNat_natCast, ← up_getD, hup]
    rw [hEi]
    refine c79 hv hc (Nat.le_of_lt f1) f2 ?_
    have hwt := wantE_bd hc (toN ends) m i
    have hsq := sqf_bnd hc (stN (toN ends) i) ((toN ends).getD i 0)
    have hsqf : lf w ws (stN (toN ends) i) ((toN ends).getD i 0) * lf w ws (stN (toN ends) i) ((toN ends).getD i 0) = sqf w ws (stN (toN ends) i) ((toN ends).getD i 0) := rfl
    simp only [letO_some, cellsOf?_agg, cellsOf?_int, cellsOf?_bool, cellsOf?_imm, cellsOf?_ref, cellsOf?_nils, faddr_iptr, faddr_ptr, List.drop_succ_cons, List.drop_zero, List.take_succ_cons, List.take_zero, load1_iptr, loadN_iptr, List.length_cons, List.length_nil, Nat.le_refl, if_true, List.getElem?_cons_zero, List.getElem?_cons_succ, List.getD_cons_zero, List.getD_cons_succ, extrF_tup, binF_add, binF_sub, binF_mul, binF_eql, binF_neq, binF_lss, binF_leq, binF_gtr, binF_geq, true_and]
    rw [hsqf, wrap_i64 (n := sqf w ws (stN (toN ends) i) ((toN ends).getD i 0)) (by omega) (by omega), wrap_i64 (n := wantE w ws (toN ends) m i + sqf w ws (stN (toN ends) i) ((toN ends).getD i 0)) (by omega) (by omega), wrap_i64 (n := (i : Int) + 1) (by omega) (by omega)]
    refine ⟨⟨i + 1, ?_, by omega, rfl⟩, by simp <;> omega⟩
    rw [wantE, if_pos hil]
    rfl
  · have : i = m := by omega
    subst this
    exact endK_ret hk

/-- Cost, of the reference -/
theorem c48 {w : Int} {v u : AV} {ws ends : List Int} {H : Heap} {K : AV → Heap → Prop} (hv : Reads H v ws) (hu : Reads H u ends) (hlen : ws.length < 2 ^ 60) (hlen2 : ends.length < 2 ^ 60)
    (hk : K (.tup [.int .i64 (costO w ws ends), .int .i64 (endedE w ws ends)]) H) : ACalls Try.prog 48 [.agg [.int .i64 w, v], u] H K := by
  apply W48_ok
  unfold W48
  simp only [letO_some, cellsOf?_agg, cellsOf?_int, cellsOf?_bool, cellsOf?_imm, cellsOf?_ref, cellsOf?_nils, faddr_iptr, faddr_ptr, List.drop_succ_cons, List.drop_zero, List.take_succ_cons, List.take_zero, load1_iptr, loadN_iptr, List.length_cons, List.length_nil, Nat.le_refl, if_true, List.getElem?_cons_zero, List.getElem?_cons_succ, List.getD_cons_zero, List.getD_cons_succ, extrF_tup, binF_add, binF_sub, binF_mul, binF_eql, binF_neq, binF_lss, binF_leq, binF_gtr, binF_geq, true_and]
  refine c52 hv hu hlen hlen2 ?_
  simp only [letO_some, cellsOf?_agg, cellsOf?_int, cellsOf?_bool, cellsOf?_imm, cellsOf?_ref, cellsOf?_nils, faddr_iptr, faddr_ptr, List.drop_succ_cons, List.drop_zero, List.take_succ_cons, List.take_zero, load1_iptr, loadN_iptr, List.length_cons, List.length_nil, Nat.le_refl, if_true, List.getElem?_cons_zero, List.getElem?_cons_succ, List.getD_cons_zero, List.getD_cons_succ, extrF_tup, binF_add, binF_sub, binF_mul, binF_eql, binF_neq, binF_lss, binF_leq, binF_gtr, binF_geq, true_and, condA_bool, hu.len]
  refine ⟨fun h => ?_, fun h => ?_⟩
  · have h : ¬ endedE w ws ends = 0 := by simpa using h
    rw [costO, if_neg h] at hk
    exact endK_ret hk
  have h : endedE w ws ends = 0 := by simpa using h
  rw [costO, if_pos h, h] at hk
  obtain ⟨hc, hs, hov⟩ := ended_ok h
  obtain ⟨hup, ha, hl1, hl2, hE, hf⟩ := ord_facts hc hs
  have hEl := toN_len ends
  rw [wrap_i64 (by omega) (by omega), show ((ends.length : Int) - 1) = ((ends.length - 1 : Nat) : Int) by omega]
  refine c66 hv hu hc hup (by omega) hl1 hf ?_
  try simp only [letO_some, cellsOf?_agg, cellsOf?_int, cellsOf?_bool, cellsOf?_imm, cellsOf?_ref, cellsOf?_nils, faddr_iptr, faddr_ptr, List.drop_succ_cons, List.drop_zero, List.take_succ_cons, List.take_zero, load1_iptr, loadN_iptr, List.length_cons, List.length_nil, Nat.le_refl, if_true, List.getElem?_cons_zero, List.getElem?_cons_succ, List.getD_cons_zero, List.getD_cons_succ, extrF_tup, binF_add, binF_sub, binF_mul, binF_eql, binF_neq, binF_lss, binF_leq, binF_gtr, binF_geq, true_and]
  have hne : toN ends ≠ [] := by intro h0; rw [h0] at hEl; simp at hEl; omega
  have e : costE w ws ends = wantE w ws (toN ends) (ends.length - 1) (ends.length - 1) := by
    unfold costE
    have := costE_eq (w := w) (ws := ws) ha hne ends.length (by omega)
    rw [hEl] at this
    rw [this]
    obtain ⟨m, hm⟩ : ∃ m, ends.length = m + 1 := ⟨ends.length - 1, by omega⟩
    rw [hm, Nat.add_sub_cancel, wantE, if_neg (by omega), Int.add_zero]
  rw [e] at hk
  exact endK_ret hk

/-- Full, of the reference -/
theorem c49 {w : Int} {v : AV} {ws : List Int} {H : Heap} {K : AV → Heap → Prop} (hv : Reads H v ws) (hlen : ws.length < 2 ^ 60) (hk : K (.tup [sl (fullO w ws), .int .i64 (chk w ws)]) H) : ACalls Try.prog 49 [.agg [.int .i64 w, v]] H K := by
  apply W49_ok
  unfold W49
  simp only [letO_some, cellsOf?_agg, cellsOf?_int, cellsOf?_bool, cellsOf?_imm, cellsOf?_ref, cellsOf?_nils, faddr_iptr, faddr_ptr, List.drop_succ_cons, List.drop_zero, List.take_succ_cons, List.take_zero, load1_iptr, loadN_iptr, List.length_cons, List.length_nil, Nat.le_refl, if_true, List.getElem?_cons_zero, List.getElem?_cons_succ, List.getD_cons_zero, List.getD_cons_succ, extrF_tup, binF_add, binF_sub, binF_mul, binF_eql, binF_neq, binF_lss, binF_leq, binF_gtr, binF_geq, true_and]
  refine c51 hv (by omega) ?_
  simp only [letO_some, cellsOf?_agg, cellsOf?_int, cellsOf?_bool, cellsOf?_imm, cellsOf?_ref, cellsOf?_nils, faddr_iptr, faddr_ptr, List.drop_succ_cons, List.drop_zero, List.take_succ_cons, List.take_zero, load1_iptr, loadN_iptr, List.length_cons, List.length_nil, Nat.le_refl, if_true, List.getElem?_cons_zero, List.getElem?_cons_succ, List.getD_cons_zero, List.getD_cons_succ, extrF_tup, binF_add, binF_sub, binF_mul, binF_eql, binF_neq, binF_lss, binF_leq, binF_gtr, binF_geq, true_and, condA_bool]
  refine ⟨fun h => ?_, fun h => ?_⟩
  · have h : ¬ chk w ws = 0 := by simpa using h
    rw [fullO, if_neg h] at hk
    exact endK_nil (Heap.le_refl _) hk
  have h : chk w ws = 0 := by simpa using h
  rw [fullO, if_pos h, h] at hk
  obtain ⟨w1, w2, n1, n2, hws⟩ := chk_ok h
  refine ⟨fun L H' => ∃ (fr en f : Nat) (l : List Nat) (X : AV), eqv L [X, .int .i64 fr, .int .i64 en] ∧ ((fr < en ∧ en ≤ ws.length ∧ 0 ≤ lf w ws fr en) ∨ (fr = ws.length ∧ en = ws.length + 1)) ∧ Grow 1 H H' X l.length (ints (up l)) ∧ l.length ≤ fr ∧ ws.length - fr ≤ f ∧ l ++ fullE w ws f fr = fullE w ws ws.length 0, fun L _ => (ws.length + 1 - iv L 2).toNat,
    ⟨0, 1, ws.length, [], .nils, rfl, .inl ⟨by omega, by omega, lf_one h (by omega)⟩, Grow.nils 1 H, by simp, by omega, rfl⟩, ?_⟩
  intro L H' hI
  obtain ⟨fr, en, f, l, X, rfl, hcase, hg, hl, hf, hE⟩ := hI
  have hv' := hv.le hg.le
  simp only [letO_some, cellsOf?_agg, cellsOf?_int, cellsOf?_bool, cellsOf?_imm, cellsOf?_ref, cellsOf?_nils, faddr_iptr, faddr_ptr, List.drop_succ_cons, List.drop_zero, List.take_succ_cons, List.take_zero, load1_iptr, loadN_iptr, List.length_cons, List.length_nil, Nat.le_refl, if_true, List.getElem?_cons_zero, List.getElem?_cons_succ, List.getD_cons_zero, List.getD_cons_succ, extrF_tup, binF_add, binF_sub, binF_mul, binF_eql, binF_neq, binF_lss, binF_leq, binF_gtr, binF_geq, true_and, hv.len]
  refine condA_t (fun hle => ?_) (fun hgt => ?_)
  · obtain ⟨h1, h2, h3⟩ : fr < en ∧ en ≤ ws.length ∧ 0 ≤ lf w ws fr en := by
      rcases hcase with h | ⟨_, h⟩
      · exact h
      · omega
    obtain ⟨f, rfl⟩ : ∃ f', f = f' + 1 := ⟨f - 1, by omega⟩
    have step : ∀ (hgr : en = ws.length ∨ lf w ws fr (en + 1) < 0), appendA 1 8 X (.imm 1 true [.int .i64 en]) (fun t36 H12 => eqv [t36, .int .i64 en] [t36, .int .i64 en] ∧ (∃ (fr' f' : Nat) (l' : List Nat) (X' : AV), eqv [t36, .int .i64 en] [X', .int .i64 fr'] ∧ ((fr' < en + 1 ∧ en + 1 ≤ ws.length ∧ 0 ≤ lf w ws fr' (en + 1)) ∨ (fr' = ws.length ∧ en + 1 = ws.length + 1)) ∧ Grow 1 H H12 X' l'.length (ints (up l')) ∧ l'.length ≤ fr' ∧ ws.length - fr' ≤ f' ∧ l' ++ fullE w ws f' fr' = fullE w ws ws.length 0)) H' := by
      intro hgr
      refine appendA_one hg (by omega) fun v' H7 hg7 => ⟨rfl, en, f, l ++ [en], v', rfl, ?_, ?_, by simp; omega, by omega, ?_⟩
      · by_cases he : en = ws.length
        · exact .inr ⟨he, by omega⟩
        · exact .inl ⟨by omega, by omega, lf_one h (by omega)⟩
      · rw [up_snoc]; simpa using hg7
      · rw [← hE, fullE, if_pos (by omega), endN_greedy h h1 h3 h2 hgr]
        simp
    refine ⟨fun L h => ∃ (fr' f' : Nat) (l' : List Nat) (X' : AV), eqv L [X', .int .i64 fr'] ∧ ((fr' < en + 1 ∧ en + 1 ≤ ws.length ∧ 0 ≤ lf w ws fr' (en + 1)) ∨ (fr' = ws.length ∧ en + 1 = ws.length + 1)) ∧ Grow 1 H h X' l'.length (ints (up l')) ∧ l'.length ≤ fr' ∧ ws.length - fr' ≤ f' ∧ l' ++ fullE w ws f' fr' = fullE w ws ws.length 0, ?_, ?_⟩
    · by_cases he : en = ws.length
      · have e1 : ((en : Int) == (ws.length : Int)) = true := by rw [he]; exact beq_self_eq_true _
        simp only [e1, gval_bool, Bool.true_eq_false, if_false, letO_some, condG_tt']
        refine exU ?_
        simp only [gval_bool, Bool.true_eq_false, if_false, letO_some, pickF_true, condA_tt, l22 cellsOf?_int]
        have := step (.inl he)
        exact appendA_mono (fun t h hh => hh.2) this
      · have e1 : ((en : Int) == (ws.length : Int)) = false := by simp; omega
        simp only [e1, gval_bool, if_true, letO_some, binF_add, condG_ff']
        rw [wrap_i64 (by omega) (by omega), show ((en : Int) + 1) = ((en + 1 : Nat) : Int) by omega]
        refine exJ ?_
        refine c79 hv' h (by omega) (by omega) ?_
        simp only [gval_bool, if_true, letO_some, binF_lss, pickF_false]
        refine condA_t (fun hneg => ?_) (fun hnn => ?_)
        · simp only [l22 cellsOf?_int, letO_some]
          have := step (.inr hneg)
          exact appendA_mono (fun t h hh => hh.2) this
        · exact ⟨fr, f + 1, l, X, rfl, .inl ⟨by omega, by omega, by omega⟩, hg, hl, hf, hE⟩
    · rintro L h ⟨fr', f', l', X', rfl, hc', hg', hl', hf', hE'⟩
      simp only [letO_some, cellsOf?_agg, cellsOf?_int, cellsOf?_bool, cellsOf?_imm, cellsOf?_ref, cellsOf?_nils, faddr_iptr, faddr_ptr, List.drop_succ_cons, List.drop_zero, List.take_succ_cons, List.take_zero, load1_iptr, loadN_iptr, List.length_cons, List.length_nil, Nat.le_refl, if_true, List.getElem?_cons_zero, List.getElem?_cons_succ, List.getD_cons_zero, List.getD_cons_succ, extrF_tup, binF_add, binF_sub, binF_mul, binF_eql, binF_neq, binF_lss, binF_leq, binF_gtr, binF_geq, true_and]
      rw [wrap_i64 (by omega) (by omega)]
      refine ⟨⟨fr', en + 1, f', l', X', rfl, hc', hg', hl', hf', hE'⟩, by simp <;> omega⟩
  · have hfr : fr = ws.length := by
      rcases hcase with ⟨_, h, _⟩ | ⟨h, _⟩ <;> omega
    subst hfr
    rw [fullE_done, List.append_nil] at hE
    rw [← hE, sl, up_length] at hk
    exact hg.end2 hk
end Go.Proofs.Ytlajhbpkogekfaa

namespace Go.Proofs.Ytlajhbpkogekfaa
open Go.Av Line
set_option linter.unusedVariables false
set_option linter.unusedSimpArgs false
set_option maxRecDepth 4000

/-- LineEnds -/
theorem c11 {w : Int} {ws ends : List Int} {H : Heap} {K : AV → Heap → Prop} (hk : ∀ H', H.le H' → K (.bool true) H') : ACalls Try.prog 11 [.agg [.int .i64 w, sl ws], sl ends] H K := by
  apply W11_ok
  unfold W11
  have hv : ∀ {H : Heap}, Reads H (sl ws) ws := Reads.sl _ _
  have hu : ∀ {H : Heap}, Reads H (sl ends) ends := Reads.sl _ _
  have hvl := (Reads.sl H ws).len
  have hul := (Reads.sl H ends).len
  simp only [letO_some, cellsOf?_agg, cellsOf?_int, cellsOf?_bool, cellsOf?_imm, cellsOf?_ref, cellsOf?_nils, faddr_iptr, faddr_ptr, List.drop_succ_cons, List.drop_zero, List.take_succ_cons, List.take_zero, load1_iptr, loadN_iptr, List.length_cons, List.length_nil, Nat.le_refl, if_true, List.getElem?_cons_zero, List.getElem?_cons_succ, List.getD_cons_zero, List.getD_cons_succ, extrF_tup, binF_add, binF_sub, binF_mul, binF_eql, binF_neq, binF_lss, binF_leq, binF_gtr, binF_geq, true_and, hvl, hul]
  by_cases h1 : 40 < ws.length
  · have e : decide ((40 : Int) < (ws.length : Int)) = true := by simp; omega
    simp only [e, gval_bool, Bool.true_eq_false, if_false, letO_some, pickF_true, condA_tt]
    exact c16 (endK_ret (hk _ (Heap.le_refl _)))
  have e : decide ((40 : Int) < (ws.length : Int)) = false := by simp; omega
  simp only [e, gval_bool, if_true, letO_some, pickF_false, binF_gtr, condA_bool]
  refine ⟨fun _ => c16 (endK_ret (hk _ (Heap.le_refl _))), fun h2 => ?_⟩
  have h2 : ends.length ≤ 40 := by simp at h2; omega
  refine alloc_store (cs := [.int .i64 w, sl ws]) rfl rfl rfl rfl fun b hb => ?_
  have hle := Heap.le_put_self (cs := [.int .i64 w, sl ws]) hb
  have hL : loadN 2 (.ptr b 0) (H.put b [.int .i64 w, sl ws]) = some (.agg [.int .i64 w, sl ws]) := loadN_at (cells := [.int .i64 w, sl ws]) Heap.put_same
  generalize H.put b [.int .i64 w, sl ws] = H4 at *
  have l1 : ws.length < 2 ^ 60 := by omega
  have l2 : ends.length < 2 ^ 60 := by omega
  refine c44p hv hu l1 l2 ?_
  simp only [letO_some, cellsOf?_agg, cellsOf?_int, cellsOf?_bool, cellsOf?_imm, cellsOf?_ref, cellsOf?_nils, faddr_iptr, faddr_ptr, List.drop_succ_cons, List.drop_zero, List.take_succ_cons, List.take_zero, load1_iptr, loadN_iptr, List.length_cons, List.length_nil, Nat.le_refl, if_true, List.getElem?_cons_zero, List.getElem?_cons_succ, List.getD_cons_zero, List.getD_cons_succ, extrF_tup, binF_add, binF_sub, binF_mul, binF_eql, binF_neq, binF_lss, binF_leq, binF_gtr, binF_geq, true_and, hL]
  refine c47 hv hu l1 l2 ?_
  simp only [letO_some, cellsOf?_agg, cellsOf?_int, cellsOf?_bool, cellsOf?_imm, cellsOf?_ref, cellsOf?_nils, faddr_iptr, faddr_ptr, List.drop_succ_cons, List.drop_zero, List.take_succ_cons, List.take_zero, load1_iptr, loadN_iptr, List.length_cons, List.length_nil, Nat.le_refl, if_true, List.getElem?_cons_zero, List.getElem?_cons_succ, List.getD_cons_zero, List.getD_cons_succ, extrF_tup, binF_add, binF_sub, binF_mul, binF_eql, binF_neq, binF_lss, binF_leq, binF_gtr, binF_geq, true_and]
  refine c45 hv hu l1 l2 ?_
  simp only [letO_some, cellsOf?_agg, cellsOf?_int, cellsOf?_bool, cellsOf?_imm, cellsOf?_ref, cellsOf?_nils, faddr_iptr, faddr_ptr, List.drop_succ_cons, List.drop_zero, List.take_succ_cons, List.take_zero, load1_iptr, loadN_iptr, List.length_cons, List.length_nil, Nat.le_refl, if_true, List.getElem?_cons_zero, List.getElem?_cons_succ, List.getD_cons_zero, List.getD_cons_succ, extrF_tup, binF_add, binF_sub, binF_mul, binF_eql, binF_neq, binF_lss, binF_leq, binF_gtr, binF_geq, true_and, hL]
  refine c48 hv hu l1 l2 ?_
  simp only [letO_some, cellsOf?_agg, cellsOf?_int, cellsOf?_bool, cellsOf?_imm, cellsOf?_ref, cellsOf?_nils, faddr_iptr, faddr_ptr, List.drop_succ_cons, List.drop_zero, List.take_succ_cons, List.take_zero, load1_iptr, loadN_iptr, List.length_cons, List.length_nil, Nat.le_refl, if_true, List.getElem?_cons_zero, List.getElem?_cons_succ, List.getD_cons_zero, List.getD_cons_succ, extrF_tup, binF_add, binF_sub, binF_mul, binF_eql, binF_neq, binF_lss, binF_leq, binF_gtr, binF_geq, true_and]
  refine c36 hv l1 ?_
  simp only [letO_some, cellsOf?_agg, cellsOf?_int, cellsOf?_bool, cellsOf?_imm, cellsOf?_ref, cellsOf?_nils, faddr_iptr, faddr_ptr, List.drop_succ_cons, List.drop_zero, List.take_succ_cons, List.take_zero, load1_iptr, loadN_iptr, List.length_cons, List.length_nil, Nat.le_refl, if_true, List.getElem?_cons_zero, List.getElem?_cons_succ, List.getD_cons_zero, List.getD_cons_succ, extrF_tup, binF_add, binF_sub, binF_mul, binF_eql, binF_neq, binF_lss, binF_leq, binF_gtr, binF_geq, true_and, hL]
  refine c49 hv l1 ?_
  simp only [letO_some, cellsOf?_agg, cellsOf?_int, cellsOf?_bool, cellsOf?_imm, cellsOf?_ref, cellsOf?_nils, faddr_iptr, faddr_ptr, List.drop_succ_cons, List.drop_zero, List.take_succ_cons, List.take_zero, load1_iptr, loadN_iptr, List.length_cons, List.length_nil, Nat.le_refl, if_true, List.getElem?_cons_zero, List.getElem?_cons_succ, List.getD_cons_zero, List.getD_cons_succ, extrF_tup, binF_add, binF_sub, binF_mul, binF_eql, binF_neq, binF_lss, binF_leq, binF_gtr, binF_geq, true_and]
  refine c25p (Reads.sl _ _) (Reads.sl _ _) (by unfold leftO; split <;> simp; omega) ?_
  have d1 : ∀ l : List Int, decide (l = l) = true := fun l => decide_eq_true rfl
  simp only [d1, decide_true, beq_self_eq_true, letO_some, cellsOf?_agg, cellsOf?_int, cellsOf?_bool, cellsOf?_imm, cellsOf?_ref, cellsOf?_nils, faddr_iptr, faddr_ptr, List.drop_succ_cons, List.drop_zero, List.take_succ_cons, List.take_zero, load1_iptr, loadN_iptr, List.length_cons, List.length_nil, Nat.le_refl, if_true, List.getElem?_cons_zero, List.getElem?_cons_succ, List.getD_cons_zero, List.getD_cons_succ, extrF_tup, binF_add, binF_sub, binF_mul, binF_eql, binF_neq, binF_lss, binF_leq, binF_gtr, binF_geq, true_and, gval_bool, Int.reduceBNe, Int.reduceBEq, pickF_true, pickF_false, reduceIte, Bool.true_eq_false, Bool.false_eq_true, if_false, condA_tt, condA_ff, condG_tt, condG_ff, condG_tt', condG_ff', condG_undef, gval_undef]
  refine exJ ?_
  refine c25p (Reads.sl _ _) (Reads.sl _ _) ?_ ?_
  · unfold fullO
    split
    · have : ∀ f fr, (fullE w ws f fr).length ≤ f := by
        intro f
        induction f with
        | zero => intro fr; simp [fullE]
        | succ f ih =>
          intro fr
          rw [fullE]
          split
          · have := ih (endN w ws fr ws.length); simp; omega
          · simp
      have := this ws.length 0
      simp; omega
    · simp
  simp only [d1, decide_true, beq_self_eq_true, letO_some, cellsOf?_agg, cellsOf?_int, cellsOf?_bool, cellsOf?_imm, cellsOf?_ref, cellsOf?_nils, faddr_iptr, faddr_ptr, List.drop_succ_cons, List.drop_zero, List.take_succ_cons, List.take_zero, load1_iptr, loadN_iptr, List.length_cons, List.length_nil, Nat.le_refl, if_true, List.getElem?_cons_zero, List.getElem?_cons_succ, List.getD_cons_zero, List.getD_cons_succ, extrF_tup, binF_add, binF_sub, binF_mul, binF_eql, binF_neq, binF_lss, binF_leq, binF_gtr, binF_geq, true_and, gval_bool, Int.reduceBNe, Int.reduceBEq, pickF_true, pickF_false, reduceIte, Bool.true_eq_false, Bool.false_eq_true, if_false, condA_tt, condA_ff, condG_tt, condG_ff, condG_tt', condG_ff', condG_undef, gval_undef]
  refine ⟨_, c50 hv (by omega) ⟨rfl, rfl⟩, ?_⟩
  simp only [hL, letO_some, cellsOf?_agg, cellsOf?_int, cellsOf?_bool, cellsOf?_imm, cellsOf?_ref, cellsOf?_nils, faddr_iptr, faddr_ptr, List.drop_succ_cons, List.drop_zero, List.take_succ_cons, List.take_zero, load1_iptr, loadN_iptr, List.length_cons, List.length_nil, Nat.le_refl, if_true, List.getElem?_cons_zero, List.getElem?_cons_succ, List.getD_cons_zero, List.getD_cons_succ, extrF_tup, binF_add, binF_sub, binF_mul, binF_eql, binF_neq, binF_lss, binF_leq, binF_gtr, binF_geq, true_and, gval_bool, Int.reduceBNe, Int.reduceBEq, pickF_true, pickF_false, reduceIte, Bool.true_eq_false, Bool.false_eq_true, if_false, condA_tt, condA_ff, condG_tt, condG_ff, condG_tt', condG_ff', condG_undef, gval_undef]
  refine exJ ?_
  refine c51 hv (by omega) ?_
  simp only [beq_self_eq_true, letO_some, cellsOf?_agg, cellsOf?_int, cellsOf?_bool, cellsOf?_imm, cellsOf?_ref, cellsOf?_nils, faddr_iptr, faddr_ptr, List.drop_succ_cons, List.drop_zero, List.take_succ_cons, List.take_zero, load1_iptr, loadN_iptr, List.length_cons, List.length_nil, Nat.le_refl, if_true, List.getElem?_cons_zero, List.getElem?_cons_succ, List.getD_cons_zero, List.getD_cons_succ, extrF_tup, binF_add, binF_sub, binF_mul, binF_eql, binF_neq, binF_lss, binF_leq, binF_gtr, binF_geq, true_and, gval_bool, Int.reduceBNe, Int.reduceBEq, pickF_true, pickF_false, reduceIte, Bool.true_eq_false, Bool.false_eq_true, if_false, condA_tt, condA_ff, condG_tt, condG_ff, condG_tt', condG_ff', condG_undef, gval_undef]
  refine ⟨_, c42 hv hu l1 l2 ⟨rfl, rfl⟩, ?_⟩
  simp only [hL, letO_some, cellsOf?_agg, cellsOf?_int, cellsOf?_bool, cellsOf?_imm, cellsOf?_ref, cellsOf?_nils, faddr_iptr, faddr_ptr, List.drop_succ_cons, List.drop_zero, List.take_succ_cons, List.take_zero, load1_iptr, loadN_iptr, List.length_cons, List.length_nil, Nat.le_refl, if_true, List.getElem?_cons_zero, List.getElem?_cons_succ, List.getD_cons_zero, List.getD_cons_succ, extrF_tup, binF_add, binF_sub, binF_mul, binF_eql, binF_neq, binF_lss, binF_leq, binF_gtr, binF_geq, true_and, gval_bool, Int.reduceBNe, Int.reduceBEq, pickF_true, pickF_false, reduceIte, Bool.true_eq_false, Bool.false_eq_true, if_false, condA_tt, condA_ff, condG_tt, condG_ff, condG_tt', condG_ff', condG_undef, gval_undef]
  refine exJ ?_
  refine c52 hv hu l1 l2 ?_
  simp only [beq_self_eq_true, letO_some, cellsOf?_agg, cellsOf?_int, cellsOf?_bool, cellsOf?_imm, cellsOf?_ref, cellsOf?_nils, faddr_iptr, faddr_ptr, List.drop_succ_cons, List.drop_zero, List.take_succ_cons, List.take_zero, load1_iptr, loadN_iptr, List.length_cons, List.length_nil, Nat.le_refl, if_true, List.getElem?_cons_zero, List.getElem?_cons_succ, List.getD_cons_zero, List.getD_cons_succ, extrF_tup, binF_add, binF_sub, binF_mul, binF_eql, binF_neq, binF_lss, binF_leq, binF_gtr, binF_geq, true_and, gval_bool, Int.reduceBNe, Int.reduceBEq, pickF_true, pickF_false, reduceIte, Bool.true_eq_false, Bool.false_eq_true, if_false, condA_tt, condA_ff, condG_tt, condG_ff, condG_tt', condG_ff', condG_undef, gval_undef]
  refine exJ ?_
  refine c16 ?_
  try simp only [letO_some, cellsOf?_agg, cellsOf?_int, cellsOf?_bool, cellsOf?_imm, cellsOf?_ref, cellsOf?_nils, faddr_iptr, faddr_ptr, List.drop_succ_cons, List.drop_zero, List.take_succ_cons, List.take_zero, load1_iptr, loadN_iptr, List.length_cons, List.length_nil, Nat.le_refl, if_true, List.getElem?_cons_zero, List.getElem?_cons_succ, List.getD_cons_zero, List.getD_cons_succ, extrF_tup, binF_add, binF_sub, binF_mul, binF_eql, binF_neq, binF_lss, binF_leq, binF_gtr, binF_geq, true_and, gval_bool, Int.reduceBNe, Int.reduceBEq, pickF_true, pickF_false, reduceIte, Bool.true_eq_false, Bool.false_eq_true, if_false, condA_tt, condA_ff, condG_tt, condG_ff, condG_tt', condG_ff', condG_undef, gval_undef]
  exact endK_ret (hk _ hle)
theorem lineEnds.law {w : Int} {ws ends : List Int} (_ : -9223372036854775808 ≤ w ∧ w ≤ 9223372036854775807) (_ : ws.length ≤ maxLen) (_ : ∀ n ∈ ws, (-9223372036854775808 ≤ n ∧ n ≤ 9223372036854775807)) (_ : ends.length ≤ maxLen) (_ : ∀ n ∈ ends, (-9223372036854775808 ≤ n ∧ n ≤ 9223372036854775807)) :
    ACalls Try.prog 11 [.agg [.int .i64 w, sl ws], sl ends] Heap.none fun r _ => r = .bool true := c11 fun _ _ => rfl
end Go.Proofs.Ytlajhbpkogekfaa

/- MADE BY PROGRAM (row.py): the row of LineEnds. -/
namespace Go.Proofs.Ytlajhbpkogekfaa.lineEnds
open Go.ChangeShapes Go.WideShapes Go.ChangeAt Go.RowKit Go.Av
set_option linter.unusedVariables false

theorem own : ownKnob Try.prog.godebug = none := by kernel_rfl
theorem laidOut : laidOutB Try.prog = true := by kernel_rfl
theorem split13 {g : List Nat} (h : g.length = 13) : ∃ a b c l, g = a :: b :: c :: l ∧ l.length = 10 := by
  match g, h with
  | a :: b :: c :: l, h => exact ⟨a, b, c, l, rfl, by simpa using h⟩

set_option maxRecDepth 100000 in
theorem lifted (os : Os) (started : os.Started) (H : Type) (enc : TypeId × Value → H) :
    ReturnsInHanded {} Try.checked os 11 .any (Rows.lineEndsSpec.pre6 enc Try.prog Try.f11 Rows.lineEndsRow.domain false) (Rows.lineEndsSpec.post enc Try.prog Try.f11 false true false false) := by
  refine returnsInHanded_of_change (C := Try.checked) own started (by kernel_rfl) Try.func11
    (ChangeSpec.witness6 (enc := enc) (C := Try.checked) false ⟨#[], #[.agg #[.int .i64 0, .slice none 0 0], .slice none 0 0], []⟩ 8 (by kernel_rfl) (by kernel_rfl) (by kernel_rfl) (by kernel_rfl)) ?_
  intro W base args ds gs before hval0 hW hcnd _
  have hval : ∀ (j : Nat) t v, Try.f11.params[j]? = some t → args[j]? = some v → Value.okWide Try.prog W .any base t v := hval0
  have hW' := hW
  obtain ⟨p, q, hA0, hV, rfl, hfz, hnd⟩ := hW
  have hA : DataW.TrodAll enc Try.prog W 0 (fun _ => true) true Try.f11.params.toList args.toList ds p := hA0
  have hA1 := hA
  rw [Try.params11] at hA hval
  obtain ⟨rfl, rfl⟩ := trodVars_none hV
  clear hA0 hval0
  simp only [List.append_nil] at hW'
  have hlt : ∀ x ∈ p, x.block < W.heap.size := fun x hx => by simpa using hW'.lt x hx
  obtain ⟨v0, v1, d0, d1, p0, p1, rfl, rfl, rfl, h0, h1⟩ := trodAll_two hA
  obtain ⟨w0, l0, r0, wx0, ll0, lx0⟩ := rep_text (t0 := 3) (t1 := 22) (e := 3) Try.underlying24 (by kernel_rfl) (by kernel_rfl) Try.underlying3 Try.underlying22 Try.underlying3 (by kernel_rfl) (by kernel_rfl) rfl rfl (hval 0 24 v0 rfl rfl) h0
  obtain ⟨l1, r1, ll1, lx1⟩ := rep_list Try.underlying22 Try.underlying3 (by kernel_rfl) (hval 1 22 v1 rfl rfl) h1
  refine ((law wx0 ll0 lx0 ll1 lx1).2 (E0 W) W [v0, v1] (st0 W) (RepL.cons r0 (RepL.cons r1 (RepL.nil _)))).mono ?_
  rintro e W' ⟨r, v, E', H', rfl, hr, _, hx, rfl⟩
  cases hr
  exact ⟨_, rfl, _, _, _, [], _, [], hW', trodAll_cons_mk (shut_bool Try.underlying4 _) trodAll_mk0, hx.trodAll laidOut (by kernel_rfl) hA1 hlt, rfl, hx.kept _, fun h => by cases h⟩

theorem over : Rows.lineEndsRow.holds Try.pinned (OpenSpec.ofChange Rows.lineEndsSpec) :=
  OpenClaim.holds_of_wide 11 Try.f11 rfl rfl rfl rfl rfl rfl rfl ⟨rfl, rfl, rfl, rfl, rfl⟩ rfl rfl rfl rfl rfl (by kernel_rfl) Try.func11 (by kernel_rfl)
    (of_decide_eq_true (by kernel_rfl)) (by unfold Func.isWrapper; first | (rw [if_pos (by decide +kernel)]; kernel_rfl) | (rw [if_neg (by decide +kernel)]; exact ⟨rfl, rfl⟩))
    (fun os started H enc _ => lifted os started H enc)

theorem proved : Rows.LineEndsSaid := over
#print axioms proved
end Go.Proofs.Ytlajhbpkogekfaa.lineEnds
